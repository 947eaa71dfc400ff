/- A part of an evaluator for the model, proved sound: what it answers holds of the model; it speaks of every program, no condition. -/
import GoSem.Core.Code
import GoSem.Core.Program
import GoSem.Core.View
import GoSem.Core.World
import GoSem.Core.Utf8
import GoSem.Core.Region
import GoSem.Core.Layout
import GoSem.Op.Equal
import GoSem.Extern.Table
import Derived.CallsIn
import Derived.Laws.Sem
import GoSem.Dispatch
import Derived.Laws.Strings
import Derived.KernelRfl
import Derived.Laws.Externs
set_option linter.all false
namespace Go.AM
open Go
abbrev J2:=@Nat.le_refl
abbrev J3:=@List.mem_singleton
abbrev J4:=@Nat.eq_of_beq_eq_true
abbrev J5:=@List.getElem?_eq_some_iff
abbrev J6:=@Option.some.injEq
abbrev J7:=@List.getElem?_eq_getElem
abbrev J8:=@Result.andThen_ok
abbrev J9:=@Bool.false_eq_true
abbrev K9:=@Array.getElem?_eq_some_iff
abbrev U9:=@Bool.and_eq_true
abbrev Xb:=@Nat.lt_of_lt_of_le
abbrev Xd:=@Array.getD_eq_getD_getElem?
abbrev Xl:=@Nat.le_trans
abbrev Y1:=@Sem.run_bind
abbrev Y2:=@Nat.le_of_ble_eq_true
abbrev Y3:=@List.drop_zero
abbrev Y4:=@Array.getElem?_setIfInBounds_ne
abbrev Y5:=@List.mem_of_getElem?
abbrev Y6:=@List.drop_eq_getElem_cons
abbrev Y7:=@Option.some.inj
abbrev Y8:=@Nat.blt_eq
abbrev Z4:=@Array.getElem?_setIfInBounds_self_of_lt
abbrev Z5:=@Nat.ble_eq_true_of_le
abbrev Z6:=@List.drop_drop
abbrev Z7:=@List.mem_cons
abbrev Z8:=@List.getD_eq_getElem?_getD
abbrev Z9:=@List.mem_cons_of_mem
abbrev aar:=@List.take_of_length_le
abbrev aas:=@Bool.eq_iff_iff
abbrev aat:=@Sem.run_pure
abbrev aau:=@List.getElem?_append_left
abbrev aav:=@Nat.zero_add
abbrev aaw:=@Nat.mul_le_mul_right
abbrev aax:=@Bool.true_and
abbrev aay:=@Nat.add_zero
abbrev aaF:=@List.mem_append
abbrev aaG:=@Array.getElem?_eq_getElem
abbrev aaS:=@List.getElem?_of_mem
abbrev aaV:=@Array.toArray_toList
abbrev aaZ:=@List.map_cons
abbrev aa0:=@List.mem_of_mem_drop
abbrev abR:=@List.length_drop
abbrev abS:=@Bool.false_and
abbrev abT:=@List.drop_of_length_le
abbrev abU:=@Nat.mod_two_eq_zero_or_one
abbrev abV:=@List.getElem?_append_right
abbrev abW:=@List.length_cons
abbrev abX:=@List.getElem_mem
abbrev abY:=@List.getElem?_map
abbrev abZ:=@List.length_eq_zero_iff
abbrev ace:=@List.all_eq_true
abbrev ac0:=@Nat.beq_refl
abbrev ac1:=@List.length_map
abbrev ac2:=@Option.map_some
abbrev ac3:=@Bool.eq_false_iff
abbrev ac4:=@Option.map_eq_some_iff
abbrev ac5:=@List.length_append
abbrev ac7:=@Option.bind_eq_some_iff
abbrev adE:=@UInt8.toNat_inj
abbrev adW:=@Int.natCast_add
abbrev adX:=@Nat.succ_mul
abbrev adY:=@List.mem_range
abbrev adZ:=@Array.getElem?_replicate
abbrev ad3:=@List.mem_cons_self
abbrev ad4:=@List.getElem?_cons_succ
abbrev ad6:=@List.mem_append_left
abbrev ad7:=@List.take_succ_eq_append_getElem
abbrev aea:=@Bool.and_false
abbrev aeb:=@List.getElem?_inj
abbrev aec:=@List.nil_append
abbrev aed:=@List.getElem?_toArray
abbrev aef:=@List.mem_append_right
abbrev aeg:=@List.mem_map
abbrev aei:=@Option.bind_some
abbrev aej:=@Nat.add_sub_cancel_left
abbrev ae0:=@List.getElem_drop
abbrev ae1:=@List.map_append
abbrev ae2:=@List.take_succ_cons
abbrev ae3:=@Nat.add_mul
abbrev ae4:=@Nat.mul_comm
abbrev ae5:=@Bool.and_true
abbrev ae6:=@Bool.and_self
abbrev ae7:=@Nat.le_of_not_lt
abbrev ae8:=@Nat.le_div_iff_mul_le
abbrev ae9:=@Array.ext_getElem?
abbrev afm:=@List.mem_filter
abbrev afn:=@List.cons.injEq
abbrev afo:=@Nat.zero_mul
abbrev afp:=@List.nodup_cons
abbrev afq:=@Prod.ext_iff
abbrev afr:=@List.size_toArray
abbrev afs:=@Nat.lt_or_ge
abbrev aft:=@List.getElem?_take
abbrev afu:=@List.getElem?_eq_none
abbrev afv:=@Nat.add_assoc
abbrev afw:=@List.drop_eq_nil_iff
abbrev afx:=@List.mem_of_mem_take
abbrev afy:=@Calls.mono
abbrev afz:=@Nat.le_of_lt
abbrev afA:=@List.drop_length
abbrev afB:=@Nat.lt_irrefl
abbrev afC:=@Option.map_none
abbrev afD:=@Bool.or_eq_true
abbrev afE:=@Nat.lt_of_lt_of_eq
abbrev afF:=@List.getElem?_drop
abbrev afG:=@List.getElem_cons_zero
abbrev afH:=@Nat.lt_trichotomy
abbrev afI:=@List.take_zero
abbrev afJ:=@Bool.or_eq_false_iff
abbrev afK:=@List.cons_append
abbrev afL:=@List.not_mem_nil
abbrev afM:=@Nat.mod_eq_of_lt
abbrev afN:=@Nat.zero_le
abbrev afO:=@List.filter_eq_self
abbrev afP:=@List.length_pos_iff
abbrev afQ:=@List.mem_map_of_mem
abbrev afR:=@List.extract_eq_take_drop
abbrev afS:=@List.foldl_cons
abbrev agb:=@List.getElem?_zip_eq_some
abbrev agp:=@List.exists_mem_of_ne_nil
abbrev agw:=@Nat.mul_div_cancel
abbrev agx:=@Nat.pos_of_ne_zero
abbrev agy:=@List.map_map
abbrev ahd:=@Int.negSucc_eq
abbrev ahn:=@List.filter_cons_of_pos
abbrev aib:=@List.filter_cons_of_neg
abbrev aic:=@Nat.le_succ_of_le
abbrev aie:=@List.length_range
abbrev aif:=@Array.getElem?_eq_none
abbrev aii:=@List.filter_eq_nil_iff
abbrev aij:=@Array.setIfInBounds_eq_of_size_le
abbrev aik:=@Array.getElem?_push_lt
abbrev ail:=@Bool.not_true
abbrev ain:=@Prod.mk.injEq
abbrev aio:=@List.length_take
abbrev aip:=@List.getElem_map
abbrev aiq:=@Array.getElem?_modify
abbrev air:=@Nat.ne_of_lt
abbrev ais:=@List.contains_eq_mem
abbrev ait:=@Nat.mod_lt
abbrev aiu:=@List.range_eq_range'
abbrev aiv:=@List.forIn_cons
abbrev aiw:=@List.append_nil
abbrev aix:=@List.eq_nil_of_length_eq_zero
abbrev aiy:=@List.map_congr_left
abbrev aiz:=@List.flatten_append
abbrev aiA:=@Ne.symm
abbrev aiB:=@Nat.le_succ
abbrev aiC:=@Nat.add_sub_cancel
abbrev aiD:=@List.contains_cons
abbrev aiE:=@Array.forIn_toList
abbrev aiF:=@Array.getElem?_append_left
abbrev aiG:=@Bool.false_or
abbrev aiH:=@Bool.not_eq_true'
abbrev aiI:=@Int.toNat_natCast
abbrev aiJ:=@List.getElem_take
abbrev aiK:=@Array.mapM_eq_mapM_toList
abbrev aiL:=@List.mem_reverse
abbrev aiM:=@CallsIn.mono
abbrev aiN:=@Array.toList_map
abbrev aiO:=@Nat.sub_zero
abbrev aiP:=@Array.toList_inj
abbrev aiQ:=@Nat.add_comm
abbrev aiR:=@Nat.lt_succ_self
abbrev aiS:=@Nat.div_eq_of_lt
abbrev aiT:=@List.contains_eq_any_beq
abbrev aiU:=@Array.size_setIfInBounds
abbrev aiV:=@Option.isSome_iff_exists
abbrev aiW:=@List.getElem?_cons_zero
abbrev aiX:=@Nat.div_add_mod
abbrev aiY:=@Nat.mul_add_mod
abbrev ai9:=@Nat.mul_one
abbrev ajb:=@Bool.not_false
abbrev ajd:=@List.mapM_cons
abbrev aj0:=@List.map_drop
abbrev aj1:=@List.any_cons
abbrev aj2:=@List.map_take
end Go.AM
namespace Go.AM
open Go
noncomputable section
inductive T (α:Type) where
 | e:T α
 | nd:T α->α->T α->T α
inductive j3 where
 | undef
 | bool (b:Bool)
 | int (k:IntKind) (n:Int)
 | str (s:List UInt8)
 | nilPtr
 | ptr (id off:Nat)
 | nilSlice
 | slice (id off len cap:Nat)
 | sliceU (id off len es:Nat)
 | nilMap
 | map (id:Nat)
 | nilFunc
 | func (fn:Fn) (first captured:List j3)
 | nilIface
 | iface (t:TypeId) (v:j3)
 | agg (l:List j3)
 | tuple (l:List j3)
 | mZ (v:j3)
 deriving Inhabited
def j3.cells:j3->List j3
 | .agg l=>l
 | v=>[v]
inductive P6 where
 | loc (k:Nat)
 | slot (j:Nat)
 | con (v:j3)
 deriving Inhabited
inductive PK where
 | i | b | s
 deriving Inhabited,DecidableEq
inductive zM where
 | prim (k:PK) | flat (ks:List PK) | ptr | slice | map | func | iface
 deriving Inhabited,DecidableEq
inductive TH where
 | mov (x:P6)
 | pick (c a b:P6)
 | build (zero:List j3) (parts:List (Nat×Nat×P6))
 | nilCheck (x:P6)
 | ib (op:BinOp) (x y:P6)
 | eq (neg:Bool) (k:zM) (x y:P6)
 | not (x:P6)
 | neg (x:P6)
 | inv (x:P6)
 | conv (k:IntKind) (x:P6)
 | mkIface (t:TypeId) (x:P6)
 | mkFunc (fn:Fn) (first captured:List P6)
 | slStr (x:P6) (lo hi:Option P6)
 | slArr (es n:Nat) (x:P6) (lo hi:Option P6)
 | fAddr (off:Nat) (x:P6)
 | fld (off:Nat) (size:Option Nat) (x:P6)
 | iAddr (es:Nat) (x i:P6)
 | iAddrArr (es n:Nat) (x i:P6)
 | iArr (es n:Nat) (size:Option Nat) (x i:P6)
 | iStr (x i:P6)
 | ext (x:P6) (i:Nat)
 | len (x:P6)
 | lenS (x:P6)
 | cap (x:P6)
 | mm (max:Bool) (x:P6) (xs:List P6)
 | assert (t:TypeId) (zero:j3) (ok:Bool) (x:P6)
 deriving Inhabited
inductive Oc where
 | load (size:Option Nat) (a:P6)
 | look (kk:zM) (zero:j3) (ok:Bool) (m k:P6)
 | lenM (x:P6)
 | bytesStr (x:P6)
 | entry (it:P6)
 | slData (x:P6)
 | toUns (x:P6)
 | fromUns (oks:List (Nat×Nat)) (x:P6)
 deriving Inhabited
inductive Rh where
 | alloc (zero:List j3)
 | box (x:P6)
 | allocT (ty:Nat) (zero:List j3)
 | boxT (ty k:Nat) (x:P6)
 | buildSlice (es len:Nat) (zero:List j3) (parts:List (Nat×Nat×P6))
 | mkMap
 | mkSlice (es bytes:Nat) (zero:List j3) (len cap:P6)
 | strBytes (x:P6)
 | sl (es:Nat) (x:P6) (lo hi:Option P6)
 deriving Inhabited
inductive TI where
 | store (size:Nat) (a x:P6)
 | mapSet (kk:zM) (m k x:P6)
 | range (x:P6)
 | next (it:P6)
 | app (es:Nat) (zeros:Bool) (zero:List j3) (bytes:Nat) (s x:P6)
 | copy (es:Nat) (d s:P6)
 | clear (zero:List j3) (x:P6)
 | call (f:FuncId) (args:List P6)
 | callv (f:P6) (args:List P6)
 | defer (f:P6) (args:List P6)
 | panic (x:P6)
 | recover
 | bad
 | rangeS (x:P6)
 | nextS (it:P6)
 | appB (ty:Nat) (s x:P6)
 | ustr (ty:Nat) (p n:P6)
 | storeAp (size:Nat) (a x b:P6)
 deriving Inhabited
inductive yw where
 | p (o:TH)
 | r (o:Oc)
 | a (o:Rh)
 | e (o:TI)
 deriving Inhabited
structure Inst where
 op:yw
 dst:Option Nat
 guard:Option (P6×Bool)
 deriving Inhabited
inductive U6 where
 | skip
 | reg (ops:List Inst)
 | dreg (ids:Nat) (ops:List (Nat×Inst))
 | dreg2 (ids:Nat) (ops:List (Nat×Inst)) (tail:List Inst)
 | seq (a b:U6)
 | cond (c:P6) (thn els:U6)
 | block (id:Nat) (body:U6)
 | loop (body:U6)
 | exit (id:Nat)
 | ret
 | rangeFunc (f:P6) (params:List (Option Nat)) (assign body:U6)
 deriving Inhabited
inductive bK where
 | normal
 | exit (id:Nat)
 | ret
 deriving Inhabited,DecidableEq
inductive Mk where
 | c (id:Nat)
 | d (f:j3) (args:List j3)
 deriving Inhabited
inductive oO where
 | tmp (j:Nat)
 | cell (j:Nat) (size:Option Nat)
 deriving Inhabited
structure AFn where
 nargs:Nat
 args:List (Option Nat)
 nslots:Nat
 results:List oO
 body:U6
 deriving Inhabited
def gG:TH->List P6
 | .mov x=>[x]
 | .pick a b c=>[a,b,c]
 | .build _ ps=>ps.map (·.2.2)
 | .nilCheck x=>[x]
 | .ib _ x y=>[x,y]
 | .eq _ _ x y=>[x,y]
 | .not x=>[x]
 | .neg x=>[x]
 | .inv x=>[x]
 | .conv _ x=>[x]
 | .mkIface _ x=>[x]
 | .mkFunc _ a b=>a++b
 | .slStr x a b=>x::(a.toList++b.toList)
 | .slArr _ _ x a b=>x::(a.toList++b.toList)
 | .fAddr _ x=>[x]
 | .fld _ _ x=>[x]
 | .iAddr _ x i=>[x,i]
 | .iAddrArr _ _ x i=>[x,i]
 | .iArr _ _ _ x i=>[x,i]
 | .iStr x i=>[x,i]
 | .ext x _=>[x]
 | .len x=>[x]
 | .lenS x=>[x]
 | .cap x=>[x]
 | .mm _ x xs=>x::xs
 | .assert _ _ _ x=>[x]
def ay:Oc->List P6
 | .load _ a=>[a]
 | .look _ _ _ m x=>[m,x]
 | .lenM x=>[x]
 | .bytesStr x=>[x]
 | .entry x=>[x]
 | .slData x=>[x]
 | .toUns x=>[x]
 | .fromUns _ x=>[x]
def opsL:Rh->List P6
 | .alloc _=>[]
 | .box x=>[x]
 | .allocT _ _=>[]
 | .boxT _ _ x=>[x]
 | .buildSlice _ _ _ ps=>ps.map (·.2.2)
 | .mkMap=>[]
 | .mkSlice _ _ _ l c=>[l,c]
 | .strBytes x=>[x]
 | .sl _ x a b=>x::(a.toList++b.toList)
def opsE:TI->List P6
 | .store _ a x=>[a,x]
 | .mapSet _ a b c=>[a,b,c]
 | .range x=>[x]
 | .next x=>[x]
 | .app _ _ _ _ s x=>[s,x]
 | .copy _ d s=>[d,s]
 | .clear _ x=>[x]
 | .call _ a=>a
 | .callv g a=>g::a
 | .defer g a=>g::a
 | .panic x=>[x]
 | .recover=>[]
 | .bad=>[]
 | .rangeS x=>[x]
 | .nextS x=>[x]
 | .appB _ s x=>[s,x]
 | .ustr _ p n=>[p,n]
 | .storeAp _ a x b=>[a,x,b]
def CV:yw->List P6
 | .p o=>gG o
 | .r o=>ay o
 | .a o=>opsL o
 | .e o=>opsE o
variable {α β γ:Type}
def ob (o:Option α)(k:α->Option β):Option β:=Option.rec none (λa=>k a) o
def bi (b:Bool)(x y:α):α:=Bool.rec y x b
def T.get (t:T α):Nat->Option α:=
 T.rec (λ_=>none) (λ_ x _ ihl ihr i=>Nat.rec (some x) (λj _=>Nat.rec (ihl (Nat.div j 2)) (λ_ _=>ihr (Nat.div j 2)) (Nat.mod j 2)) i) t
def T.put (t:T α):Nat->α->T α:=
 T.rec (λ_ x=>.nd .e x .e) (λl y r ihl ihr i x=>Nat.rec (.nd l x r) (λj _=>Nat.rec (.nd (ihl (Nat.div j 2) x) y r) (λ_ _=>.nd l y (ihr (Nat.div j 2) x)) (Nat.mod j 2)) i) t
def T.nI (l:List α):T α->Nat->T α:=
 List.rec (λt _=>t) (λx _ ih t i=>ih (t.put i x) (Nat.succ i)) l
def T.ofList (l:List α):T α:=T.nI l .e 0
def T.slice (t:T α)(n:Nat):Nat->Option (List α):=
 Nat.rec (λ_=>some []) (λ_ ih i=>ob (t.get i) λx=>ob (ih (Nat.succ i)) λxs=>some (x::xs)) n
def T.rep (x:α)(n:Nat):T α->Nat->T α:=
 Nat.rec (λt _=>t) (λ_ ih t i=>ih (t.put i x) (Nat.succ i)) n
def takeN (n:Nat):List α->Option (List α):=
 Nat.rec (λ_=>some []) (λ_ ih l=>List.rec none (λx xs _=>ob (ih xs) λr=>some (x::r)) l) n
def jo (n:Nat):List α->List α:=
 Nat.rec (λl=>l) (λ_ ih l=>List.rec [] (λ_ xs _=>ih xs) l) n
def mK (n:Nat):List α->Option α:=
 Nat.rec (λl=>List.rec none (λx _ _=>some x) l) (λ_ ih l=>List.rec none (λ_ xs _=>ih xs) l) n
def nth (n:Nat):List j3->j3:=
 Nat.rec (λl=>List.rec j3.undef (λx _ _=>x) l) (λ_ ih l=>List.rec j3.undef (λ_ xs _=>ih xs) l) n
def aX (l m:List α):List α:=List.rec m (λx _ ih=>x::ih) l
def len' (l:List α):Nat:=List.rec 0 (λ_ _ ih=>Nat.succ ih) l
def lI (n:Nat)(vs:List α):List α->List α:=
 Nat.rec (λl=>aX vs (jo (len' vs) l)) (λ_ ih l=>List.rec [] (λx xs _=>x::ih xs) l) n
def gK (v:j3)(k:Nat->Nat->Option β):Option β:=match v with
 | .ptr i o=>k i o
 | _=>none
def qW (v:j3)(k:IntKind->Int->Option β):Option β:=match v with
 | .int a b=>k a b
 | _=>none
def nJ (v:j3)(k:Bool->Option β):Option β:=match v with
 | .bool b=>k b
 | _=>none
def lJ (v:j3)(k:List UInt8->Option β):Option β:=match v with
 | .str s=>k s
 | _=>none
def tF (v:j3)(k:List j3->Option β):Option β:=match v with
 | .agg l=>k l
 | _=>none
def KN (v:j3)(k:List j3->Option β):Option β:=match v with
 | .tuple l=>k l
 | _=>none
def wh (v:j3)(nl:Option β)(k:Nat->Option β):Option β:=match v with
 | .nilMap=>nl
 | .map i=>k i
 | _=>none
def jV (v:j3)(nl:Option β)(k:Nat->Nat->Nat->Nat->Option β)(u:Nat->Nat->Nat->Nat->Option β):Option β:=match v with
 | .nilSlice=>nl
 | .slice a b c d=>k a b c d
 | .sliceU a b c d=>u a b c d
 | _=>none
def KO (v:j3)(k:Fn->List j3->List j3->Option β):Option β:=match v with
 | .func f a b=>k f a b
 | _=>none
def KP (n:Int)(k:Nat->Option β):Option β:=match n with
 | .ofNat m=>k m
 | .negSucc _=>none
def gZ (v:j3)(k:Nat->Option β):Option β:=qW v λ_ n=>KP n k
inductive O9 where
 | void
 | dead
 | cells (rs n:Nat) (rows:T (List j3))
 | map (es:List (j3×j3))
 | iter (m:Option Nat) (since:Nat) (seen:List Nat)
 | tail (parent:Nat)
 | loop (st:LoopState) (pend:Option bK) (env:T j3) (params:List (Option Nat)) (assign body:U6)
 | deferred
 | siter (s:List UInt8) (pos:Nat)
 | buf (ty:Nat) (s:List UInt8)
 | mapU (es:List (j3×j3))
 deriving Inhabited
structure Mem where
 t:T O9
 nx:Nat
 lim:Nat
def Mem.get (m:Mem)(i:Nat):Option O9:=m.t.get i
def Mem.new (m:Mem)(b:O9):Mem:=⟨m.t.put m.nx b,Nat.succ m.nx,m.lim⟩
def Mem.set (m:Mem)(i:Nat)(b:O9):Mem:=⟨m.t.put i b,m.nx,m.lim⟩
def Q9 (b:Option O9)(k:Nat->Nat->T (List j3)->Option β):Option β:=match b with
 | some (.cells rs n rows)=>k rs n rows
 | _=>none
def Od (b:Option O9)(k:List (j3×j3)->Option β):Option β:=match b with
 | some (.map es)=>k es
 | _=>none
def KQ (b:Option O9)(k:List (j3×j3)->Option β):Option β:=match b with
 | some (.map es)=>k es
 | some (.mapU es)=>k es
 | _=>none
def aaQ (ty:Nat):List j3:=[.mZ (.int .u64 (.ofNat ty))]
def Gq (rows:T (List j3)):Option Nat:=ob (rows.get 1) λr=>List.rec none (λv _ _=>match v with
 | .mZ (.int .u64 (.ofNat n))=>some n
 | _=>none) r
def cell1 (rs n:Nat)(rows:T (List j3))(off:Nat):Option j3:=
 Bool.rec none (Option.rec none (λrow=>mK (Nat.mod off rs) row) (rows.get (Nat.div off rs))) (Nat.blt (Nat.div off rs) n)
def eU (rs n:Nat)(rows:T (List j3))(off k:Nat):Option (List j3):=
 bi (Nat.blt (Nat.div off rs) n) (ob (rows.get (Nat.div off rs)) λrow=>
  bi (Nat.beq (Nat.mod off rs) 0) (bi (Nat.beq k rs) (some row) (takeN k row)) (takeN k (jo (Nat.mod off rs) row))) none
def U4 (rs n:Nat)(rows:T (List j3))(k:Nat):Nat->Option (List j3):=
 Nat.rec (λ_=>some []) (λ_ ih off=>ob (cell1 rs n rows off) λv=>ob (ih (Nat.succ off)) λl=>some (v::l)) k
def aD (rs n:Nat)(rows:T (List j3))(off:Nat)(vs:List j3):Option (T (List j3)):=
 bi (Nat.blt (Nat.div off rs) n) (ob (rows.get (Nat.div off rs)) λrow=>
  bi (Nat.ble (Nat.add (Nat.mod off rs) (len' vs)) rs) (some (rows.put (Nat.div off rs) (lI (Nat.mod off rs) vs row))) none) none
def ig (rs n:Nat)(vs:List j3):T (List j3)->Nat->Option (T (List j3)):=
 List.rec (λrows _=>some rows) (λv _ ih rows off=>ob (aD rs n rows off [v]) λrows'=>ih rows' (Nat.succ off)) vs
def rowsOf (rs n:Nat):List j3->Option (List (List j3)):=
 Nat.rec (λl=>List.rec (some []) (λ_ _ _=>none) l) (λ_ ih l=>ob (takeN rs l) λr=>ob (ih (jo rs l)) λrest=>some (r::rest)) n
def K5 (v:j3):Bool:=match v with
 | .undef | .agg _ | .tuple _ | .mZ _=>false
 | _=>true
def O0 (l:List j3):Bool:=List.rec true (λv _ ih=>bi (K5 v) ih false) l
def storeAt (m:Mem)(id off:Nat)(vs:List j3)(k:Mem->Option β):Option β:=
 bi (Nat.blt id m.lim) none (bi (O0 vs) (Q9 (m.get id) λrs n rows=>ob (aD rs n rows off vs) λrows'=>k (m.set id (.cells rs n rows'))) none)
def jq (m:Mem)(id off:Nat)(vs:List j3)(k:Mem->Option β):Option β:=
 List.rec (k m) (λ_ _ _=>bi (Nat.blt id m.lim) none (bi (O0 vs) (Q9 (m.get id) λrs n rows=>ob (ig rs n vs rows off) λrows'=>k (m.set id (.cells rs n rows'))) none)) vs
abbrev OF:=List j3->T j3->j3
def bU (k:Nat):OF:=λls _=>nth k ls
def G6:OF:=λls _=>List.rec j3.undef (λx _ _=>x) ls
def bV:OF:=λls _=>List.rec j3.undef (λ_ l _=>List.rec j3.undef (λx _ _=>x) l) ls
def dw:OF:=λls _=>List.rec j3.undef (λ_ l _=>List.rec j3.undef (λ_ l _=>List.rec j3.undef (λx _ _=>x) l) l) ls
def lK:OF:=λls _=>List.rec j3.undef (λ_ l _=>List.rec j3.undef (λ_ l _=>List.rec j3.undef (λ_ l _=>List.rec j3.undef (λx _ _=>x) l) l) l) ls
def D8 (v:j3):OF:=λ_ _=>v
def gH:T j3->j3:=T.rec .undef (λ_ x _ _ _=>x)
def gL (g:T j3->j3):T j3->j3:=T.rec .undef (λl _ _ _ _=>g l)
def gR (g:T j3->j3):T j3->j3:=T.rec .undef (λ_ _ r _ _=>g r)
def I7 (g:T j3->j3):OF:=λ_ env=>g env
def way:Nat->Nat->T j3->j3
 | 0,_=>λ_=>.undef
 | _+1,0=>gH
 | n+1,j+1=>match j%2 with
  | 0=>gL (way n (j / 2))
  | _=>gR (way n (j / 2))
def F9:P6->OF
 | .loc 0=>G6
 | .loc 1=>bV
 | .loc 2=>dw
 | .loc 3=>lK
 | .loc k=>bU k
 | .slot j=>I7 (way 64 j)
 | .con v=>D8 v
def fD:List P6->List OF
 | []=>[]
 | x::l=>F9 x::fD l
def kG:Option P6->Option OF
 | none=>none
 | some x=>some (F9 x)
def evs (l:List OF)(ls:List j3)(env:T j3):List j3:=List.rec [] (λx _ ih=>x ls env::ih) l
def sH:j3->T j3->T j3:=λv=>T.rec .e (λl _ r _ _=>.nd l v r)
def sL (s:j3->T j3->T j3):j3->T j3->T j3:=λv=>T.rec .e (λl x r _ _=>.nd (s v l) x r)
def sR (s:j3->T j3->T j3):j3->T j3->T j3:=λv=>T.rec .e (λl x r _ _=>.nd l x (s v r))
def tH:Nat->Nat->j3->T j3->T j3
 | 0,_=>λ_ t=>t
 | _+1,0=>sH
 | n+1,j+1=>match j%2 with
  | 0=>sL (tH n (j / 2))
  | _=>sR (tH n (j / 2))
def K7:j3->T j3->T j3:=λ_ t=>t
def bW:Option Nat->j3->T j3->T j3
 | none=>K7
 | some j=>tH 64 j
def iU (n:Int):Int:=match n with
 | .ofNat m=>bi (Nat.blt m 9223372036854775808) (.ofNat m) (IntKind.i64.wrap (.ofNat m))
 | .negSucc m=>bi (Nat.blt m 9223372036854775808) (.negSucc m) (IntKind.i64.wrap (.negSucc m))
def sF (k:IntKind)(n:Int):Int:=match k with
 | .i64=>iU n
 | k=>k.wrap n
def aV:Int->Int->Bool
 | .ofNat a,.ofNat b=>Nat.beq a b
 | .negSucc a,.negSucc b=>Nat.beq a b
 | _,_=>false
def jF:Int->Int->Bool
 | .ofNat a,.ofNat b=>Nat.blt a b
 | .negSucc _,.ofNat _=>true
 | .ofNat _,.negSucc _=>false
 | .negSucc a,.negSucc b=>Nat.blt b a
def Xj (a b:IntKind):Bool:=match a,b with
 | .i64,.i64=>true
 | a,b=>decide (a=b)
def strEq (a:List UInt8):List UInt8->Bool:=
 List.rec (λb=>List.rec true (λ_ _ _=>false) b) (λx _ ih b=>List.rec false (λy ys _=>bi (Nat.beq x.toNat y.toNat) (ih ys) false) b) a
def qX:List UInt8->List UInt8->Bool
 | _,[]=>false
 | [],_ :: _=>true
 | a::x,b::y=>a<b||(a==b&&qX x y)
def yx (k:IntKind)(f:BitVec k.bits->BitVec k.bits->BitVec k.bits)(a b:Int):j3:=
 .int k (k.wrap (f (BitVec.ofInt k.bits a) (BitVec.ofInt k.bits b)).toNat)
def aaR (b:Int)(r:Option j3):Option j3:=match b with
 | .ofNat 0=>none
 | _=>r
abbrev IB:=IntKind->Int->Int->Option j3
def qc:IB:=λk a b=>some (.int k (sF k (a+b)))
def KR:IB:=λk a b=>some (.int k (sF k (a-b)))
def Xk:IB:=λk a b=>some (.int k (sF k (a*b)))
def aek:IB:=λk a b=>aaR b (some (.int k (sF k (a.tdiv b))))
def ael:IB:=λk a b=>aaR b (some (.int k (a.tmod b)))
def aem:IB:=λk a b=>some (yx k (· &&& ·) a b)
def iOr:IB:=λk a b=>some (yx k (· ||| ·) a b)
def aen:IB:=λk a b=>some (yx k (· ^^^ ·) a b)
def PU:IB:=λk a b=>some (yx k (λx y=>x &&& ~~~y) a b)
def jW:IB:=λ_ a b=>some (.bool (aV a b))
def KS:IB:=λ_ a b=>some (.bool (!aV a b))
def NV:IB:=λ_ a b=>some (.bool (jF a b))
def TW:IB:=λ_ a b=>some (.bool (!jF b a))
def Oe:IB:=λ_ a b=>some (.bool (jF b a))
def Xm:IB:=λ_ a b=>some (.bool (!jF a b))
def iNo:IB:=λ_ _ _=>none
abbrev SB:=List UInt8->List UInt8->Option j3
def qy:SB:=λa b=>bi (Nat.blt (Nat.add (len' a) (len' b)) 9223372036854775808) (some (.str (aX a b))) none
def jX:SB:=λa b=>some (.bool (strEq a b))
def KT:SB:=λa b=>some (.bool (!strEq a b))
def Og:SB:=λa b=>some (.bool (qX a b))
def Xn:SB:=λa b=>some (.bool (qX a b||strEq a b))
def PV:SB:=λa b=>some (.bool (!(qX a b||strEq a b)))
def sGe:SB:=λa b=>some (.bool (!qX a b))
def CW:SB:=λ_ _=>none
def IY:BinOp->IB
 | .add=>qc | .sub=>KR | .mul=>Xk | .quo=>aek | .rem=>ael | .and=>aem | .or=>iOr | .xor=>aen | .andNot=>PU
 | .shl=>iNo | .shr=>iNo | .eql=>jW | .neq=>KS | .lss=>NV | .leq=>TW | .gtr=>Oe | .geq=>Xm
def IZ:BinOp->SB
 | .add=>qy | .eql=>jX | .neq=>KT | .lss=>Og | .leq=>Xn | .gtr=>PV | .geq=>sGe
 | _=>CW
def BP (f:IB)(g:SB)(x y:j3):Option j3:=match x with
 | .int k a=>qW y λk' b=>bi (Xj k k') (f k a b) none
 | .str a=>lJ y λb=>g a b
 | _=>none
def Xo (x y:j3):Option j3:=qW x λk a=>gZ y λm=>some (.int k (sF k (a*2^(min m k.bits))))
def Xp (x y:j3):Option j3:=qW x λk a=>gZ y λm=>some (.int k (a.fdiv (2^(min m k.bits))))
def CX (a b:Bool):Bool:=bi a b (bi b false true)
def aF (x y:j3):Option Bool:=qW x λk a=>qW y λk' b=>bi (Xj k k') (some (aV a b)) none
def zQ (x y:j3):Option Bool:=nJ x λa=>nJ y λb=>some (CX a b)
def eqStr (x y:j3):Option Bool:=lJ x λa=>lJ y λb=>some (strEq a b)
def FI (k:PK):j3->j3->Option Bool:=match k with
 | .i=>aF
 | .b=>zQ
 | .s=>eqStr
def bH (ks:List PK):List j3->List j3->Option Bool:=
 List.rec (λ_ _=>some true) (λk _ ih a b=>List.rec none (λx xs _=>List.rec none (λy ys _=>ob (FI k x y) λr=>bi r (ih xs ys) (some false)) b) a) ks
def qd (ks:List PK)(x y:j3):Option Bool:=tF x λa=>tF y λb=>bH ks a b
def KU (x y:j3):Option Bool:=match x,y with
 | .nilPtr,.nilPtr=>some true
 | .nilPtr,.ptr _ _=>some false
 | .ptr _ _,.nilPtr=>some false
 | .ptr a b,.ptr c d=>bi (Nat.beq a c) (bi (Nat.beq b d) (some true) none) none
 | _,_=>none
def yA (x y:j3):Option Bool:=match x,y with
 | .nilSlice,.nilSlice=>some true
 | .nilSlice,.slice .. | .nilSlice,.sliceU ..=>some false
 | .slice ..,.nilSlice | .sliceU ..,.nilSlice=>some false
 | _,_=>none
def KV (x y:j3):Option Bool:=match x,y with
 | .nilMap,.nilMap=>some true
 | .nilMap,.map _ | .map _,.nilMap=>some false
 | _,_=>none
def CY (x y:j3):Option Bool:=match x,y with
 | .nilFunc,.nilFunc=>some true
 | .nilFunc,.func .. | .func ..,.nilFunc=>some false
 | _,_=>none
def fZ (x y:j3):Option Bool:=match x,y with
 | .nilIface,.nilIface=>some true
 | .nilIface,.iface .. | .iface ..,.nilIface=>some false
 | _,_=>none
abbrev Ja:=j3->j3->Option Bool
def lY:zM->Ja
 | .prim .i=>aF | .prim .b=>zQ | .prim .s=>eqStr | .flat ks=>qd ks | .ptr=>KU | .slice=>yA | .map=>KV | .func=>CY | .iface=>fZ
abbrev PF:=List j3->T j3->Option j3
def Q5 (x:OF):PF:=λls env=>some (x ls env)
def dZ (c a b:OF):PF:=λls env=>nJ (c ls env) λt=>some (bi t (a ls env) (b ls env))
def lay (ps:List (Nat×Nat×OF))(ls:List j3)(env:T j3):List j3->Option (List j3):=
 List.rec (λcs=>some cs) (λp _ ih cs=>
  bi (Nat.beq (len' (p.2.2 ls env).cells) p.2.1) (bi (Nat.ble (Nat.add p.1 p.2.1) (len' cs)) (ih (lI p.1 (p.2.2 ls env).cells cs)) none) none) ps
def L6 (zero:List j3)(ps:List (Nat×Nat×OF)):PF:=λls env=>ob (lay ps ls env zero) λl=>some (.agg l)
def zR (v:j3):Option j3:=match v with
 | .nilPtr | .nilIface | .nilFunc=>none
 | .func (.func f) a b=>some (.func (.func f) a b)
 | .func ..=>none
 | v=>some v
def cB (x:OF):PF:=λls env=>zR (x ls env)
def V9 (f:IB)(g:SB)(x y:OF):PF:=λls env=>BP f g (x ls env) (y ls env)
def aaT (x y:OF):PF:=λls env=>Xo (x ls env) (y ls env)
def aaU (x y:OF):PF:=λls env=>Xp (x ls env) (y ls env)
def pEq (f:Ja)(x y:OF):PF:=λls env=>ob (f (x ls env) (y ls env)) λb=>some (.bool b)
def Xq (f:Ja)(x y:OF):PF:=λls env=>ob (f (x ls env) (y ls env)) λb=>some (.bool (!b))
def KX (x:OF):PF:=λls env=>nJ (x ls env) λb=>some (.bool (!b))
def aaW (x:OF):PF:=λls env=>qW (x ls env) λk n=>some (yx k (· ^^^ ·) (bi k.signed (-1) k.max) n)
def aaX (x:OF):PF:=λls env=>qW (x ls env) λk n=>some (.int k (sF k (0-n)))
def PW (k:IntKind)(x:OF):PF:=λls env=>qW (x ls env) λ_ n=>some (.int k (sF k n))
def Jb (t:TypeId)(x:OF):PF:=λls env=>some (.iface t (x ls env))
def TY (fn:Fn)(a b:List OF):PF:=λls env=>some (.func fn (evs a ls env) (evs b ls env))
def eX (o:Option OF)(d:Nat)(ls:List j3)(env:T j3)(k:Nat->Option β):Option β:=
 Option.rec (k d) (λx=>gZ (x ls env) k) o
def jc (x:OF)(lo hi:Option OF):PF:=λls env=>lJ (x ls env) λs=>eX lo 0 ls env λl=>eX hi (len' s) ls env λh=>bi (Nat.ble l h) (bi (Nat.ble h (len' s)) (ob (takeN (Nat.sub h l) (jo l s)) λr=>some (.str r)) none) none
def Ua (es n:Nat)(x:OF)(lo hi:Option OF):PF:=λls env=>gK (x ls env) λid off=>eX lo 0 ls env λl=>eX hi n ls env λh=>bi (Nat.ble l h) (bi (Nat.ble h n) (some (.slice id (bi (Nat.beq l n) off (Nat.add off (Nat.mul l es))) (Nat.sub h l) (Nat.sub n l))) none) none
def G9 (o:Nat)(x:OF):PF:=λls env=>gK (x ls env) λid off=>some (.ptr id (Nat.add off o))
def Ub (off:Nat)(x:OF):PF:=λls env=>tF (x ls env) λcs=>mK off cs
def Uc (off k:Nat)(x:OF):PF:=λls env=>tF (x ls env) λcs=>ob (takeN k (jo off cs)) λl=>some (.agg l)
def idx (len:Nat)(v:j3)(k:Nat->Option β):Option β:=gZ v λi=>bi (Nat.blt i len) (k i) none
def aY (es:Nat)(x i:OF):PF:=λls env=>
 jV (x ls env) none (λid off len _=>idx len (i ls env) λk=>some (.ptr id (Nat.add off (Nat.mul k es))))
  (λid off len _=>idx len (i ls env) λk=>some (.ptr id (Nat.add off (Nat.mul k es))))
def zT (es n:Nat)(x i:OF):PF:=λls env=>gK (x ls env) λid off=>idx n (i ls env) λk=>some (.ptr id (Nat.add off (Nat.mul k es)))
def CZ (es n:Nat)(x i:OF):PF:=λls env=>tF (x ls env) λcs=>idx n (i ls env) λk=>mK (Nat.mul k es) cs
def Ud (es n sz:Nat)(x i:OF):PF:=λls env=>tF (x ls env) λcs=>idx n (i ls env) λk=>ob (takeN sz (jo (Nat.mul k es) cs)) λl=>some (.agg l)
def sG (x i:OF):PF:=λls env=>lJ (x ls env) λs=>gZ (i ls env) λk=>ob (mK k s) λb=>some (.int .u8 b.toNat)
def pExt (x:OF)(i:Nat):PF:=λls env=>KN (x ls env) λl=>mK i l
def lenOf (v:j3):Option Nat:=match v with
 | .nilSlice=>some 0
 | .slice _ _ n _=>some n
 | .sliceU _ _ n _=>some n
 | .str s=>some (len' s)
 | _=>none
def Da (x:OF):PF:=λls env=>jV (x ls env) (some (.int .i64 0)) (λ_ _ n _=>some (.int .i64 (.ofNat n))) (λ_ _ n _=>some (.int .i64 (.ofNat n)))
def Db (x:OF):PF:=λls env=>lJ (x ls env) λs=>some (.int .i64 (.ofNat (len' s)))
def aaY (x:OF):PF:=λls env=>jV (x ls env) (some (.int .i64 0)) (λ_ _ _ c=>some (.int .i64 (.ofNat c))) (λ_ _ _ _=>none)
def mm2 (mx:Bool)(x y:j3):Option j3:=qW x λk a=>qW y λ_ b=>some (.int k (bi mx (bi (jF a b) b a) (bi (jF b a) b a)))
def KY (mx:Bool)(ys:List j3):j3->Option j3:=List.rec (λx=>some x) (λy _ ih x=>ob (mm2 mx x y) ih) ys
def WM (mx:Bool)(x:OF)(xs:List OF):PF:=λls env=>KY mx (evs xs ls env) (x ls env)
def PX (t:TypeId)(zero:j3)(ok:Bool)(v:j3):Option j3:=match v with
 | .iface u y=>bi (Nat.beq u t) (some (bi ok (.tuple [y,.bool true]) y)) (bi ok (some (.tuple [zero,.bool false])) none)
 | .nilIface=>bi ok (some (.tuple [zero,.bool false])) none
 | _=>none
def qY (t:TypeId)(zero:j3)(ok:Bool)(x:OF):PF:=λls env=>PX t zero ok (x ls env)
def zU:List (Nat×Nat×P6)->List (Nat×Nat×OF)
 | []=>[]
 | p::l=>(p.1,p.2.1,F9 p.2.2)::zU l
def nk:TH->PF
 | .mov x=>Q5 (F9 x)
 | .pick c a b=>dZ (F9 c) (F9 a) (F9 b)
 | .build z ps=>L6 z (zU ps)
 | .nilCheck x=>cB (F9 x)
 | .ib op x y=>match op with
  | .shl=>aaT (F9 x) (F9 y)
  | .shr=>aaU (F9 x) (F9 y)
  | op=>V9 (IY op) (IZ op) (F9 x) (F9 y)
 | .eq neg k x y=>match neg with
  | true=>Xq (lY k) (F9 x) (F9 y)
  | false=>pEq (lY k) (F9 x) (F9 y)
 | .not x=>KX (F9 x)
 | .neg x=>aaX (F9 x)
 | .inv x=>aaW (F9 x)
 | .conv k x=>PW k (F9 x)
 | .mkIface t x=>Jb t (F9 x)
 | .mkFunc fn a b=>TY fn (fD a) (fD b)
 | .slStr x lo hi=>jc (F9 x) (kG lo) (kG hi)
 | .slArr es n x lo hi=>Ua es n (F9 x) (kG lo) (kG hi)
 | .fAddr o x=>G9 o (F9 x)
 | .fld off size x=>match size with
  | none=>Ub off (F9 x)
  | some k=>Uc off k (F9 x)
 | .iAddr es x i=>aY es (F9 x) (F9 i)
 | .iAddrArr es n x i=>zT es n (F9 x) (F9 i)
 | .iArr es n size x i=>match size with
  | none=>CZ es n (F9 x) (F9 i)
  | some k=>Ud es n k (F9 x) (F9 i)
 | .iStr x i=>sG (F9 x) (F9 i)
 | .ext x i=>pExt (F9 x) i
 | .len x=>Da (F9 x)
 | .lenS x=>Db (F9 x)
 | .cap x=>aaY (F9 x)
 | .mm mx x xs=>WM mx (F9 x) (fD xs)
 | .assert t z ok x=>qY t z ok (F9 x)
abbrev RF:=List j3->T j3->Mem->Option j3
def qg (a:OF):RF:=λls env m=>gK (a ls env) λid off=>Q9 (m.get id) λrs n rows=>cell1 rs n rows off
def aZ (k:Nat)(a:OF):RF:=λls env m=>gK (a ls env) λid off=>Q9 (m.get id) λrs n rows=>ob (eU rs n rows off k) λl=>some (.agg l)
def findKey (f:Ja)(k:j3)(es:List (j3×j3)):Nat->Option (Option (Nat×j3)):=
 List.rec (λ_=>some none) (λe _ ih i=>ob (f k e.1) λb=>bi b (some (some (i,e.2))) (ih (Nat.succ i))) es
def found (ok:Bool)(zero:j3)(o:Option (Nat×j3)):Option j3:=
 Option.rec (some (bi ok (.tuple [zero,.bool false]) zero)) (λp=>some (bi ok (.tuple [p.2,.bool true]) p.2)) o
def W9 (f:Ja)(n:Nat)(k:j3)(es:List (j3×j3)):Option (Option (Nat×j3)):=
 bi (Nat.beq (len' k.cells) n) (List.rec (ob (f k k) λ_=>some none) (λ_ _ _=>findKey f k es 0) es) none
def ZT (f:Ja)(n:Nat)(zero:j3)(ok:Bool)(mp k:OF):RF:=λls env m=>wh (mp ls env) (ob (W9 f n (k ls env) []) λr=>found ok zero r) λid=>KQ (m.get id) λes=>ob (W9 f n (k ls env) es) λr=>found ok zero r
def ZU (x:OF):RF:=λls env m=>wh (x ls env) (some (.int .i64 0)) λid=>Od (m.get id) λes=>some (.int .i64 (.ofNat (len' es)))
def bytesOf:List UInt8->List j3
 | []=>[]
 | b::l=>.int .u8 b.toNat::bytesOf l
def byteOf:List j3->Option (List UInt8)
 | []=>some []
 | .int .u8 (.ofNat n)::l=>match byteOf l with
  | some s=>some (UInt8.ofNat n::s)
  | none=>none
 | _ :: _=>none
def X0 (m:Mem)(id off n:Nat):Option (List j3):=
 Nat.rec (some []) (λ_ _=>Q9 (m.get id) λrs k rows=>U4 rs k rows n off) n
def iW (m:Mem)(es n:Nat)(v:j3):Option (List j3):=match v with
 | .nilSlice=>some []
 | .slice id off _ _=>X0 m id off (Nat.mul n es)
 | .sliceU id off _ _=>X0 m id off (Nat.mul n es)
 | .str s=>some (bytesOf (s.take n))
 | _=>none
def fK (x:OF):RF:=λls env m=>
 jV (x ls env) (some (.str [])) (λid off len _=>ob (X0 m id off len) λl=>ob (byteOf l) λs=>some (.str s))
  (λid off len _=>ob (X0 m id off len) λl=>ob (byteOf l) λs=>some (.str s))
def Gr (b:Option O9)(nl:Option β)(k:Nat->Nat->List Nat->Option β):Option β:=match b with
 | some (.iter none _ _)=>nl
 | some (.iter (some mp) since seen)=>k mp since seen
 | _=>none
def qZ (it:OF):RF:=λls env m=>gK (it ls env) λid off=>bi (Nat.beq off 0)
 (Gr (m.get id) none λmp since seen=>List.rec none (λi _ _=>Od (m.get mp) λes=>bi (Nat.beq (len' es) since) (ob (mK i es) λe=>some (.tuple [e.1,e.2])) none) seen) none
def PY (x:OF):RF:=λls env _=>jV (x ls env) (some .nilPtr) (λid off _ cap=>bi (Nat.blt 0 cap) (some (.ptr id off)) none) (λid off len _=>bi (Nat.blt 0 len) (some (.ptr id off)) none)
def wX (x:OF):RF:=λls env m=>match x ls env with
 | .nilPtr=>some .nilPtr
 | .ptr id off=>Q9 (m.get id) λrs n _=>bi (Nat.blt off (Nat.mul n rs)) (some (.ptr id off)) none
 | _=>none
def Xr (ty off:Nat)(l:List (Nat×Nat)):Bool:=List.rec false (λp _ ih=>bi (Nat.beq p.1 ty) (bi (Nat.beq p.2 off) true ih) ih) l
def nK (oks:List (Nat×Nat))(x:OF):RF:=λls env m=>match x ls env with
 | .nilPtr=>some .nilPtr
 | .ptr id off=>Q9 (m.get id) λ_ n rows=>bi (Nat.beq n 1) (ob (Gq rows) λty=>bi (Xr ty off oks) (some (.ptr id off)) none) none
 | _=>none
def zV:zM->Nat
 | .flat ks=>ks.length
 | _=>1
def ru:Oc->RF
 | .load size a=>match size with
  | none=>qg (F9 a)
  | some k=>aZ k (F9 a)
 | .look kk zero ok m k=>ZT (lY kk) (zV kk) zero ok (F9 m) (F9 k)
 | .lenM x=>ZU (F9 x)
 | .bytesStr x=>fK (F9 x)
 | .entry it=>qZ (F9 it)
 | .slData x=>PY (F9 x)
 | .toUns x=>wX (F9 x)
 | .fromUns oks x=>nK oks (F9 x)
abbrev LR:=Option (j3×Option O9)
abbrev LF:=List j3->T j3->Nat->LR
def j4 (cs:List j3):O9:=.cells (len' cs) 1 (.nd .e cs .e)
def vJ (es n:Nat)(cells:List j3)(k:O9->Option β):Option β:=ob (rowsOf es n cells) λrows=>k (.cells es n (T.ofList rows))
def PZ (ty:Nat)(cs:List j3):O9:=.cells (len' cs) 1 (.nd (.nd .e (aaQ ty) .e) cs .e)
def Xt (ty:Nat)(zero:List j3):LF:=λ_ _ nid=>some (.ptr nid 0,some (PZ ty zero))
def ZV (ty k:Nat)(x:OF):LF:=λls env nid=>bi (Nat.beq (len' (x ls env).cells) k) (some (.ptr nid 0,some (PZ ty (x ls env).cells))) none
def eu (zero:List j3):LF:=λ_ _ nid=>some (.ptr nid 0,some (j4 zero))
def Ri (x:OF):LF:=λls env nid=>some (.ptr nid 0,some (j4 (x ls env).cells))
def U0 (zero:List j3)(n:Nat):List j3:=Nat.rec [] (λ_ ih=>aX zero ih) n
def F8 (es len:Nat)(zero:List j3)(ps:List (Nat×Nat×OF)):LF:=λls env nid=>ob (lay ps ls env (U0 zero len)) λcells=>vJ es len cells λb=>some (.slice nid 0 len len,some b)
def Dc:LF:=λ_ _ nid=>some (.map nid,some (.map []))
def KZ (es bytes:Nat)(zero:List j3)(len cap:OF):LF:=λls env nid=>
 gZ (len ls env) λl=>gZ (cap ls env) λc=>
  bi (Nat.ble l c) (bi (Nat.ble (Nat.mul bytes c) 281474976710656) (bi (Nat.blt c 9223372036854775808)
   (some (.slice nid 0 l c,some (.cells es c (T.rep zero c .e 0)))) none) none) none
def Gs (x:OF):LF:=λls env nid=>lJ (x ls env) λs=>vJ 1 (len' s) (bytesOf s) λb=>some (.sliceU nid 0 (len' s) 1,some b)
def L9 (nid es:Nat)(x:j3)(lo:Nat)(hi:Option Nat):LR:=
 jV x (bi (Nat.beq lo 0) (Option.rec (some (.nilSlice,none)) (λh=>bi (Nat.beq h 0) (some (.nilSlice,none)) none) hi) none)
  (λid off len cap=>Option.rec (known id off cap len) (λh=>known id off cap h) hi)
  (λid off len es'=>Option.rec (unk id off len es' len) (λh=>unk id off len es' h) hi)
where
 known (id off cap h:Nat):LR:=bi (Nat.ble lo h) (bi (Nat.ble h cap)
  (some (.slice id (bi (Nat.beq lo cap) off (Nat.add off (Nat.mul lo es))) (Nat.sub h lo) (Nat.sub cap lo),none)) none) none
 unk (id off len es' h:Nat):LR:=bi (Nat.ble lo h) (bi (Nat.ble h len) (bi (Nat.beq es es')
  (bi (Nat.blt lo len) (some (.sliceU id (Nat.add off (Nat.mul lo es)) (Nat.sub h lo) es,none))
   (bi (Nat.beq lo 0) (some (.sliceU id off (Nat.sub h lo) es,none)) (some (.sliceU nid 0 0 es,some (.tail id))))) none) none) none
def ZW (es:Nat)(x:OF)(lo hi:Option OF):LF:=λls env nid=>eX lo 0 ls env λl=>Option.rec (L9 nid es (x ls env) l none) (λh=>gZ (h ls env) λh=>L9 nid es (x ls env) l (some h)) hi
def wH:Rh->LF
 | .alloc zero=>eu zero
 | .box x=>Ri (F9 x)
 | .allocT ty zero=>Xt ty zero
 | .boxT ty k x=>ZV ty k (F9 x)
 | .buildSlice es len zero ps=>F8 es len zero (zU ps)
 | .mkMap=>Dc
 | .mkSlice es bytes zero l c=>KZ es bytes zero (F9 l) (F9 c)
 | .strBytes x=>Gs (F9 x)
 | .sl es x lo hi=>ZW es (F9 x) (kG lo) (kG hi)
structure VM where
 v:j3
 m:Mem
abbrev bX:=Option (List VM)
abbrev F4:=Fn->List j3->Mem->bX
abbrev EF:=F4->List j3->T j3->Mem->bX
def one (v:j3)(m:Mem):bX:=some [⟨v,m⟩]
def I6 (size:Nat)(a x:OF):EF:=λ_ ls env m=>gK (a ls env) λid off=>bi (Nat.beq (len' (x ls env).cells) size) (storeAt m id off (x ls env).cells λm'=>one .undef m') none
def tJ (size:Nat)(a x b:OF):EF:=λcf ls env m=>gK (a ls env) λi _=>gK (b ls env) λj _=>bi (Nat.beq i j) none (I6 size a x cf ls env m)
def dL (es:List (j3×j3))(k v:j3):Nat->List (j3×j3):=
 List.rec (λ_=>[]) (λe es ih i=>Nat.rec ((k,v)::es) (λj _=>e::ih j) i) es
def nL (m:Mem)(id:Nat)(k:j3)(es:List (j3×j3)):bX:=match m.get id with
 | some (.mapU _)=>lJ k λ_=>one .undef (m.set id (.mapU es))
 | _=>one .undef (m.set id (.map es))
def P9 (f:Ja)(n:Nat)(mp k x:OF):EF:=λ_ ls env m=>wh (mp ls env) none λid=>bi (Nat.blt id m.lim) none
 (KQ (m.get id) λes=>ob (W9 f n (k ls env) es) λr=>
  Option.rec (nL m id (k ls env) (aX es [(k ls env,x ls env)])) (λp=>ob (mK p.1 es) λe=>
   bi (Nat.beq (len' e.1.cells) n) (nL m id (k ls env) (dL es (k ls env) (x ls env) p.1)) none) r)
def nM (x:OF):EF:=λ_ ls env m=>wh (x ls env) (one (.ptr m.nx 0) (m.new (.iter none 0 [])))
 λid=>Od (m.get id) λes=>one (.ptr m.nx 0) (m.new (.iter (some id) (len' es) []))
def rz (n:Nat)(l:List Nat):Bool:=List.rec false (λx _ ih=>bi (Nat.beq x n) true ih) l
def nexts (m:Mem)(id mp since:Nat)(seen:List Nat)(es:List (j3×j3)):Nat->List VM:=
 List.rec (λ_=>[]) (λe _ ih i=>bi (rz i seen) (ih (Nat.succ i))
  (⟨.tuple [.bool true,e.1,e.2],m.set id (.iter (some mp) since (i::seen))⟩::ih (Nat.succ i))) es
def Jc (m:Mem)(l:List VM):List VM:=List.rec [⟨.tuple [.bool false],m⟩] (λx xs _=>x::xs) l
def AV (it:OF):EF:=λ_ ls env m=>gK (it ls env) λid off=>bi (Nat.beq off 0) (bi (Nat.blt id m.lim) none
 (Gr (m.get id) (one (.tuple [.bool false]) m) λmp since seen=>Od (m.get mp) λes=>
  bi (Nat.beq (len' es) since) (some (Jc m (nexts m id mp since seen es 0))) none)) none
def big (n bytes es:Nat):Bool:=bi (Nat.ble (Nat.mul (Nat.add (Nat.mul 2 n) 2048) bytes) 281474976710656) (bi (Nat.ble 1 es) (Nat.ble 1 bytes) false) false
def grown (m:Mem)(es n:Nat)(cells:List j3):bX:=vJ es n cells λb=>one (.sliceU m.nx 0 n es) (m.new b)
def ab0 (m:Mem)(es bytes n:Nat)(new:List j3):bX:=
 Nat.rec (one .nilSlice m) (λ_ _=>bi (big n bytes es) (grown m es n new) none) n
def Df (m:Mem)(es bytes n:Nat)(new:List j3)(id off len cap:Nat):bX:=
 bi (Nat.ble (Nat.add len n) cap) (jq m id (Nat.add off (Nat.mul len es)) new λm'=>one (.slice id off (Nat.add len n) cap) m')
  (bi (big (Nat.add len n) bytes es) (ob (X0 m id off (Nat.mul len es)) λold=>grown m es (Nat.add len n) (aX old new)) none)
def La (b:Option O9)(c:Nat->Nat->T (List j3)->Option β)(k:Nat->Option β):Option β:=match b with
 | some (.cells rs n rows)=>c rs n rows
 | some (.tail p)=>k p
 | _=>none
def Ue (m:Mem)(es bytes n:Nat)(new:List j3)(id off len es':Nat):bX:=
 Nat.rec (one (.sliceU id off len es') m) (λ_ _=>bi (Nat.beq es es') (bi (big (Nat.add len n) bytes es) (bi (Nat.ble m.lim id) (bi (O0 new)
  (La (m.get id)
   (λrs k rows=>
    bi (bi (Nat.beq rs es) (bi (Nat.beq off 0) (bi (Nat.ble len k) (bi (Nat.beq n 1) (bi (Nat.beq (len' new) es) (Nat.blt 0 len) false) false) false) false) false)
     (one (.sliceU m.nx 0 (Nat.succ len) es) ((m.set id .dead).new (.cells es (Nat.succ len) (rows.put len new))))
     (ob (U4 rs k rows (Nat.mul len es) off) λold=>grown (m.set id .dead) es (Nat.add len n) (aX old new)))
   (λp=>Q9 (m.get p) λ_ _ _=>bi (Nat.ble m.lim p) (bi (Nat.beq len 0) (grown (m.set p .dead) es n new) none) none)) none) none) none) none) n
def Gt (m:Mem)(es bytes n:Nat)(new:List j3)(s:j3):bX:=
 jV s (ab0 m es bytes n new) (λa b c d=>Df m es bytes n new a b c d) (λa b c d=>Ue m es bytes n new a b c d)
def qh (es bytes:Nat)(s x:OF):EF:=λ_ ls env m=>ob (lenOf (x ls env)) λn=>ob (iW m es n (x ls env)) λnew=>Gt m es bytes n new (s ls env)
def ZX (es:Nat)(zero:List j3)(bytes:Nat)(s x:OF):EF:=λ_ ls env m=>gZ (x ls env) λn=>bi (Nat.ble (Nat.mul n bytes) 281474976710656) (bi (Nat.blt n 9223372036854775808) (Gt m es bytes n (U0 zero n) (s ls env)) none) none
def Uf (es:Nat)(d s:OF):EF:=λ_ ls env m=>ob (lenOf (s ls env)) λn=>jV (d ls env) (one (.int .i64 0) m) (λid off len _=>go m n id off len (s ls env)) (λid off len _=>go m n id off len (s ls env))
where
 go (m:Mem) (n id off len:Nat) (s:j3):bX:=ob (iW m es (Nat.min n len) s) λcells=>jq m id off cells λm'=>one (.int .i64 (.ofNat (Nat.min n len))) m'
def Ug (zero:List j3)(x:OF):EF:=λ_ ls env m=>
 jV (x ls env) (one (.tuple []) m) (λid off len _=>jq m id off (U0 zero len) λm'=>one (.tuple []) m')
  (λid off len _=>jq m id off (U0 zero len) λm'=>one (.tuple []) m')
def D6 (f:FuncId)(args:List OF):EF:=λcf ls env m=>cf (.func f) (evs args ls env) m
def Uh (cf:F4)(m:Mem)(args:List j3)(v:j3):bX:=KO v λfn a b=>match fn with
 | .func f=>cf (.func f) (aX a (aX args b)) m
 | .yield l=>cf (.yield l) (aX a args) m
 | _=>none
def Jd (f:OF)(args:List OF):EF:=λcf ls env m=>Uh cf m (evs args ls env) (f ls env)
def Ui (v:j3)(m:Mem):bX:=match v with
 | .iface t x=>one (.mZ (.iface t x)) m
 | _=>none
def Je (b:Option O9)(k:List UInt8->Nat->Option β):Option β:=match b with
 | some (.siter s pos)=>k s pos
 | _=>none
def Cj (x:OF):EF:=λ_ ls env m=>lJ (x ls env) λs=>one (.ptr m.nx 0) (m.new (.siter s 0))
def Dg (it:OF):EF:=λ_ ls env m=>gK (it ls env) λid off=>bi (Nat.beq off 0) (bi (Nat.blt id m.lim) none
 (Je (m.get id) λs pos=>bi (Nat.blt pos (len' s))
  ((λ(r:Nat×Nat)=>one (.tuple [.bool true,.int .i64 (.ofNat pos),.int .i32 (.ofNat r.1)]) (m.set id (.siter s (Nat.add pos r.2)))) (Utf8.decode ⟨s.toArray⟩ pos))
  (one (.tuple [.bool false]) m))) none
def Qa (ty:Nat)(s x:OF):EF:=λcf ls env m=>match s ls env with
 | .nilSlice=>lJ (x ls env) λt=>List.rec (one .nilSlice m) (λ_ _ _=>bi (big (len' t) 1 1) (one (.sliceU m.nx 0 (len' t) 1) (m.new (.buf ty t))) none) t
 | .sliceU id off len es=>match m.get id with
  | some (.buf ty' s0)=>lJ (x ls env) λt=>bi (Nat.beq ty ty') (bi (Nat.beq off 0) (bi (Nat.beq es 1) (bi (Nat.beq len (len' s0)) (bi (Nat.ble m.lim id) (List.rec (one (.sliceU id off len es) m) (λ_ _ _=>bi (big (Nat.add len (len' t)) 1 1) (one (.sliceU m.nx 0 (Nat.add len (len' t)) 1) ((m.set id .dead).new (.buf ty (aX s0 t)))) none) t) none) none) none) none) none
  | _=>qh 1 1 s x cf ls env m
 | _=>qh 1 1 s x cf ls env m
def ab1 (v:j3)(k:Nat->Option β):Option β:=match v with
 | .int .i64 (.ofNat n)=>k n
 | _=>none
def ZY (ty:Nat)(p n:OF):EF:=λ_ ls env m=>ab1 (n ls env) λk=>match p ls env with
 | .nilPtr=>bi (Nat.beq k 0) (one (.str []) m) none
 | .ptr id off=>bi (Nat.beq off 0) (bi (Nat.ble m.lim id) (match m.get id with
  | some (.buf ty' s)=>bi (Nat.beq ty ty') (bi (Nat.beq k (len' s)) (bi (Nat.ble k 9223372036854775807) (one (.str s) (m.set id .dead)) none) none) none
  | _=>none) none) none
 | _=>none
def tK (x:OF):EF:=λ_ ls env m=>Ui (x ls env) m
def Xu:EF:=λ_ _ _ _=>none
def nu:TI->EF
 | .store size a x=>I6 size (F9 a) (F9 x)
 | .storeAp size a x b=>tJ size (F9 a) (F9 x) (F9 b)
 | .mapSet kk m k x=>P9 (lY kk) (zV kk) (F9 m) (F9 k) (F9 x)
 | .range x=>nM (F9 x)
 | .next it=>AV (F9 it)
 | .app es zeros zero bytes s x=>match zeros with
  | true=>ZX es zero bytes (F9 s) (F9 x)
  | false=>qh es bytes (F9 s) (F9 x)
 | .copy es d s=>Uf es (F9 d) (F9 s)
 | .clear zero x=>Ug zero (F9 x)
 | .call f args=>D6 f (fD args)
 | .callv f args=>Jd (F9 f) (fD args)
 | .panic x=>tK (F9 x)
 | .defer _ _=>Xu
 | .recover=>Xu
 | .bad=>Xu
 | .rangeS x=>Cj (F9 x)
 | .nextS it=>Dg (F9 it)
 | .appB ty s x=>Qa ty (F9 s) (F9 x)
 | .ustr ty p n=>ZY ty (F9 p) (F9 n)
def Dh (f:α->Option (List β))(l:List α):Option (List β):=
 List.rec (some []) (λa _ ih=>ob (f a) λx=>ob ih λy=>some (x++y)) l
def bnd (x:Option (List α))(f:α->Option (List β)):Option (List β):=
 Option.rec none (λl=>List.rec (some []) (λa t _=>List.rec (f a) (λ_ _ _=>Dh f l) t) l) x
structure EM where
 env:T j3
 m:Mem
 px:Option j3
 mks:List Mk
def dx (v:j3)(p:j3->β)(q:β):β:=match v with
 | .mZ x=>p x
 | _=>q
abbrev RC:=F4->List j3->T j3->Mem->Option (List EM)
def r9:RC:=λ_ _ env m=>some [⟨env,m,none,[]⟩]
def K8 (f:PF)(d:j3->T j3->T j3)(k:RC):RC:=λcf ls env m=>Option.rec none (λv=>k cf (v::ls) (d v env) m) (f ls env)
def o7 (f:PF)(k:RC):RC:=λcf ls env m=>Option.rec none (λv=>k cf (v::ls) env m) (f ls env)
def rcR (f:RF)(d:j3->T j3->T j3)(k:RC):RC:=λcf ls env m=>Option.rec none (λv=>k cf (v::ls) (d v env) m) (f ls env m)
def F6 (f:RF)(k:RC):RC:=λcf ls env m=>Option.rec none (λv=>k cf (v::ls) env m) (f ls env m)
def bM (m:Mem)(b:Option O9):Mem:=Option.rec m (λb=>m.new b) b
def fM (f:LF)(d:j3->T j3->T j3)(k:RC):RC:=λcf ls env m=>ob (f ls env m.nx) λr=>k cf (r.1::ls) (d r.1 env) (bM m r.2)
def bN (f:LF)(k:RC):RC:=λcf ls env m=>Option.rec none (λr=>k cf (r.1::ls) env (bM m r.2)) (f ls env m.nx)
def D5 (f:EF)(k:RC):RC:=λcf ls env m=>bnd (f cf ls env m) λr=>dx r.v (λx=>some [⟨env,r.m,some x,[]⟩]) (k cf (r.v::ls) env r.m)
def AX (f:EF)(d:j3->T j3->T j3)(k:RC):RC:=λcf ls env m=>bnd (f cf ls env m) λr=>dx r.v (λx=>some [⟨env,r.m,some x,[]⟩]) (k cf (r.v::ls) (d r.v env) r.m)
def Gu (f:OF)(args:List OF):RC:=λ_ ls env m=>KO (f ls env) λfn a b=>some [⟨env,m,none,[.d (.func fn a b) (evs args ls env)]⟩]
def oP (w:Bool)(v:j3):Bool:=match v with
 | .bool b=>CX b w
 | _=>false
def gP (x:OF)(w:Bool)(f:PF):PF:=λls env=>bi (oP w (x ls env)) (f ls env) (some .undef)
def Rj (x:OF)(w:Bool)(f:RF):RF:=λls env m=>bi (oP w (x ls env)) (f ls env m) (some .undef)
def gLk (x:OF)(w:Bool)(f:LF):LF:=λls env i=>bi (oP w (x ls env)) (f ls env i) (some (.undef,none))
def gE (x:OF)(w:Bool)(f:EF):EF:=λcf ls env m=>bi (oP w (x ls env)) (f cf ls env m) (one .undef m)
def FJ (g:Option (P6×Bool))(f:PF):PF:=match g with
 | none=>f
 | some (x,w)=>gP (F9 x) w f
def wY (g:Option (P6×Bool))(f:RF):RF:=match g with
 | none=>f
 | some (x,w)=>Rj (F9 x) w f
def BQ (g:Option (P6×Bool))(f:LF):LF:=match g with
 | none=>f
 | some (x,w)=>gLk (F9 x) w f
def Jf (g:Option (P6×Bool))(f:EF):EF:=match g with
 | none=>f
 | some (x,w)=>gE (F9 x) w f
def TJ (o:yw)(d:Option Nat)(g:Option (P6×Bool))(k:RC):RC:=match o with
 | .p o=>match d with
  | none=>o7 (FJ g (nk o)) k
  | some j=>K8 (FJ g (nk o)) (bW (some j)) k
 | .r o=>match d with
  | none=>F6 (wY g (ru o)) k
  | some j=>rcR (wY g (ru o)) (bW (some j)) k
 | .a o=>match d with
  | none=>bN (BQ g (wH o)) k
  | some j=>fM (BQ g (wH o)) (bW (some j)) k
 | .e o=>match d with
  | none=>D5 (Jf g (nu o)) k
  | some j=>AX (Jf g (nu o)) (bW (some j)) k
def oW (i:Inst):Option (P6×List P6):=match i.op,i.guard,i.dst with
 | .e (.defer f as),none,none=>some (f,as)
 | _,_,_=>none
def Di (i:Inst):RC:=match oW i with
 | some p=>Gu (F9 p.1) (fD p.2)
 | none=>TJ i.op i.dst i.guard r9
def bC:List Inst->RC
 | []=>r9
 | [i]=>Di i
 | i::j::l=>TJ i.op i.dst i.guard (bC (j::l))
def jY (f:P6->P6):TH->TH
 | .mov x=>.mov (f x)
 | .pick a b c=>.pick (f a) (f b) (f c)
 | .build z ps=>.build z (ps.map λp=>(p.1,p.2.1,f p.2.2))
 | .nilCheck x=>.nilCheck (f x)
 | .ib o x y=>.ib o (f x) (f y)
 | .eq n k x y=>.eq n k (f x) (f y)
 | .not x=>.not (f x)
 | .neg x=>.neg (f x)
 | .inv x=>.inv (f x)
 | .conv k x=>.conv k (f x)
 | .mkIface t x=>.mkIface t (f x)
 | .mkFunc g a b=>.mkFunc g (a.map f) (b.map f)
 | .slStr x a b=>.slStr (f x) (a.map f) (b.map f)
 | .slArr e n x a b=>.slArr e n (f x) (a.map f) (b.map f)
 | .fAddr o x=>.fAddr o (f x)
 | .fld o s x=>.fld o s (f x)
 | .iAddr e x i=>.iAddr e (f x) (f i)
 | .iAddrArr e n x i=>.iAddrArr e n (f x) (f i)
 | .iArr e n s x i=>.iArr e n s (f x) (f i)
 | .iStr x i=>.iStr (f x) (f i)
 | .ext x i=>.ext (f x) i
 | .len x=>.len (f x)
 | .lenS x=>.lenS (f x)
 | .cap x=>.cap (f x)
 | .mm m x xs=>.mm m (f x) (xs.map f)
 | .assert t z ok x=>.assert t z ok (f x)
def zW (f:P6->P6):Oc->Oc
 | .load s a=>.load s (f a)
 | .look k z o m x=>.look k z o (f m) (f x)
 | .lenM x=>.lenM (f x)
 | .bytesStr x=>.bytesStr (f x)
 | .entry x=>.entry (f x)
 | .slData x=>.slData (f x)
 | .toUns x=>.toUns (f x)
 | .fromUns l x=>.fromUns l (f x)
def Jg (f:P6->P6):Rh->Rh
 | .alloc z=>.alloc z
 | .box x=>.box (f x)
 | .allocT t z=>.allocT t z
 | .boxT t k x=>.boxT t k (f x)
 | .buildSlice e l z ps=>.buildSlice e l z (ps.map λp=>(p.1,p.2.1,f p.2.2))
 | .mkMap=>.mkMap
 | .mkSlice e b z l c=>.mkSlice e b z (f l) (f c)
 | .strBytes x=>.strBytes (f x)
 | .sl e x a b=>.sl e (f x) (a.map f) (b.map f)
def sU (f:P6->P6):TI->TI
 | .store s a x=>.store s (f a) (f x)
 | .storeAp s a x b=>.storeAp s (f a) (f x) (f b)
 | .mapSet k a b c=>.mapSet k (f a) (f b) (f c)
 | .range x=>.range (f x)
 | .next x=>.next (f x)
 | .app e z zs b s x=>.app e z zs b (f s) (f x)
 | .copy e d s=>.copy e (f d) (f s)
 | .clear z x=>.clear z (f x)
 | .call g a=>.call g (a.map f)
 | .callv g a=>.callv (f g) (a.map f)
 | .defer g a=>.defer (f g) (a.map f)
 | .panic x=>.panic (f x)
 | .recover=>.recover
 | .bad=>.bad
 | .rangeS x=>.rangeS (f x)
 | .nextS x=>.nextS (f x)
 | .appB t s x=>.appB t (f s) (f x)
 | .ustr t p n=>.ustr t (f p) (f n)
def mapA (f:P6->P6):yw->yw
 | .p o=>.p (jY f o)
 | .r o=>.r (zW f o)
 | .a o=>.a (Jg f o)
 | .e o=>.e (sU f o)
def bump:P6->P6
 | .loc k=>.loc (k+1)
 | x=>x
def rn (r:List P6):P6->P6
 | .loc k=>r.getD k (.con .undef)
 | x=>x
def wZ (j:Nat):List Inst->Bool
 | []=>false
 | i::l=>i.dst==some j||wZ j l
def lZ (r:List P6):List Inst->List Inst
 | []=>[]
 | i::l=>
  let keep:=⟨mapA (rn r) i.op,i.dst,i.guard.map λp=>(rn r p.1,p.2)⟩::lZ (.loc 0::r.map bump) l
  match i.op,i.dst,i.guard with
  | .p (.mov x),none,none=>match rn r x with
   | .slot j=>bif wZ j l then keep else lZ (.slot j::r) l
   | y=>lZ (y::r) l
  | _,_,_=>keep
def wm (f:j3->j3->Bool)(a:List j3):List j3->Bool:=
 List.rec (λb=>List.rec true (λ_ _ _=>false) b) (λx _ ih b=>List.rec false (λy ys _=>bi (f x y) (ih ys) false) b) a
def aW (n:Nat):j3->j3->Bool:=Nat.rec (λ_ _=>false) (λ_ ih x y=>match x,y with
  | .bool a,.bool b=>CX a b
  | .int k a,.int k' b=>bi (Xj k k') (aV a b) false
  | .str a,.str b=>strEq a b
  | .nilPtr,.nilPtr=>true
  | .ptr a b,.ptr c d=>bi (Nat.beq a c) (Nat.beq b d) false
  | .nilSlice,.nilSlice=>true
  | .slice a b c d,.slice a' b' c' d'=>bi (Nat.beq a a') (bi (Nat.beq b b') (bi (Nat.beq c c') (Nat.beq d d') false) false) false
  | .sliceU a b c d,.sliceU a' b' c' d'=>bi (Nat.beq a a') (bi (Nat.beq b b') (bi (Nat.beq c c') (Nat.beq d d') false) false) false
  | .nilMap,.nilMap=>true
  | .map a,.map b=>Nat.beq a b
  | .nilFunc,.nilFunc=>true
  | .func (.func f) a b,.func (.func g) c d=>bi (Nat.beq f g) (bi (wm ih a c) (wm ih b d) false) false
  | .func (.yield f) a b,.func (.yield g) c d=>bi (Nat.beq f g) (bi (wm ih a c) (wm ih b d) false) false
  | .nilIface,.nilIface=>true
  | .iface t a,.iface u b=>bi (Nat.beq t u) (ih a b) false
  | .agg a,.agg b=>wm ih a b
  | .tuple a,.tuple b=>wm ih a b
  | .undef,.undef=>true
  | _,_=>false) n
abbrev DC:=F4->Nat->List j3->T j3->Mem->List Mem->Option (List EM)
def stable (f:RF)(ls:List j3)(env:T j3)(v:j3)(n:Nat):List Mem->Bool:=
 Nat.rec (λ_=>true) (λ_ ih gs=>List.rec false (λm ms _=>bi (Option.rec false (λu=>aW 100 u v) (f ls env m)) (ih ms) false) gs) n
def tl (l:List Mem):List Mem:=List.rec [] (λ_ t _=>t) l
def qz:DC:=λ_ _ _ env m _=>some [⟨env,m,none,[]⟩]
def aC (f:PF)(d:j3->T j3->T j3)(k:DC):DC:=λcf b ls env m gs=>ob (f ls env) λv=>k cf b (v::ls) (d v env) m gs
def hd (m:Mem)(gs:List Mem):Mem:=List.rec m (λg _ _=>g) gs
def isVoid (b:Option O9):Bool:=match b with
 | some .void=>true
 | _=>false
def kY (i:Nat)(gs:List Mem):Bool:=List.rec true (λg _ ih=>bi (isVoid (g.get i)) ih false) gs
def Oh (x:Option (List α))(f:α->Option β):Option β:=
 Option.rec none (λl=>List.rec none (λa t _=>List.rec (f a) (λ_ _ _=>none) t) l) x
def nA (f:RF)(c:Nat)(d:j3->T j3->T j3)(k:DC):DC:=λcf b ls env m gs=>ob (f ls env (hd m gs)) λv=>bi (stable f ls env v c (tl gs)) (k cf b (v::ls) (d v env) m gs) none
def isCells (b:Option O9):Bool:=match b with
 | some (.cells _ _ _)=>true
 | _=>false
def aeo (x:OF)(c:Nat)(d:j3->T j3->T j3)(k:DC):DC:=λcf b ls env m gs=>match x ls env with
 | .slice id _ _ _=>bi (isVoid ((hd m gs).get id)) (bi (isCells (m.get id)) (ob (fK x ls env m) λv=>k cf b (v::ls) (d v env) m gs) none) (nA (fK x) c d k cf b ls env m gs)
 | _=>nA (fK x) c d k cf b ls env m gs
def ab2 (c:Nat)(o:Oc)(d:Option Nat)(g:Option (P6×Bool))(k:DC):DC:=match o,g with
 | .bytesStr y,none=>aeo (F9 y) c (bW d) k
 | o,g=>nA (wY g (ru o)) c (bW d) k
def tL (m:Mem)(i:Nat)(b:Option O9):Mem:=Option.rec m (λb=>m.set i b) b
def dcL (f:LF)(c:Nat)(d:j3->T j3->T j3)(k:DC):DC:=λcf b ls env m gs=>ob (f ls env (Nat.add b c)) λr=>bi (isVoid (m.get (Nat.add b c))) (bi (kY (Nat.add b c) gs) (k cf b (r.1::ls) (d r.1 env) (tL m (Nat.add b c) r.2) gs) none) none
abbrev GF:=Nat->List j3->T j3->Mem->List Mem->List (T j3)->Option (List (T j3))
def tN:GF:=λ_ _ _ _ _ es=>some es
def KH:GF:=λ_ _ _ _ _ _=>none
def Lb (d:j3->T j3->T j3)(k:GF):GF:=λb ls env m gs es=>k b (.undef::ls) (d .undef env) m gs es
def WO (d:j3->T j3->T j3)(k:GF):GF:=λb ls env m gs es=>k b (.undef::ls) (d .undef env) m (m::gs) es
def ghA (f:LF)(c:Nat)(d:j3->T j3->T j3)(k:GF):GF:=λb ls env m gs es=>Option.rec (k b (.undef::ls) (d .undef env) m gs es) (λ_=>none) (f ls env (Nat.add b c))
def Uj (f:T j3->T j3)(l:List (T j3)):List (T j3):=List.rec [] (λx _ ih=>f x::ih) l
def TK (w:Bool)(f:T j3->T j3)(es:List (T j3)):List (T j3):=bi w (aX es (Uj f es)) es
def AY:j3->Bool
 | .int _ _ | .bool _ | .str _=>true
 | _=>false
def Rk (w:Bool)(v:j3):Bool:=bi w (AY v) true
def tC (f:PF)(w:Bool)(d:j3->T j3->T j3)(k:GF):GF:=λb ls env m gs es=>ob (f ls env) λv=>bi (Rk w v) (k b (v::ls) (d v env) m gs (TK w (d v) es)) none
def Lc (f:RF)(c:Nat)(w:Bool)(d:j3->T j3->T j3)(k:GF):GF:=λb ls env m gs es=>ob (f ls env (hd m gs)) λv=>bi (stable f ls env v c (tl gs)) (bi (Rk w v) (k b (v::ls) (d v env) m gs (TK w (d v) es)) none) none
def ghL (f:LF)(c:Nat)(k:GF):GF:=λb ls env m gs es=>ob (f ls env (Nat.add b c)) λr=>bi (isVoid (m.get (Nat.add b c))) (bi (kY (Nat.add b c) gs) (k b (r.1::ls) env (tL m (Nat.add b c) r.2) gs es) none) none
def Uk (ds:List Bool):P6->Bool
 | .loc k=>ds.getD k false
 | _=>false
def tO (ds:List Bool)(i:Inst):Bool:=(CV i.op).any (Uk ds)||(match i.guard with
 | some p=>Uk ds p.1
 | none=>false)
def tQ:List (Nat×Inst)->List Bool->GF
 | [],_=>tN
 | x::l,ds=>match x.2.op with
  | .e _=>WO (bW x.2.dst) (tQ l (true::ds))
  | .a o=>bif tO ds x.2 then ghA (BQ x.2.guard (wH o)) x.1 (bW x.2.dst) (tQ l (true::ds)) else (match x.2.dst with
   | none=>ghL (BQ x.2.guard (wH o)) x.1 (tQ l (false::ds))
   | some _=>KH)
  | .r o=>bif tO ds x.2 then Lb (bW x.2.dst) (tQ l (true::ds)) else Lc (wY x.2.guard (ru o)) x.1 x.2.dst.isSome (bW x.2.dst) (tQ l (false::ds))
  | .p o=>bif tO ds x.2 then Lb (bW x.2.dst) (tQ l (true::ds)) else tC (FJ x.2.guard (nk o)) x.2.dst.isSome (bW x.2.dst) (tQ l (false::ds))
def FK:List (Nat×Inst)->List Bool->Bool
 | [],_=>true
 | x::l,ds=>match x.2.op with
  | .e _=>FK l (true::ds)
  | .a _=>bif tO ds x.2 then FK l (true::ds) else (x.2.dst.isNone&&FK l (false::ds))
  | .r _=>FK l (tO ds x.2::ds)
  | .p _=>FK l (tO ds x.2::ds)
def Xv (o:yw)(l:List (Nat×Inst)):GF:=match o with
 | .e (.call _ _)=>bif FK l [true] then tQ l [true] else KH
 | .e (.callv _ _)=>bif FK l [true] then tQ l [true] else KH
 | .e (.panic _)=>bif FK l [true] then tQ l [true] else KH
 | _=>KH
def tT (m:Mem)(x:j3)(es:List (T j3)):List EM:=List.rec [] (λv _ ih=>⟨v,m,some x,[]⟩::ih) es
def FC (f:EF)(gh:GF)(d:j3->T j3->T j3)(k:DC):DC:=λcf b ls env m gs=>Oh (f cf ls env m) λr=>dx r.v (λx=>ob (gh b (.undef::ls) (d .undef env) m (m::gs) [env]) λes=>some (tT r.m x es)) (k cf b (r.v::ls) (d r.v env) r.m (r.m::gs))
def ab3 (c:Nat)(o:yw)(d:Option Nat)(g:Option (P6×Bool))(gh:GF)(k:DC):DC:=match o with
 | .p o=>aC (FJ g (nk o)) (bW d) k
 | .r o=>ab2 c o d g k
 | .a o=>dcL (BQ g (wH o)) c (bW d) k
 | .e o=>FC (Jf g (nu o)) gh (bW d) k
def tV:List (Nat×Inst)->DC
 | []=>qz
 | (c,i)::l=>ab3 c i.op i.dst i.guard (Xv i.op l) (tV l)
def reserve (n:Nat)(m:Mem):Mem:=Nat.rec (λm=>m) (λ_ ih m=>ih (m.new .void)) n m
structure Out where
 x:bK
 env:T j3
 m:Mem
 marks:List Mk
 pv:Option j3
abbrev SC:=F4->Nat->Option Nat->T j3->Mem->List Mk->Option (List Out)
def nN (x:bK)(env:T j3)(m:Mem)(k:List Mk):Option (List Out):=some [⟨x,env,m,k,none⟩]
def D9:SC:=λ_ _ _ env m k=>nN .normal env m k
def gM (k:List Mk)(e:EM):Option (List Out):=
 Option.rec (nN .normal e.env e.m (aX e.mks k)) (λx=>some [⟨.ret,e.env,e.m,aX e.mks k,some x⟩]) e.px
def j6 (r:RC):SC:=λcf _ _ env m k=>bnd (r cf [] env m) (gM k)
def Dj (r:RC):SC:=λcf _ ir env m k=>Option.rec (bnd (r cf [] env m) (gM k)) (λ_=>none) ir
def jd:List Inst->Bool
 | []=>false
 | i::l=>(oW i).isSome||jd l
def fT (n:Nat)(r:DC):SC:=λcf _ _ env m k=>bnd (r cf m.nx [] env (reserve n m) [reserve n m]) (gM k)
def j5 (a b:SC):SC:=λcf fuel ir env m k=>bnd (a cf fuel ir env m k) λo=>bK.rec (b cf fuel ir o.env o.m o.marks) (λ_=>some [o]) (some [o]) o.x
def A9 (c:OF)(a b:SC):SC:=λcf fuel ir env m k=>nJ (c [] env) λt=>bi t (a cf fuel ir env m k) (b cf fuel ir env m k)
def F7 (id:Nat)(a:SC):SC:=λcf fuel ir env m k=>bnd (a cf fuel ir env m k) λo=>bK.rec (some [o]) (λid'=>bi (Nat.beq id id') (nN .normal o.env o.m o.marks) (some [o])) (some [o]) o.x
def I4 (body:T j3->Mem->List Mk->Option (List Out))(n:Nat):T j3->Mem->List Mk->Option (List Out):=
 Nat.rec (λ_ _ _=>none) (λ_ ih env m k=>bnd (body env m k) λo=>bK.rec (ih o.env o.m o.marks) (λ_=>some [o]) (some [o]) o.x) n
def U3 (a:SC):SC:=λcf fuel ir env m k=>I4 (λenv m k=>a cf fuel ir env m k) fuel env m k
def mg (id:Nat):SC:=λ_ _ _ env m k=>nN (.exit id) env m k
def F3:SC:=λ_ _ _ env m k=>nN .ret env m k
def oZ (b:Option O9)(f:LoopState->Option bK->T j3->List (Option Nat)->U6->U6->Option β):Option β:=match b with
 | some (.loop st pend env params assign body)=>f st pend env params assign body
 | _=>none
def Ul (cf:F4)(m:Mem)(args:List j3)(v:j3):bX:=KO v λfn a b=>match fn with
 | .func f=>cf (.func f) (aX a (aX args b)) m
 | _=>none
def Oi (cf:F4)(f:j3)(params:List (Option Nat))(assign body:U6)(env:T j3)(m:Mem)(k:List Mk):Option (List Out):=
 bnd (Ul cf (m.new (.loop .ready none env params assign body)) [.func (.yield m.nx) [] []] f) λr=>dx r.v (λ_=>none) <|
  oZ (r.m.get m.nx) λst pend _ _ _ _=>match st with
   | .busy=>none
   | _=>match pend with
    | none=>nN .normal env (r.m.set m.nx .dead) k
    | some x=>nN x env (r.m.set m.nx .dead) k
def Qb (f:OF)(params:List (Option Nat))(assign body:U6):SC:=λcf _ ir env m k=>
 Option.rec (Oi cf (f [] env) params assign body env (m.new .deferred) (.c m.nx::k))
  (λl=>oZ (m.get l) λ_ _ _ _ _ _=>Oi cf (f [] env) params assign body env m k) ir
def vK:U6->SC
 | .skip=>D9
 | .reg ops=>bif jd ops then Dj (bC ops) else j6 (bC (lZ [] ops))
 | .dreg n ops=>fT n (tV ops)
 | .dreg2 n ops t=>j5 (fT n (tV ops)) (j6 (bC t))
 | .seq a b=>j5 (vK a) (vK b)
 | .cond c a b=>A9 (F9 c) (vK a) (vK b)
 | .block id a=>F7 id (vK a)
 | .loop a=>U3 (vK a)
 | .exit id=>mg id
 | .ret=>F3
 | .rangeFunc f params assign body=>Qb (F9 f) params assign body
def cK (js:List (Option Nat)):List j3->T j3->Option (T j3):=
 List.rec (λvs env=>List.rec (some env) (λ_ _ _=>none) vs) (λj _ ih vs env=>List.rec none (λv vs _=>ih vs (bW j v env)) vs) js
def results (rs:List oO)(env:T j3)(m:Mem):Option (List j3):=
 List.rec (some []) (λr _ ih=>ob (match r with
  | .tmp j=>T.get env j
  | .cell j size=>ob (T.get env j) λp=>gK p λid off=>Q9 (m.get id) λrs n rows=>match size with
   | none=>cell1 rs n rows off
   | some k=>ob (eU rs n rows off k) λl=>some (.agg l)) λv=>ob ih λl=>some (v::l)) rs
def result (l:List j3):j3:=List.rec (.tuple l) (λv t _=>List.rec v (λ_ _ _=>.tuple l) t) l
def Xw (b:Option O9)(k:Option β):Option β:=match b with
 | some .deferred=>k
 | _=>none
abbrev jG:=FuncId->List j3->Option j3->Mem->Option (List (Mem×Option j3))
def Um (dcf:jG)(v:j3)(args:List j3)(md:Option j3)(m:Mem):Option (List (Mem×Option j3)):=KO v λfn a b=>match fn with
 | .func f=>dcf f (aX a (aX args b)) md m
 | _=>none
def Dk (dcf:jG)(fin:Option j3->Mem->bX):List Mk->Option j3->Mem->bX:=
 List.rec (λmd m=>fin md m) (λx _ ih md m=>match x with
  | .c id=>Xw (m.get id) (ih md (m.set id .dead))
  | .d v args=>bnd (Um dcf v args md m) λr=>ih r.2 r.1)
def xg (rs:List oO)(env:T j3)(md:Option j3)(m:Mem):bX:=
 Option.rec (ob (results rs env m) λl=>one (result l) m) (λx=>one (.mZ x) m) md
def leave (dcf:jG)(rs:List oO)(o:Out):bX:=bK.rec (Dk dcf (xg rs o.env) o.marks none o.m) (λ_=>none) (Dk dcf (xg rs o.env) o.marks o.pv o.m) o.x
def roundEnd (l:Nat)(o:Out):bX:=match o.marks,o.pv with
 | _ :: _,_=>none
 | _,some _=>none
 | [],none=>oZ (o.m.get l) λst pend env params assign body=>match st,pend with
  | .busy,none=>match o.x with
   | .normal=>one (.bool true) (o.m.set l (.loop .ready none env params assign body))
   | x=>one (.bool false) (o.m.set l (.loop .done (some x) env params assign body))
  | _,_=>none
mutual
def FL (lo:Nat):j3->List Nat
 | .ptr i _ | .slice i _ _ _ | .sliceU i _ _ _ | .map i=>bi (Nat.ble lo i) [i] []
 | .func _ a b=>tX lo a++tX lo b
 | .iface _ v=>FL lo v
 | .agg l=>tX lo l
 | .tuple l=>tX lo l
 | _=>[]
def tX (lo:Nat):List j3->List Nat
 | []=>[]
 | v::l=>FL lo v++tX lo l
end
inductive NB where
 | cells (rs:Nat) (rows:List (List j3))
 | map (es:List (j3×j3))
 | tail (p:Nat)
 | dead
 deriving Inhabited
def yB (b:O9):Option NB:=match b with
 | .cells rs n rows=>ob (rows.slice n 0) λl=>some (.cells rs l)
 | .map es=>some (.map es)
 | .tail p=>some (.tail p)
 | .dead=>some .dead
 | _=>none
def Ld (lo:Nat):List (List j3)->List Nat
 | []=>[]
 | l::ls=>tX lo l++Ld lo ls
def Un (lo:Nat):List (j3×j3)->List Nat
 | []=>[]
 | e::es=>FL lo e.1++(FL lo e.2++Un lo es)
def Rm (lo:Nat):NB->List Nat
 | .cells _ rows=>Ld lo rows
 | .map es=>Un lo es
 | .tail p=>bi (Nat.ble lo p) [p] []
 | .dead=>[]
def Gv (n:Nat)(l:List (Nat×NB)):Bool:=List.rec false (λx _ ih=>bi (Nat.beq x.1 n) true ih) l
def reach (m:Mem)(lo n:Nat):List Nat->List (Nat×NB)->Option (List (Nat×NB)):=
 Nat.rec (λ_ _=>none) (λ_ ih work seen=>List.rec (some seen.reverse) (λw ws _=>
  bi (Gv w seen) (ih ws seen) (ob (m.get w) λb=>ob (yB b) λnb=>ih (Rm lo nb++ws) ((w,nb)::seen))) work) n
def placeOf (i:Nat)(l:List Nat):Nat->Option Nat:=List.rec (λ_=>none) (λx _ ih k=>bi (Nat.beq x i) (some k) (ih (Nat.succ k))) l
mutual
def eB (r:Nat->Option Nat):j3->Option j3
 | .ptr i o=>ob (r i) λj=>some (.ptr j o)
 | .slice i o l c=>ob (r i) λj=>some (.slice j o l c)
 | .sliceU i o l c=>ob (r i) λj=>some (.sliceU j o l c)
 | .map i=>ob (r i) λj=>some (.map j)
 | .func fn a b=>match fn with
  | .yield _=>none
  | fn=>ob (kH r a) λx=>ob (kH r b) λy=>some (.func fn x y)
 | .iface t v=>ob (eB r v) λx=>some (.iface t x)
 | .agg l=>ob (kH r l) λx=>some (.agg x)
 | .tuple l=>ob (kH r l) λx=>some (.tuple x)
 | .mZ _=>none
 | v=>some v
def kH (r:Nat->Option Nat):List j3->Option (List j3)
 | []=>some []
 | v::l=>ob (eB r v) λx=>ob (kH r l) λy=>some (x::y)
end
def sI (r:Nat->Option Nat):List (List j3)->Option (List (List j3))
 | []=>some []
 | l::ls=>ob (kH r l) λx=>ob (sI r ls) λy=>some (x::y)
def BR (r:Nat->Option Nat):List (j3×j3)->Option (List (j3×j3))
 | []=>some []
 | e::es=>ob (eB r e.1) λx=>ob (eB r e.2) λy=>ob (BR r es) λz=>some ((x,y)::z)
def oQ (r:Nat->Option Nat):NB->Option NB
 | .cells rs rows=>ob (sI r rows) λx=>some (.cells rs x)
 | .map es=>ob (BR r es) λx=>some (.map x)
 | .tail p=>ob (r p) λq=>some (.tail q)
 | .dead=>some .dead
def sJ (r:Nat->Option Nat):List NB->Option (List NB)
 | []=>some []
 | p::l=>ob (oQ r p) λx=>ob (sJ r l) λy=>some (x::y)
structure CO where
 ids:List Nat
 vs:List j3
 bs:List NB
def xk (lo:Nat)(ids:List Nat)(i:Nat):Option Nat:=bi (Nat.ble lo i) (placeOf i ids lo) (some i)
def iX (lo:Nat)(vs:List j3)(m:Mem):Option CO:=
 ob (reach m lo 100000 (tX lo vs) []) λseen=>ob (kH (xk lo (seen.map (·.1))) vs) λxs=>ob (sJ (xk lo (seen.map (·.1))) (seen.map (·.2))) λbs=>some ⟨seen.map (·.1),xs,bs⟩
def dQ:NB->O9
 | .cells rs rows=>.cells rs (len' rows) (T.ofList rows)
 | .map es=>.map es
 | .tail p=>.tail p
 | .dead=>.dead
def layAll (bs:List NB):Mem->Mem:=List.rec (λm=>m) (λb _ ih m=>ih (m.new (dQ b))) bs
def zX:List (List j3)->List (List j3)->Bool
 | [],[]=>true
 | a::x,b::y=>bi (wm (aW 100) a b) (zX x y) false
 | _,_=>false
def Gw:List (j3×j3)->List (j3×j3)->Bool
 | [],[]=>true
 | a::x,b::y=>bi (aW 100 a.1 b.1) (bi (aW 100 a.2 b.2) (Gw x y) false) false
 | _,_=>false
def Uo:NB->NB->Bool
 | .cells r a,.cells s b=>bi (Nat.beq r s) (zX a b) false
 | .map a,.map b=>Gw a b
 | .tail p,.tail q=>Nat.beq p q
 | .dead,.dead=>true
 | _,_=>false
def kI:List NB->List NB->Bool
 | [],[]=>true
 | a::x,b::y=>bi (Uo a b) (kI x y) false
 | _,_=>false
structure AZ where
 v:j3
 bs:List NB
def wI (lo:Nat)(r:VM):Option AZ:=ob (iX lo [r.v] r.m) λc=>List.rec none (λv _ _=>some ⟨v,c.bs⟩) c.vs
def Jh (lo:Nat)(l:List VM):Option AZ:=
 List.rec none (λr rs ih=>ob (wI lo r) λa=>List.rec (some a) (λ_ _ _=>ob ih λb=>bi (aW 100 a.v b.v) (bi (kI a.bs b.bs) (some a) none) none) rs) l
structure aT where
 pure:Bool
 args:List (Option Nat)
 nslots:Nat
 results:List oO
 code:SC
 rcode:Option U6
structure Known where
 fns:FuncId->Option aT
 base:Mem
 sum:FuncId->List j3->List NB->Option AZ
 eff:FuncId->List j3->Mem->bX
def lN (cf:F4)(dcf:jG)(fuel:Nat)(f:aT)(args:List j3)(m:Mem):bX:=
 ob (cK f.args args (T.rep .undef f.nslots .e 0)) λenv=>bnd (f.code cf fuel none env m []) (leave dcf f.results)
structure Le where
 o:Out
 md:Option j3
def isRec (i:Inst):Bool:=match i.op,i.guard with
 | .e .recover,none=>true
 | _,_=>false
def Dl:List Inst->Bool
 | []=>false
 | i::l=>isRec i||Dl l
def tY:List Inst->F4->List j3->T j3->Mem->Option j3->Option (List (EM×Option j3))
 | [],_,_,env,m,md=>some [(⟨env,m,none,[]⟩,md)]
 | i::l,cf,ls,env,m,md=>match isRec i with
  | true=>match md with
   | some x=>tY l cf (x::ls) (bW i.dst x env) m none
   | none=>tY l cf (.nilIface::ls) (bW i.dst .nilIface env) m none
  | false=>match i.op with
   | .p o=>ob (FJ i.guard (nk o) ls env) λv=>tY l cf (v::ls) (bW i.dst v env) m md
   | .r o=>ob (wY i.guard (ru o) ls env m) λv=>tY l cf (v::ls) (bW i.dst v env) m md
   | _=>none
def wJ:U6->F4->Nat->T j3->Mem->Option j3->Option (List Le)
 | .seq a b,cf,fuel,env,m,md=>bnd (wJ a cf fuel env m md) λr=>match r.o.x with
  | .normal=>match r.o.marks with
   | []=>wJ b cf fuel r.o.env r.o.m r.md
   | _=>none
  | _=>some [r]
 | .cond c a b,cf,fuel,env,m,md=>nJ (F9 c [] env) λt=>bi t (wJ a cf fuel env m md) (wJ b cf fuel env m md)
 | .reg ops,cf,fuel,env,m,md=>match Dl ops with
  | true=>bnd (tY ops cf [] env m md) λr=>some [⟨⟨.normal,r.1.env,r.1.m,[],none⟩,r.2⟩]
  | false=>bnd (vK (.reg ops) cf fuel none env m []) λo=>some [⟨o,md⟩]
 | c,cf,fuel,env,m,md=>bnd (vK c cf fuel none env m []) λo=>some [⟨o,md⟩]
def Oj (rs:List oO)(r:Le):Option (List (Mem×Option j3)):=match r.o.x,r.o.marks,r.o.pv with
 | .exit _,_,_=>none
 | _,[],none=>ob (results rs r.o.env r.o.m) λ_=>some [(r.o.m,r.md)]
 | _,_,_=>none
def Xx (cf:F4)(fuel:Nat)(f:aT)(args:List j3)(md:Option j3)(m:Mem):Option (List (Mem×Option j3)):=
 ob f.rcode λc=>ob (cK f.args args (T.rep .undef f.nslots .e 0)) λenv=>bnd (wJ c cf fuel env m md) (Oj f.results)
def Mem.shut (m:Mem):Mem:=⟨m.t,m.nx,m.nx⟩
def pq (K:Known)(cf:F4)(fuel:Nat):jG:=λf args md m=>ob (K.fns f) λsf=>Xx cf fuel sf args md m
def Ba (K:Known)(cf:F4)(fuel:Nat)(f:FuncId)(sf:aT)(args:List j3)(bs:List NB):Option AZ:=
 Option.rec (ob (lN cf (pq K cf fuel) fuel sf args (layAll bs K.base).shut) λl=>Jh (layAll bs K.base).nx l) (λa=>some a) (K.sum f args bs)
def fU (g:Nat)(ids:List Nat)(next i:Nat):Option Nat:=
 bi (Nat.blt i g) (some i) (bi (Nat.blt (Nat.sub i g) (len' ids)) (mK (Nat.sub i g) ids) (some (Nat.add next (Nat.sub (Nat.sub i g) (len' ids)))))
def iL (K:Known)(cf:F4)(fuel:Nat)(f:FuncId)(sf:aT)(args:List j3)(m:Mem):bX:=
 ob (iX K.base.nx args m) λc=>ob (Ba K cf fuel f sf c.vs c.bs) λa=>ob (eB (fU K.base.nx c.ids m.nx) a.v) λv=>ob (sJ (fU K.base.nx c.ids m.nx) a.bs) λbs=>one v (layAll bs m)
def Ji (cf:F4)(fuel l:Nat)(args:List j3)(m:Mem):bX:=
 bi (Nat.blt l m.lim) none (oZ (m.get l) λst pend env params assign body=>match st,pend with
  | .ready,none=>ob (cK params args env) λenv1=>bnd (vK assign cf fuel (some l) env1 m []) λo=>match o.x,o.marks with
   | .normal,[]=>oZ (o.m.get l) λst2 pend2 env2 params2 assign2 body2=>match st2,pend2 with
    | .ready,none=>bnd (vK body cf fuel (some l) o.env (o.m.set l (.loop .busy none env2 params2 assign2 body2)) []) (roundEnd l)
    | _,_=>none
   | _,_=>none
  | _,_=>none)
def o9 (K:Known)(fuel n:Nat):F4:=
 Nat.rec (λ_ _ _=>none) (λ_ ih fn args m=>match fn with
  | .func f=>Option.rec (ob (K.fns f) λsf=>bi sf.pure (iL K ih fuel f sf args m) (lN ih (pq K ih fuel) fuel sf args m)) (λl=>some l) (K.eff f args m)
  | .yield l=>Ji ih fuel l args m
  | _=>none) n
mutual
def ofValue:Value->Option j3
 | .bool b=>some (.bool b)
 | .int k n=>some (.int k n)
 | .string s=>some (.str s.data.toList)
 | .pointer none=>some .nilPtr
 | .slice none 0 0=>some .nilSlice
 | .map none=>some .nilMap
 | .func (.func f) ⟨[]⟩ ⟨[]⟩=>some (.func (.func f) [] [])
 | .nilFunc=>some .nilFunc
 | .nilIface=>some .nilIface
 | .agg ⟨l⟩=>match ofValues l with
  | some x=>some (.agg x)
  | none=>none
 | .tuple ⟨[]⟩=>some (.tuple [])
 | _=>none
def ofValues:List Value->Option (List j3)
 | []=>some []
 | v::l=>match ofValue v,ofValues l with
  | some x,some y=>some (x::y)
  | _,_=>none
end
section
variable (P:Program)
def aK (t:TypeId):Option Nat:=(P.info? t).map (·.size)
def fE (t:TypeId):Option Nat:=(P.info? t).map (·.bytes)
def wo (t:TypeId):Option Bool:=match P.underlying t with
 | some (.struct _) | some (.array _ _)=>some true
 | some _=>some false
 | none=>none
def partT (t:TypeId):Option (Option Nat):=match wo P t,aK P t with
 | some true,some n=>some (some n)
 | some false,some _=>some none
 | _,_=>none
def qA (t:TypeId):Option (List j3):=match (P.info? t).bind (·.zero) with
 | some z=>match ofValue z with
  | some a=>some a.cells
  | none=>none
 | none=>none
def zeroV (t:TypeId):Option j3:=match (P.info? t).bind (·.zero) with
 | some z=>ofValue z
 | none=>none
def nO (f:TypeId->Option (List PK)):List Field->Nat->Option (List PK)
 | [],_=>some []
 | fd::l,off=>if fd.name≠ "_"∧fd.offset=off then match f fd.type with
   | some ks=>match nO f l (off+ks.length) with
    | some r=>some (ks++r)
    | none=>none
   | none=>none
  else none
def eY:Nat->TypeId->Option (List PK)
 | 0,_=>none
 | d+1,t=>match P.underlying t with
  | some .bool=>if aK P t=some 1 then some [.b] else none
  | some (.int _)=>if aK P t=some 1 then some [.i] else none
  | some .string=>if aK P t=some 1 then some [.s] else none
  | some (.struct fs)=>match nO (eY d) fs.toList 0 with
   | some ks=>if P.stoodInHeld t=false∧aK P t=some ks.length then some ks else none
   | none=>none
  | _=>none
def Rn (cst:Bool)(t:TypeId):Option zM:=match P.underlying t with
 | some .bool=>some (.prim .b)
 | some (.int _)=>some (.prim .i)
 | some .string=>some (.prim .s)
 | some (.struct _)=>match eY P 10 t with
  | some k=>if P.eqGuardType P.depth t=false then some (.flat k) else none
  | none=>none
 | some (.pointer e)=>match aK P e with
  | some _=>some .ptr
  | none=>none
 | some (.slice _)=>some .slice
 | some (.map _ _)=>some .map
 | some (.func ..)=>some .func
 | some (.interface _)=>if cst then some .iface else none
 | _=>none
def Xy (t:TypeId):Option zM:=match P.underlying t with
 | some (.array n e)=>match P.underlying e with
  | some (.int _)=>if aK P e=some 1∧P.eqGuardType P.depth t=false then some (.flat (List.replicate n .i)) else none
  | _=>none
 | _=>none
def Uq (cst:Bool)(t:TypeId):Option zM:=match Rn P cst t with
 | some k=>some k
 | none=>Xy P t
def BS (t:TypeId):Option (List j3):=match qA P t,aK P t with
 | some z,some k=>if z.length=k then some z else none
 | _,_=>none
def aa1 (t:TypeId):Bool:=match P.info? t with
 | some {desc:=.named n _,..}=>n == "strings.Builder"
 | _=>false
def Ol (t:TypeId):Bool:=aa1 P t||(match P.underlying t with
 | some (.struct fs)=>fs.toList.any λf=>aa1 P f.type
 | _=>false)
def Lf (u:TypeId):List (Nat×Nat):=(List.range P.types.size).flatMap λty=>if Ol P ty&&P.cellsOf ty != 0 then
 ((if liesAt P P.depth ty 1 0 u 1 then [(ty,0)] else [])++(match P.underlying ty with
  | some (.struct fs)=>fs.toList.flatMap λf=>if f.offset≠0∧liesAt P P.depth ty 1 f.offset u 1 then [(ty,f.offset)] else []
  | _=>[])) else []
def Bb (e:TypeId):Bool:=(match P.underlying e with
 | some (.int .u8)=>true
 | _=>false)&&aK P e==some 1&&fE P e==some 1&&(BS P e).isSome
def sV (t:TypeId):Option zM:=match Rn P false t with
 | some (.prim j)=>some (.prim j)
 | some (.flat ks)=>some (.flat ks)
 | _=>none
end
def idxOf (t:Nat):List Nat->Nat->Option Nat
 | [],_=>none
 | x::l,i=>bif Nat.beq x t then some i else idxOf t l (i+1)
def iG (t:Nat):List (Option Nat)->Nat->Option Nat
 | [],_=>none
 | some x::l,i=>bif Nat.beq x t then some i else iG t l (i+1)
 | none::l,i=>iG t l (i+1)
section
variable (P:Program)(slots:List Nat)(done:List (Option Nat))
def N9:Operand->Option P6
 | .tmp t=>match iG t done 0 with
  | some k=>some (.loc k)
  | none=>match idxOf t slots 0 with
   | some j=>some (.slot j)
   | none=>none
 | .const v=>match ofValue v with
  | some a=>some (.con a)
  | none=>none
 | .global g=>if g<P.globals.size then some (.con (.ptr g 0)) else none
 | .func f=>some (.con (.func (.func f) [] []))
def jr:List Operand->Option (List P6)
 | []=>some []
 | x::l=>match N9 P slots done x,jr l with
  | some a,some b=>some (a::b)
  | _,_=>none
def cOpt:Option Operand->Option (Option P6)
 | none=>some none
 | some x=>match N9 P slots done x with
  | some a=>some (some a)
  | none=>none
def wK:Operand->Bool
 | .const _=>true
 | _=>false
def tZ (place:Nat->Option (Nat×Nat)):List (Nat×Operand)->Option (List (Nat×Nat×P6))
 | []=>some []
 | p::l=>match place p.1,N9 P slots done p.2,tZ place l with
  | some (o,s),some x,some r=>some ((o,s,x)::r)
  | _,_,_=>none
def placesOf:List Field->Option (List (Nat×Nat))
 | []=>some []
 | f::l=>match aK P f.type,placesOf l with
  | some s,some r=>some ((f.offset,s)::r)
  | _,_=>none
def xq (t:TypeId)(parts:List (Nat×Operand)):Option yw:=
 match qA P t,P.underlying t with
 | some zero,some (.struct fields)=>match placesOf P fields.toList with
  | some pl=>match tZ P slots done (λi=>pl[i]?) parts with
   | some ps=>some (.p (.build zero ps))
   | none=>none
  | none=>none
 | some zero,some (.array _ elem)=>match aK P elem with
  | some s=>match tZ P slots done (λi=>some (i*s,s)) parts with
   | some ps=>some (.p (.build zero ps))
   | none=>none
  | none=>none
 | _,_=>none
def ab4:TypeDesc->Bool
 | .string=>true
 | _=>false
def uf (b:Builtin)(ts:List TypeId)(args:List Operand):Option yw:=do
 match b,ts,args with
 | .len,[t],[x]=>match ← P.underlying t with
  | .string=>do pure (.p (.lenS (← N9 P slots done x)))
  | .slice _=>do pure (.p (.len (← N9 P slots done x)))
  | .array n _=>pure (.p (.mov (.con (.int .i64 n))))
  | .map _ _=>do pure (.r (.lenM (← N9 P slots done x)))
  | _=>none
 | .cap,[t],[x]=>match ← P.underlying t with
  | .slice _=>do pure (.p (.cap (← N9 P slots done x)))
  | _=>none
 | .append,[t,u],[s,x]=>match ← P.underlying t with
  | .slice e=>do
   let d ← P.underlying u
   let zs:=match d with | .int _=>true | _=>false
   if ab4 d&&Bb P e then pure (.e (.appB e (← N9 P slots done s) (← N9 P slots done x)))
   else pure (.e (.app (← aK P e) zs (← BS P e) (← fE P e) (← N9 P slots done s) (← N9 P slots done x)))
  | _=>none
 | .copy,[t,_],[d,s]=>match ← P.underlying t with
  | .slice e=>do pure (.e (.copy (← aK P e) (← N9 P slots done d) (← N9 P slots done s)))
  | _=>none
 | .clear,[t],[x]=>match ← P.underlying t with
  | .slice e=>do pure (.e (.clear (← qA P e) (← N9 P slots done x)))
  | _=>none
 | .max,_,x::xs=>do pure (.p (.mm true (← N9 P slots done x) (← jr P slots done xs)))
 | .min,_,x::xs=>do pure (.p (.mm false (← N9 P slots done x) (← jr P slots done xs)))
 | .recover,[],[]=>pure (.e .recover)
 | .unsafeSliceData,[t],[x]=>match ← P.underlying t with
  | .slice _=>do pure (.r (.slData (← N9 P slots done x)))
  | _=>none
 | .unsafeString,[t,_],[p,n]=>match ← P.underlying t with
  | .pointer e=>do if Bb P e then pure (.e (.ustr e (← N9 P slots done p) (← N9 P slots done n))) else none
  | _=>none
 | _,_,_=>none
def fO (o:Op):Option yw:=do
 let r:=N9 P slots done
 match o with
 | .move x | .assign x=>pure (.p (.mov (← r x)))
 | .pick c a b=>pure (.p (.pick (← r c) (← r a) (← r b)))
 | .alloc t=>if Ol P t then do pure (.a (.allocT t (← BS P t))) else do pure (.a (.alloc (← qA P t)))
 | .box t x=>if Ol P t then do pure (.a (.boxT t (← aK P t) (← r x))) else do pure (.a (.box (← r x)))
 | .build t parts=>xq P slots done t parts.toList
 | .buildSlice t len parts=>match ← P.underlying t with
  | .slice e=>do
   let es ← aK P e
   let ps ← tZ P slots done (λi=>some (i*es,es)) parts.toList
   if len*es<=16777216 then pure (.a (.buildSlice es len (← qA P e) ps)) else none
  | _=>none
 | .load t a=>pure (.r (.load (← partT P t) (← r a)))
 | .store t a x=>pure (.e (.store (← aK P t) (← r a) (← r x)))
 | .nilCheck x=>pure (.p (.nilCheck (← r x)))
 | .binOp op t x y _=>match op with
  | .eql | .neq=>do
   let k ← Uq P (wK x||wK y) t
   let neg:=match op with | .neq=>true | _=>false
   match k with
   | .prim .i=>pure (.p (.ib op (← r x) (← r y)))
   | .prim .s=>pure (.p (.ib op (← r x) (← r y)))
   | k=>pure (.p (.eq neg k (← r x) (← r y)))
  | _=>pure (.p (.ib op (← r x) (← r y)))
 | .unOp op _ x=>match op with
  | .not=>do pure (.p (.not (← r x)))
  | .neg=>do pure (.p (.neg (← r x)))
  | .xor=>do pure (.p (.inv (← r x)))
  | _=>none
 | .convert s d x=>match ← P.underlying s,← P.underlying d with
  | .int _,.int k=>do pure (.p (.conv k (← r x)))
  | .string,.slice e=>match ← P.underlying e with
   | .int .u8=>do pure (.a (.strBytes (← r x)))
   | _=>none
  | .slice e,.string=>match ← P.underlying e with
   | .int .u8=>do pure (.r (.bytesStr (← r x)))
   | _=>none
  | .pointer t,.unsafePointer=>match ← aK P t with
   | 0=>none
   | _=>do pure (.r (.toUns (← r x)))
  | .unsafePointer,.pointer u=>match ← aK P u with
   | 0=>none
   | _=>do pure (.r (.fromUns (Lf P u) (← r x)))
  | _,_=>none
 | .makeInterface t x=>match ← P.underlying t with
  | .interface _=>none
  | _=>do pure (.p (.mkIface t (← r x)))
 | .makeFunc fn a b=>match fn with
  | .func f=>do pure (.p (.mkFunc (.func f) (← jr P slots done a.toList) (← jr P slots done b.toList)))
  | _=>none
 | .makeMap t res=>match res with
  | none=>pure (.a .mkMap)
  | some (.const (.int _ _))=>match P.underlying t with
   | some (.map _ _)=>pure (.a .mkMap)
   | _=>none
  | _=>none
 | .makeSlice t l c=>match ← P.underlying t with
  | .slice e=>do pure (.a (.mkSlice (← aK P e) (← fE P e) (← BS P e) (← r l) (← r c)))
  | _=>none
 | .slice t x lo hi none=>match ← P.underlying t with
  | .string=>do pure (.p (.slStr (← r x) (← cOpt P slots done lo) (← cOpt P slots done hi)))
  | .slice e=>do pure (.a (.sl (← aK P e) (← r x) (← cOpt P slots done lo) (← cOpt P slots done hi)))
  | .array n e=>do pure (.p (.slArr (← aK P e) n (← r x) (← cOpt P slots done lo) (← cOpt P slots done hi)))
  | _=>none
 | .fieldAddr s x f=>match ← P.underlying s with
  | .struct fs=>do
   let fd ← fs[f]?
   let sz ← aK P fd.type
   if sz=0 then none else pure (.p (.fAddr fd.offset (← r x)))
  | _=>none
 | .field s x f=>match ← P.underlying s with
  | .struct fs=>do
   let fd ← fs[f]?
   pure (.p (.fld fd.offset (← partT P fd.type) (← r x)))
  | _=>none
 | .indexAddr t x i=>match ← P.underlying t with
  | .slice e=>do pure (.p (.iAddr (← aK P e) (← r x) (← r i)))
  | .array n e=>do pure (.p (.iAddrArr (← aK P e) n (← r x) (← r i)))
  | _=>none
 | .index t x i=>match ← P.underlying t with
  | .string=>do pure (.p (.iStr (← r x) (← r i)))
  | .array n e=>do pure (.p (.iArr (← aK P e) n (← partT P e) (← r x) (← r i)))
  | _=>none
 | .lookup t x k ok=>match ← P.underlying t with
  | .map kt e=>do pure (.r (.look (← sV P kt) (← zeroV P e) ok (← r x) (← r k)))
  | _=>none
 | .mapUpdate t m k x | .insert t m k x=>match ← P.underlying t with
  | .map kt _=>do pure (.e (.mapSet (← sV P kt) (← r m) (← r k) (← r x)))
  | _=>none
 | .range t x=>match ← P.underlying t with
  | .map _ _=>do pure (.e (.range (← r x)))
  | .string=>do pure (.e (.rangeS (← r x)))
  | _=>none
 | .next it false=>pure (.e (.next (← r it)))
 | .next it true=>pure (.e (.nextS (← r it)))
 | .entry it=>pure (.r (.entry (← r it)))
 | .extract x i=>pure (.p (.ext (← r x) i))
 | .typeAssert x _ t ok=>match ← P.underlying t with
  | .interface _=>none
  | _=>do pure (.p (.assert t (← zeroV P t) ok (← r x)))
 | .panic x=>pure (.e (.panic (← r x)))
 | .defer c=>match c.callee with
  | .value f=>do pure (.e (.defer (← r f) (← jr P slots done c.args.toList)))
  | _=>none
 | .call c=>match c.callee with
  | .builtin b=>uf P slots done b c.argTypes.toList c.args.toList
  | .value (.func f)=>do
   let fn ← P.funcs[f]?
   if fn.body.isSome&&fn.name != "runtime.NumGoroutine" then pure (.e (.call f (← jr P slots done c.args.toList)))
   else if fn.body.isNone&&fn.name == "internal/abi.NoEscape" && (Extern.findNext fn).isNone then match c.args.toList with
    | [x]=>do pure (.p (.mov (← r x)))
    | _=>none
   else none
  | .value f=>do pure (.e (.callv (← r f) (← jr P slots done c.args.toList)))
  | _=>none
 | _=>none
def FM:Option Tmp->Option Nat
 | none=>none
 | some t=>idxOf t slots 0
def jZ (o:Op):yw:=match fO P slots done o with
 | some a=>a
 | none=>.e .bad
def pz (ops:Array Oper)(i:Nat):Option (Inst×Option Nat):=do
 let o ← ops[i]?
 let a:=jZ P slots done o.op
 let g ← match o.guard with
  | none=>pure none
  | some (j,w)=>do
   let og ← ops[j]?
   let d ← og.dst
   let k ← iG d done 0
   pure (some (P6.loc k,w))
 pure (⟨a,FM slots o.dst,g⟩,o.dst)
end
def jH (P:Program)(slots:List Nat)(ops:Array Oper):List (Option Nat)->List Nat->Option (List Inst)
 | _,[]=>some []
 | done,i::rest=>match pz P slots done ops i with
  | some (x,d)=>match jH P slots ops (d::done) rest with
   | some l=>some (x::l)
   | none=>none
  | none=>none
def bitsOf (e:Array Edge)(acc:List Nat):Nat:=
 e.toList.foldl (λs x=>if Region.binds .any x then s ||| (1 <<< x.on) ||| (acc.getD x.on 0) else s) 0
def masks (ops:List Oper):List Nat:=ops.foldl (λacc o=>acc ++ [bitsOf o.after acc]) []
def Om (ms:List Nat)(i j:Nat):Bool:=Nat.testBit (ms.getD i 0) j
def aep:Op->Bool
 | .store .. | .mapUpdate .. | .insert .. | .range .. | .next .. | .mapEntry .. | .entryStore .. | .panic _ | .defer _ | .typeAssert ..=>true
 | .call {callee:=.builtin b,..}=>match b with
  | .append | .copy | .clear | .delete | .unsafeString=>true
  | _=>false
 | .call _=>true
 | _=>false
def Dm (ops:Array Oper)(i:Nat):Bool:=
 match ops[i]? with
 | some o=>aep o.op
 | none=>false
def canon (eff:Nat->Bool)(ms:List Nat)(n:Nat):List Nat:=
 let effs:=(List.range n).filter eff
 let step (acc:List Nat) (e:Nat):List Nat:=acc++(List.range n).filter (λi=>!acc.contains i&&Om ms e i) ++ [e]
 let acc:=effs.foldl (λacc e=>if acc.contains e then acc else step acc e) []
 acc++(List.range n).filter (λi=>!acc.contains i)
def aB (x:Inst):Bool:=match x.op with
 | .e _=>true
 | _=>false
def isA (x:Inst):Bool:=match x.op with
 | .a _=>true
 | _=>false
def isR (x:Inst):Bool:=match x.op with
 | .r _=>true
 | _=>false
def ab5 (ms:List Nat)(i:Nat)(x:Inst)(effs:List Nat)(nal:Nat):Nat:=
 if isR x then (effs.takeWhile λe=>!Om ms i e).length else nal
def numbered (ms:List Nat):List (Nat×Inst)->List Nat->Nat->List (Nat×Inst)
 | [],_,_=>[]
 | (i,x)::rest,effs,nal=>(ab5 ms i x effs nal,x)::numbered ms rest (if aB x then i::effs else effs) (if isA x then nal+1 else nal)
def xu (ops:Array Oper)(o:Oper):List Nat:=
 (o.op.operands.toList.filterMap fun | .tmp t=>some t | _=>none) ++
 (match o.guard with
  | some (g,_)=>((ops[g]?).bind (·.dst)).toList
  | none=>[])
def Lg:List Nat->Bool
 | []=>true
 | x::l=>!l.contains x&&Lg l
def Jj:List Inst->Nat
 | []=>0
 | x::l=>(if isA x then 1 else 0)+Jj l
def Qc (ms:List Nat)(i:Nat)(before:List (Nat×Inst)):P6->Bool
 | .loc k=>match before[k]? with
  | some y=>Om ms i y.1
  | none=>false
 | .slot j=>before.all λy=>y.2.dst != some j
 | .con _=>true
def ug (ms:List Nat)(ops:Array Oper)(i:Nat)(x:Inst)(before:List (Nat×Inst)):Bool:=
 (match x.op with
  | .e _=>before.all λy=>Om ms i y.1
  | _=>true) &&
 (match ops[i]? with
  | some o=>(o.after.toList.all λe=>!Region.binds .any e||before.any λy=>y.1==e.on) &&
   ((xu ops o).all λt=>(List.range ops.size).all λq=>q==i||(match ops[q]? with
    | some oq=>oq.dst != some t
    | none=>true)||Om ms i q||Om ms q i)
  | none=>false) &&
 ((CV x.op).all λy=>Qc ms i before y) &&
 (match x.guard with
  | some (y,_)=>Qc ms i before y
  | none=>true)
def vL (ms:List Nat)(ops:Array Oper):List (Nat×Inst)->List (Nat×Inst)->Bool
 | [],_=>true
 | y::rest,before=>ug ms ops y.1 y.2 before&&vL ms ops rest (y::before)
def Ur (ms:List Nat)(ops:Array Oper)(ord:List Nat)(insts:List Inst):Bool:=
 Lg ord&&(ord.all λi=>Nat.blt i ops.size)&&((List.range ops.size).all λi=>ord.contains i)&&Lg (ops.toList.filterMap (·.dst))&&vL ms ops (ord.zip insts) []
def yC (P:Program)(slots:List Nat)(ops:Array Oper):Option U6:=
 match jH P slots ops [] (canon (Dm ops) (masks ops.toList) ops.size) with
 | none=>none
 | some insts=>
  if Ur (masks ops.toList) ops (canon (Dm ops) (masks ops.toList) ops.size) insts then
   some (.dreg (Jj insts) (numbered (masks ops.toList) ((canon (Dm ops) (masks ops.toList) ops.size).zip insts) [] 0))
  else none
def Lh:P6->Bool
 | .loc _=>false
 | _=>true
def Jk (ms:List Nat)(ops:Array Oper):Bool:=
 Nat.ble 3 ops.size &&
 ((List.range ops.size).all λi=>match ops[i]? with
  | some o=>(o.after.toList.all λe=>!Region.binds .any e||Nat.blt e.on i)&&o.guard.isNone
  | none=>false) &&
 ((List.range (ops.size-3)).all λj=>Om ms (ops.size-3) j&&Om ms (ops.size-2) j&&Om ms (ops.size-1) j) &&
 Om ms (ops.size-2) (ops.size-3)
def Ck (x y z:Option (Inst×Option Nat))(n:Nat)(l:List (Nat×Inst)):Option U6:=
 match x,y,z with
 | some (⟨.p po,none,none⟩,_),some (⟨.e (.store s (.loc 0) v),none,none⟩,none),some (⟨.e (.store s' a' v'),none,none⟩,none)=>if Lh a'&&Lh v' then some (.dreg2 n l [⟨.p po,none,none⟩,⟨.e (.store s (.loc 0) v),none,none⟩,⟨.e (.storeAp s' a' v' (.loc 1)),none,none⟩]) else none
 | _,_,_=>none
def Qd:Option Oper->Bool
 | some o=>match o.op with
  | .store ..=>true
  | _=>false
 | none=>false
def splits (ops:Array Oper):Bool:=Qd ops[ops.size-1]? && Qd ops[ops.size-2]? && !Om (masks ops.toList) (ops.size-1) (ops.size-2)
def Dn (P:Program)(slots:List Nat)(ops:Array Oper):Option U6:=
 match yC P slots (ops.extract 0 (ops.size-3)) with
 | some (.dreg n l)=>
  if Jk (masks ops.toList) ops then
   Ck (pz P slots [] ops (ops.size-3)) (pz P slots [(ops[ops.size-3]?).bind (·.dst)] ops (ops.size-2)) (pz P slots [] ops (ops.size-1)) n l
  else none
 | _=>none
def Q7 (P:Program)(slots:List Nat):Code->Option U6
 | .skip=>some .skip
 | .region _ ops false=>match jH P slots ops [] (List.range ops.size) with
  | some l=>some (.reg l)
  | none=>none
 | .region _ ops true=>if splits ops then Dn P slots ops else yC P slots ops
 | .seq a b=>match Q7 P slots a,Q7 P slots b with
  | some x,some y=>some (.seq x y)
  | _,_=>none
 | .cond c a b=>match N9 P slots [] c,Q7 P slots a,Q7 P slots b with
  | some z,some x,some y=>some (.cond z x y)
  | _,_,_=>none
 | .block id a=>match Q7 P slots a with
  | some x=>some (.block id x)
  | none=>none
 | .loop a=>match Q7 P slots a with
  | some x=>some (.loop x)
  | none=>none
 | .exit id=>some (.exit id)
 | .ret=>some .ret
 | .rangeFunc f ps a b=>match N9 P slots [] f,Q7 P slots a,Q7 P slots b with
  | some z,some x,some y=>some (.rangeFunc z (ps.toList.map λt=>idxOf t slots 0) x y)
  | _,_,_=>none
 | .refuse _=>some (.reg [⟨.e .bad,none,none⟩])
 | _=>none
def tmpsIn (nt:Nat):Code->Bool
 | .region _ ops _=>ops.toList.all λo=>match o.dst with
  | some t=>Nat.blt t nt
  | none=>true
 | .seq a b=>tmpsIn nt a&&tmpsIn nt b
 | .cond _ a b=>tmpsIn nt a&&tmpsIn nt b
 | .block _ a=>tmpsIn nt a
 | .loop a=>tmpsIn nt a
 | .rangeFunc _ _ a b=>tmpsIn nt a&&tmpsIn nt b
 | _=>true
def BU (P:Program)(slots:List Nat):List ResultVar->Option (List oO)
 | []=>some []
 | .tmp t::l=>match idxOf t slots 0,BU P slots l with
  | some j,some r=>some (.tmp j::r)
  | _,_=>none
 | .cell t ty::l=>match idxOf t slots 0,partT P ty,BU P slots l with
  | some j,some s,some r=>some (.cell j s::r)
  | _,_,_=>none
def Oo (P:Program)(slots:List Nat)(f:FuncId):Option AFn:=
 match P.funcs[f]? with
 | none=>none
 | some fn=>match fn.body with
  | none=>none
  | some c=>match Q7 P slots c,BU P slots fn.results.toList with
   | some b,some r=>
    if tmpsIn fn.ntmps c&&(slots.all λt=>Nat.blt t fn.ntmps)&&Nat.blt slots.length 1152921504606846976&&fn.name != "runtime.NumGoroutine" then
     some ⟨fn.params.size+fn.nfree,(List.range (fn.params.size+fn.nfree)).map λt=>idxOf t slots 0,slots.length,r,b⟩
    else none
   | _,_=>none
section
variable {α β γ:Type}
@[simp] theorem P5 (a:α)(k:α->Option β):ob (some a) k=k a:=rfl
@[simp] theorem ahl (k:α->Option β):ob none k=none:=rfl
theorem C8 {o:Option α}{k:α->Option β}{b:β}(h:ob o k=some b):∃a,o=some a∧k a=some b:=by
 cases o with
 | none=>simp at h
 | some a=>exact⟨a,rfl,h⟩
@[simp] theorem P7 (x y:α):bi true x y=x:=rfl
@[simp] theorem S9 (x y:α):bi false x y=y:=rfl
theorem D7 {b:Bool}{x:Option α}{a:α}(h:bi b x none=some a):b=true∧x=some a:=by
 cases b with
 | true=>exact⟨rfl,h⟩
 | false=>simp at h
theorem jI {b:Bool}{x:Option α}{a:α}(h:bi b none x=some a):b=false∧x=some a:=by
 cases b with
 | true=>simp at h
 | false=>exact⟨rfl,h⟩
end
namespace T
variable {α:Type}
@[simp] theorem anl (i:Nat):(T.e:T α).get i=none:=rfl
@[simp] theorem aer (l:T α)(x:α)(r:T α):(T.nd l x r).get 0=some x:=rfl
theorem dz (l:T α)(x:α)(r:T α)(i:Nat):(T.nd l x r).get (i+1)=if i%2=0 then l.get (i / 2) else r.get (i / 2):=by show (Nat.rec (l.get (Nat.div i 2)) (λ_ _=>r.get (Nat.div i 2)) (Nat.mod i 2):Option α)=_;have h:Nat.mod i 2=i%2:=rfl;rcases abU i with h0 | h1;rw [h,h0];rfl;rw [h,h1];rfl
@[simp] theorem aes (i:Nat)(x:α):(T.e:T α).put i x=.nd .e x .e:=rfl
@[simp] theorem Li (l:T α)(y:α)(r:T α)(x:α):(T.nd l y r).put 0 x=.nd l x r:=rfl
theorem Y0 (l:T α)(y:α)(r:T α)(i:Nat)(x:α):(T.nd l y r).put (i+1) x=if i%2=0 then .nd (l.put (i / 2) x) y r else .nd l y (r.put (i / 2) x):=by show (Nat.rec (T.nd (l.put (Nat.div i 2) x) y r) (λ_ _=>T.nd l y (r.put (Nat.div i 2) x)) (Nat.mod i 2):T α)=_;have h:Nat.mod i 2=i%2:=rfl;rcases abU i with h0 | h1;rw [h,h0];rfl;rw [h,h1];rfl
inductive Ok:T α->Nat->Prop
 | e:Ok .e 0
 | nd {l r:T α} {x:α} {n:Nat} (hl:Ok l ((n+1) / 2)) (hr:Ok r (n / 2)):Ok (.nd l x r) (n+1)
theorem Ok.get {t:T α}{n:Nat}(h:Ok t n):∀i,(∃x,t.get i=some x)↔i<n:=by
 induction h with
 | e=>intro i;simp
 | @nd l r x n hl hr ihl ihr=>
  intro i;cases i with
  | zero=>simp
  | succ i=>rw [dz];split;rw [ihl];omega;rw [ihr];omega
theorem Ok.put {t:T α}{n:Nat}(h:Ok t n):∀i (x:α),i<n->Ok (t.put i x) n:=by
 induction h with
 | e=>intro i x hi;omega
 | @nd l r y n hl hr ihl ihr=>
  intro i x hi;cases i with
  | zero=>exact .nd hl hr
  | succ i=>rw [Y0];split;exact .nd (ihl _ _ (by omega)) hr;exact .nd hl (ihr _ _ (by omega))
theorem Ok.push {t:T α}{n:Nat}(h:Ok t n):∀(x:α),Ok (t.put n x) (n+1):=by
 induction h with
 | e=>intro x;exact .nd .e .e
 | @nd l r y n hl hr ihl ihr=>intro x;rw [Y0];split;rename_i h0;refine .nd ?_ ?_;have:=ihl x;rw [show (n+1) / 2=n / 2 from by omega] at this;rw [show (n+1+1) / 2=n / 2+1 from by omega];exact this;rw [show (n+1) / 2=n / 2 from by omega];exact hr;rename_i h0;refine .nd ?_ ?_;rw [show (n+1+1) / 2=(n+1) / 2 from by omega];exact hl;have:=ihr x;rw [show (n+1) / 2=n / 2+1 from by omega];exact this
theorem bI {t:T α}{n:Nat}(h:Ok t n):∀i (x:α),i<=n->(t.put i x).get i=some x:=by
 induction h with
 | e=>intro i x hi;obtain rfl:i=0:=by omega
      rfl
 | @nd l r y n hl hr ihl ihr=>
  intro i x hi;cases i with
  | zero=>rfl
  | succ i=>rw [Y0];split;rename_i h0;rw [dz,if_pos h0];exact ihl _ _ (by omega);rename_i h0;rw [dz,if_neg h0];exact ihr _ _ (by omega)
theorem bO {t:T α}{n:Nat}(h:Ok t n):∀i j (x:α),i<=n->i≠j->(t.put i x).get j=t.get j:=by
 induction h with
 | e=>
  intro i j x hi hj;obtain rfl:i=0:=by omega
  cases j with
  | zero=>omega
  | succ j=>rw [aes,dz];simp
 | @nd l r y n hl hr ihl ihr=>
  intro i j x hi hij;cases i with
  | zero=>
   cases j with
   | zero=>omega
   | succ j=>rw [Li,dz,dz]
  | succ i=>
   rw [Y0];cases j with
   | zero=>split<;>rfl
   | succ j=>split;rename_i h0;rw [dz,dz];split;exact ihl _ _ _ (by omega) (by omega);rfl;rename_i h0;rw [dz,dz];split;rfl;exact ihr _ _ _ (by omega) (by omega)
theorem sK (x:α)(l:List α)(t:T α)(i:Nat):nI (x::l) t i=nI l (t.put i x) (i+1):=rfl
theorem FN (l:List α):∀(t:T α) (i:Nat),Ok t i->Ok (nI l t i) (i+l.length):=by
 induction l with
 | nil=>intro t i h;exact h
 | cons x l ih=>intro t i h;rw [sK,abW,show i+(l.length+1)=i+1+l.length from by omega];exact ih _ _ (h.push x)
theorem Dp (l:List α):∀(t:T α) (i:Nat),Ok t i->∀j,(nI l t i).get j=if j<i then t.get j else l[j-i]?:=by
 induction l with
 | nil=>
  intro t i h j;show t.get j=_;split;rfl;rename_i hj;cases hg:t.get j with
  | none=>simp
  | some x=>exact absurd ((h.get j).1 ⟨x,hg⟩) hj
 | cons x l ih=>intro t i h j;rw [sK,ih _ _ (h.push x)];by_cases h1:j<i;rw [if_pos (by omega),if_pos h1,bO h _ _ _ (J2 _) (by omega)];by_cases h2:j=i;subst h2;rw [if_pos (by omega),bI h _ _ (J2 _)];simp;rw [if_neg (by omega),if_neg h1,show j-i=(j-(i+1))+1 from by omega];simp
theorem aG (l:List α)(j:Nat):(ofList l).get j=l[j]?:=by have:=Dp l .e 0 .e j;simpa [ofList] using this
theorem fP (l:List α):Ok (ofList l) l.length:=by have:=FN l .e 0 .e;simpa [ofList] using this
theorem Dq (x:α)(n:Nat)(t:T α)(i:Nat):rep x (n+1) t i=rep x n (t.put i x) (i+1):=rfl
theorem Oq (x:α)(n:Nat):∀(t:T α) (i:Nat),Ok t i->Ok (rep x n t i) (i+n):=by
 induction n with
 | zero=>intro t i h;exact h
 | succ n ih=>intro t i h;rw [Dq,show i+(n+1)=i+1+n from by omega];exact ih _ _ (h.push x)
theorem Qe (x:α)(n:Nat):∀(t:T α) (i:Nat),Ok t i->∀j,(rep x n t i).get j=if j<i then t.get j else if j<i+n then some x else none:=by
 induction n with
 | zero=>
  intro t i h j;show t.get j=_;split;rfl;rename_i hj;rw [if_neg (by omega)];cases hg:t.get j with
  | none=>rfl
  | some y=>exact absurd ((h.get j).1 ⟨y,hg⟩) hj
 | succ n ih=>intro t i h j;rw [Dq,ih _ _ (h.push x)];by_cases h1:j<i;rw [if_pos (by omega),if_pos h1,bO h _ _ _ (J2 _) (by omega)];by_cases h2:j=i;subst h2;rw [if_pos (by omega),bI h _ _ (J2 _),if_neg h1,if_pos (by omega)];rw [if_neg (by omega),if_neg h1];by_cases h3:j<i+1+n;rw [if_pos h3,if_pos (by omega)];rw [if_neg h3,if_neg (by omega)]
theorem Dr (t:T α)(i:Nat):t.slice 0 i=some []:=rfl
theorem Dt (t:T α)(n i:Nat):t.slice (n+1) i=ob (t.get i) λx=>ob (t.slice n (i+1)) λxs=>some (x::xs):=rfl
theorem Ot (t:T α)(n:Nat):∀i l,t.slice n i=some l->l.length=n∧∀j,j<n->t.get (i+j)=l[j]?:=by
 induction n with
 | zero=>intro i l h;rw [Dr] at h;cases h;simp
 | succ n ih=>
  intro i l h;rw [Dt] at h;obtain⟨x,hx,h⟩:=C8 h;obtain⟨xs,hxs,h⟩:=C8 h;cases h;obtain⟨hl,hg⟩:=ih _ _ hxs;refine⟨by simp [hl],λj hj=>?_⟩;cases j with
  | zero=>simpa using hx
  | succ j=>rw [show i+(j+1)=i+1+j from by omega,hg j (by omega)];simp
end T
section
variable {α:Type}
@[simp] theorem I9 (l:List α):len' l=l.length:=by
 induction l with
 | nil=>rfl
 | cons x l ih=>show Nat.succ (len' l)=_;rw [ih];rfl
@[simp] theorem V5 (l m:List α):aX l m=l++m:=by
 induction l with
 | nil=>rfl
 | cons x l ih=>show x::aX l m=_;rw [ih];rfl
@[simp] theorem gN (n:Nat):∀l:List α,jo n l=l.drop n:=by
 induction n with
 | zero=>intro l;rfl
 | succ n ih=>
  intro l;cases l with
  | nil=>rfl
  | cons x l=>exact ih l
@[simp] theorem iY (n:Nat):∀l:List α,mK n l=l[n]?:=by
 induction n with
 | zero=>intro l;cases l<;>rfl
 | succ n ih=>
  intro l;cases l with
  | nil=>rfl
  | cons x l=>show mK n l=_;rw [ih];rfl
@[simp] theorem Us (n:Nat):∀l:List j3,nth n l=l[n]?.getD .undef:=by
 induction n with
 | zero=>intro l;cases l<;>rfl
 | succ n ih=>
  intro l;cases l with
  | nil=>rfl
  | cons x l=>show nth n l=_;rw [ih];rfl
theorem kJ (n:Nat):∀(l r:List α),takeN n l=some r->r=l.take n∧n<=l.length:=by
 induction n with
 | zero=>intro l r h;cases h;simp
 | succ n ih=>
  intro l r h;cases l with
  | nil=>cases h
  | cons x l=>
   change ob (takeN n l) (λr=>some (x::r))=some r at h
   obtain⟨r',hr,h⟩:=C8 h;cases h;obtain⟨h1,h2⟩:=ih _ _ hr;exact⟨by simp [h1],by simp;omega⟩
theorem gQ (n:Nat):∀(l:List α),n<=l.length->takeN n l=some (l.take n):=by
 induction n with
 | zero=>intro l _;rfl
 | succ n ih=>
  intro l h;cases l with
  | nil=>simp at h
  | cons x l=>
   change ob (takeN n l) (λr=>some (x::r))=_
   rw [ih l (by simpa using h)];rfl
theorem lQ (n:Nat)(vs:List α):∀(l:List α),n<=l.length->lI n vs l=l.take n++(vs++l.drop (n+vs.length)):=by
 induction n with
 | zero=>intro l _;show aX vs (jo (len' vs) l)=_;simp
 | succ n ih=>
  intro l h;cases l with
  | nil=>simp at h
  | cons x l=>show x::lI n vs l=_;rw [ih l (by simpa using h),show n+1+vs.length=(n+vs.length)+1 from by omega];simp
theorem yD (n:Nat)(vs l:List α)(h:n+vs.length<=l.length):(lI n vs l).length=l.length:=by rw [lQ n vs l (by omega)];simp;omega
theorem Ro (n:Nat)(vs l:List α)(h:n+vs.length<=l.length)(j:Nat):
  (lI n vs l)[j]?=if n<=j∧j<n+vs.length then vs[j-n]? else l[j]?:=by
 rw [lQ n vs l (by omega)];rw [List.getElem?_append];simp only [aio,show min n l.length=n from by omega];split;rw [if_neg (by omega),aft,if_pos (by omega)];rw [List.getElem?_append];split;rw [if_pos (by omega)];rw [if_neg (by omega),afF];congr 1;omega
end
structure Loc where
 b:Nat
 base:Nat
 cap:Nat
 spot:Option Nat
abbrev K4:=Nat->Loc
def K4.at (ι:K4)(i o:Nat):Addr:=⟨(ι i).b,(ι i).base+o,if o=0 then (ι i).spot else none⟩
theorem K4.yE {ι:K4}{i:Nat}(h:(ι i).spot=none)(o:Nat):ι.at i o=⟨(ι i).b,(ι i).base+o,none⟩:=by simp [K4.at,h]
def je (ι:K4):Fn->Fn
 | .yield l=>.yield (ι l).b
 | f=>f
mutual
def o8 (ι:K4):j3->Value
 | .undef=>.tuple #[]
 | .bool b=>.bool b
 | .int k n=>.int k n
 | .str s=>.string ⟨s.toArray⟩
 | .nilPtr=>.pointer none
 | .ptr i o=>.pointer (some (ι.at i o))
 | .nilSlice=>.slice none 0 0
 | .slice i o l c=>.slice (some (ι.at i o)) l c
 | .sliceU i o l es=>.slice (some (ι.at i o)) l (((ι i).cap-o) / es)
 | .nilMap=>.map none
 | .map i=>.map (some (ι i).b)
 | .nilFunc=>.nilFunc
 | .func fn a b=>.func (je ι fn) (y7 ι a).toArray (y7 ι b).toArray
 | .nilIface=>.nilIface
 | .iface t v=>.iface t (o8 ι v)
 | .agg l=>.agg (y7 ι l).toArray
 | .tuple l=>.tuple (y7 ι l).toArray
 | .mZ v=>.tuple #[o8 ι v]
def y7 (ι:K4):List j3->List Value
 | []=>[]
 | v::l=>o8 ι v::y7 ι l
end
structure Nm where
 has:Nat->Prop
 cap:Nat->Nat
instance:CoeFun Nm (λ_=>Nat->Prop):=⟨Nm.has⟩
def Nm.le (n m:Nm):Prop:=∀i,n i->m i∧m.cap i=n.cap i
theorem Nm.le_refl (n:Nm):n.le n:=λ_ h=>⟨h,rfl⟩
theorem Nm.le_trans {a b c:Nm}(h:a.le b)(k:b.le c):a.le c:=λi hi=>⟨(k i (h i hi).1).1,(k i (h i hi).1).2.trans (h i hi).2⟩
def Xz (n:Nm):Fn->Prop
 | .yield l=>n l
 | _=>True
mutual
def j3.lt (n:Nm):j3->Prop
 | .ptr i _=>n i
 | .slice i _ _ _=>n i
 | .sliceU i o l es=>n i∧1<=es∧o+l*es<=n.cap i
 | .map i=>n i
 | .func fn a b=>Xz n fn∧aS n a∧aS n b
 | .iface _ v=>v.lt n
 | .agg l=>aS n l
 | .tuple l=>aS n l
 | .mZ _=>False
 | _=>True
def aS (n:Nm):List j3->Prop
 | []=>True
 | v::l=>v.lt n∧aS n l
end
theorem bf (ι:K4)(l:List j3):y7 ι l=l.map (o8 ι):=by
 induction l with
 | nil=>simp [y7]
 | cons v l ih=>simp [y7,ih]
theorem bT {n:Nm}{l:List j3}:aS n l↔∀v∈l,v.lt n:=by
 induction l with
 | nil=>simp [aS]
 | cons v l ih=>simp [aS,ih]
@[simp] theorem V6 (ι:K4)(l:List j3):(y7 ι l).length=l.length:=by simp [bf]
theorem aJ (ι:K4)(l:List j3)(i:Nat):(y7 ι l)[i]?=l[i]?.map (o8 ι):=by simp [bf]
mutual
theorem Q0 {n:Nm}{ι ι':K4}(h:∀i,n i->ι' i=ι i):∀v:j3,v.lt n->o8 ι' v=o8 ι v
 | .undef,_ | .bool _,_ | .int _ _,_ | .str _,_ | .nilPtr,_ | .nilSlice,_ | .nilMap,_ | .nilFunc,_ | .nilIface,_=>by simp [o8]
 | .ptr i o,hv=>by simp only [j3.lt] at hv;simp [o8,K4.at,h i hv]
 | .slice i o l c,hv=>by simp only [j3.lt] at hv;simp [o8,K4.at,h i hv]
 | .sliceU i o l c,hv=>by simp only [j3.lt] at hv;simp [o8,K4.at,h i hv.1]
 | .map i,hv=>by simp only [j3.lt] at hv;simp [o8,h i hv]
 | .func fn a b,hv=>by
  simp only [j3.lt] at hv;obtain⟨hf,ha,hb⟩:=hv;have e:je ι' fn=je ι fn:=by cases fn<;>simp_all [je,Xz]
  simp [o8,e,eT h a ha,eT h b hb]
 | .iface t v,hv=>by simp only [j3.lt] at hv;simp [o8,Q0 h v hv]
 | .agg l,hv=>by simp only [j3.lt] at hv;simp [o8,eT h l hv]
 | .tuple l,hv=>by simp only [j3.lt] at hv;simp [o8,eT h l hv]
 | .mZ v,hv=>by simp only [j3.lt] at hv
theorem eT {n:Nm}{ι ι':K4}(h:∀i,n i->ι' i=ι i):∀l:List j3,aS n l->y7 ι' l=y7 ι l
 | [],_=>by simp [y7]
 | v::l,hl=>by simp only [aS] at hl;simp [y7,Q0 h v hl.1,eT h l hl.2]
end
mutual
theorem j3.O6 {n m:Nm}(h:n.le m):∀v:j3,v.lt n->v.lt m
 | .undef,_ | .bool _,_ | .int _ _,_ | .str _,_ | .nilPtr,_ | .nilSlice,_ | .nilMap,_ | .nilFunc,_ | .nilIface,_=>by simp [j3.lt]
 | .ptr i o,hv=>by simp only [j3.lt] at *;exact (h _ hv).1
 | .slice i o l c,hv=>by simp only [j3.lt] at *;exact (h _ hv).1
 | .sliceU i o l c,hv=>by simp only [j3.lt] at *;exact⟨(h _ hv.1).1,hv.2.1,by rw [(h _ hv.1).2];exact hv.2.2⟩
 | .map i,hv=>by simp only [j3.lt] at *;exact (h _ hv).1
 | .func fn a b,hv=>by simp only [j3.lt] at *;exact⟨by cases fn<;>first | trivial | exact (h _ hv.1).1,dB h a hv.2.1,dB h b hv.2.2⟩
 | .iface t v,hv=>by simp only [j3.lt] at *;exact j3.O6 h v hv
 | .agg l,hv=>by simp only [j3.lt] at *;exact dB h l hv
 | .tuple l,hv=>by simp only [j3.lt] at *;exact dB h l hv
 | .mZ v,hv=>by simp only [j3.lt] at hv
theorem dB {n m:Nm}(h:n.le m):∀l:List j3,aS n l->aS m l
 | [],_=>by simp [aS]
 | v::l,hl=>by simp only [aS] at *;exact⟨j3.O6 h v hl.1,dB h l hl.2⟩
end
theorem kK (ι:K4)(v:j3):(o8 ι v).cells=(y7 ι v.cells).toArray:=by cases v<;>simp [o8,Value.cells,j3.cells,y7]
theorem uh {n:Nm}{v:j3}(h:v.lt n):aS n v.cells:=by cases v<;>simp_all [j3.lt,j3.cells,aS]
mutual
theorem mM (ι:K4):∀(v:Value) (a:j3),ofValue v=some a->o8 ι a=v∧∀n,a.lt n
 | .bool b,a,h=>by simp only [ofValue,J6] at h;subst h;simp [o8,j3.lt]
 | .int k n,a,h=>by simp only [ofValue,J6] at h;subst h;simp [o8,j3.lt]
 | .string s,a,h=>by simp only [ofValue,J6] at h;subst h;simp [o8,j3.lt]
 | .pointer none,a,h=>by simp only [ofValue,J6] at h;subst h;simp [o8,j3.lt]
 | .pointer (some _),a,h=>by simp [ofValue] at h
 | .slice none 0 0,a,h=>by simp only [ofValue,J6] at h;subst h;simp [o8,j3.lt]
 | .slice (some _) _ _,a,h=>by simp [ofValue] at h
 | .slice none (_+1) _,a,h=>by simp [ofValue] at h
 | .slice none 0 (_+1),a,h=>by simp [ofValue] at h
 | .map none,a,h=>by simp only [ofValue,J6] at h;subst h;simp [o8,j3.lt]
 | .map (some _),a,h=>by simp [ofValue] at h
 | .nilFunc,a,h=>by simp only [ofValue,J6] at h;subst h;simp [o8,j3.lt]
 | .nilIface,a,h=>by simp only [ofValue,J6] at h;subst h;simp [o8,j3.lt]
 | .func (.func f) ⟨[]⟩ ⟨[]⟩,a,h=>by simp only [ofValue,J6] at h;subst h;simp [o8,j3.lt,je,y7,Xz,aS]
 | .func (.func f) ⟨_ :: _⟩ _,a,h=>by simp [ofValue] at h
 | .func (.func f) ⟨[]⟩ ⟨_ :: _⟩,a,h=>by simp [ofValue] at h
 | .func (.method _) _ _,a,h=>by simp [ofValue] at h
 | .func (.methodOf _ _) _ _,a,h=>by simp [ofValue] at h
 | .func (.via _ _ _ _) _ _,a,h=>by simp [ofValue] at h
 | .func (.yield _) _ _,a,h=>by simp [ofValue] at h
 | .agg ⟨l⟩,a,h=>by
  simp only [ofValue] at h;cases hx:ofValues l with
  | none=>simp [hx] at h
  | some x=>simp only [hx,J6] at h;subst h;obtain⟨h1,h2⟩:=uj ι l x hx;simp [o8,j3.lt,h1];exact h2
 | .tuple ⟨[]⟩,a,h=>by simp only [ofValue,J6] at h;subst h;simp [o8,j3.lt,y7,aS]
 | .tuple ⟨_ :: _⟩,a,h=>by simp [ofValue] at h
 | .float _ _,a,h=>by simp [ofValue] at h
 | .complex _ _ _,a,h=>by simp [ofValue] at h
 | .chan _,a,h=>by simp [ofValue] at h
 | .iface _ _,a,h=>by simp [ofValue] at h
theorem uj (ι:K4):∀(l:List Value) (x:List j3),ofValues l=some x->y7 ι x=l∧∀n,aS n x
 | [],x,h=>by simp only [ofValues,J6] at h;subst h;simp [y7,aS]
 | v::l,x,h=>by
  simp only [ofValues] at h;cases hv:ofValue v with
  | none=>simp [hv] at h
  | some a=>
   cases hl:ofValues l with
   | none=>simp [hv,hl] at h
   | some y=>simp only [hv,hl,J6] at h;subst h;obtain⟨h1,h2⟩:=mM ι v a hv;obtain⟨h3,h4⟩:=uj ι l y hl;simp [y7,aS,h1,h3];exact λn=>⟨h2 n,h4 n⟩
end
theorem ab6:∀(n j:Nat) (t:T j3),j+1<2^n->way n j t=(t.get j).getD .undef:=by
 intro n;induction n with
 | zero=>intro j t h;simp at h
 | succ n ih=>
  intro j t h;cases j with
  | zero=>cases t<;>rfl
  | succ j=>
   have hj:j / 2+1<2^n:=by rw [Nat.pow_succ] at h;omega
   rcases abU j with h0 | h0;simp only [way,h0];cases t with
   | e=>rfl
   | nd l x r=>rw [T.dz,if_pos h0];exact ih _ l hj
   simp only [way,h0];cases t with
   | e=>rfl
   | nd l x r=>rw [T.dz,if_neg (by omega)];exact ih _ r hj
theorem XA (v:j3):∀(n j:Nat) (t:T j3) (x:j3),j+1<2^n->t.get j=some x->tH n j v t=t.put j v:=by
 intro n;induction n with
 | zero=>intro j t x h;simp at h
 | succ n ih=>
  intro j t x h hx;cases t with
  | e=>simp at hx
  | nd l y r=>
   cases j with
   | zero=>rfl
   | succ j=>have hj:j / 2+1<2^n:=(by rw [Nat.pow_succ] at h;omega);rw [T.dz] at hx;rcases abU j with h0 | h0;rw [if_pos h0] at hx;simp only [tH,h0];rw [T.Y0,if_pos h0];show T.nd (tH n (j / 2) v l) y r=_;rw [ih _ l x hj hx];rw [if_neg (by omega)] at hx;simp only [tH,h0];rw [T.Y0,if_neg (by omega)];show T.nd l y (tH n (j / 2) v r)=_;rw [ih _ r x hj hx]
theorem um {t:Nat}{l:List Nat}{i j:Nat}(h:idxOf t l i=some j):i<=j∧j<i+l.length∧l[j-i]?=some t:=by
 induction l generalizing i with
 | nil=>simp [idxOf] at h
 | cons x l ih=>
  simp only [idxOf] at h;cases hx:Nat.beq x t with
  | true=>simp only [hx,cond_true,J6] at h;subst h;have:=J4 hx;simp [this]
  | false=>simp only [hx,cond_false] at h;obtain⟨h1,h2,h3⟩:=ih h;refine⟨by omega,by simp;omega,?_⟩;rw [show j-i=(j-(i+1))+1 from by omega];simpa using h3
theorem Rp {t u:Nat}{l:List Nat}{i j:Nat}(h:idxOf t l i=some j)(h':idxOf u l i=some j):t=u:=by have a:=(um h).2.2;have b:=(um h').2.2;rw [a] at b;exact Y7 b
structure U7 (ι:K4)(n:Nm)(slots:List Nat)(env:T j3)(tmps:Array Value):Prop where
 ok:T.Ok env slots.length
 small:slots.length<2^60
 val:∀t j,idxOf t slots 0=some j->t<tmps.size∧∃v,env.get j=some v∧v.lt n∧tmps.getD t undef=o8 ι v
theorem U7.mono {ι ι':K4}{n n':Nm}{slots:List Nat}{env:T j3}{tmps:Array Value}(h:U7 ι n slots env tmps)
  (hi:∀i,n i->ι' i=ι i) (hn:n.le n'):U7 ι' n' slots env tmps:=
 ⟨h.ok,h.small,λt j ht=>by
  obtain⟨h1,v,h2,h3,h4⟩:=h.val t j ht;exact⟨h1,v,h2,v.O6 hn h3,by rw [h4,Q0 hi v h3]⟩⟩
theorem aU (a:Array Value)(i j:Nat)(v:Value)(hi:i<a.size):
  (a.setIfInBounds i v).getD j undef=if i=j then v else a.getD j undef:=by
 rw [Xd,Xd];by_cases h:i=j;subst h;rw [if_pos rfl,Z4 hi];rfl;rw [if_neg h,Y4 h]
theorem U7.put {ι:K4}{n:Nm}{slots:List Nat}{env:T j3}{tmps:Array Value}(h:U7 ι n slots env tmps)(d:Option Tmp){v:j3}(hv:v.lt n):
  U7 ι n slots (bW (FM slots d) v env) (match d with | some t=>tmps.setIfInBounds t (o8 ι v) | none=>tmps):=by
 cases d with
 | none=>exact h
 | some t=>
  simp only [FM];cases ht:idxOf t slots 0 with
  | none=>
   refine⟨h.ok,h.small,λu j hu=>?_⟩;obtain⟨h1,v',h2,h3,h4⟩:=h.val u j hu;refine⟨by simpa using h1,v',h2,h3,?_⟩;have hne:t≠u:=λe=>by subst e;rw [ht] at hu;cases hu
   by_cases hts:t<tmps.size;rw [aU _ _ _ _ hts,if_neg hne];exact h4;rw [show tmps.setIfInBounds t (o8 ι v)=tmps from aij (ae7 hts)];exact h4
  | some k=>
   obtain⟨h1,x,h2,_,_⟩:=h.val t k ht;have hk:=(um ht).2.1
   have hway:bW (some k) v env=env.put k v:=XA v 64 k env x (by have:=h.small;have:(2:Nat)^60<2^64:=by decide
                                                                omega) h2
   rw [hway];refine⟨h.ok.put _ _ (by omega),h.small,λu j hu=>?_⟩;obtain⟨g1,v',g2,g3,g4⟩:=h.val u j hu;refine⟨by simpa using g1,?_⟩;rw [aU _ _ _ _ h1];by_cases he:t=u;subst he;rw [ht] at hu;cases hu;exact⟨v,T.bI h.ok _ _ (by omega),hv,by simp⟩;refine⟨v',?_,g3,by rw [if_neg he];exact g4⟩;rw [T.bO h.ok _ _ _ (by omega) (λe=>he (by subst e;exact Rp ht hu))];exact g2
def U2:O9->Bool
 | .cells .. | .map _ | .iter .. | .loop .. | .deferred | .siter .. | .buf .. | .mapU _=>true
 | _=>false
def exitCode:bK->Code
 | .normal=>.skip
 | .exit id=>.exit id
 | .ret=>.ret
section
variable (P:Program)
structure xw (ι:K4)(n:Nm)(L:Loop)(st:LoopState)(pend:Option bK)(env:T j3)(params:List (Option Nat))(assign body:U6):Prop where
 state:L.state=st
 pending:L.pending=pend.map exitCode
 code:∃slots,U7 ι n slots env L.tmps∧params=L.params.toList.map (λt=>idxOf t slots 0)∧Q7 P slots L.assign=some assign∧Q7 P slots L.body=some body∧
  ∃nt,nt<=L.tmps.size∧tmpsIn nt L.assign=true∧tmpsIn nt L.body=true
def I5 (ι:K4):List (j3×j3)->Nat->List MapEntry
 | [],_=>[]
 | e::es,i=>{key:=o8 ι e.1,val:=o8 ι e.2,born:=i}::I5 ι es (i+1)
def Ut (P:Program)(l:Loc)(e:TypeId)(sz k:Nat)(rows:T (List j3)):Prop:=∀ty,k=1->Gq rows=some ty->e=ty∧l.base=0∧sz=P.cellsOf ty
theorem xA {P:Program}{l:Loc}{e:TypeId}{sz k:Nat}{rows:T (List j3)}(h:k=1->rows.get 1=none):Ut P l e sz k rows:=λty h1 h2=>by unfold Gq at h2;rw [h h1] at h2;cases h2
theorem uo {P:Program}{l:Loc}{e:TypeId}{sz k:Nat}{rows:T (List j3)}(h:T.Ok rows k):Ut P l e sz k rows:=xA λh1=>by
 subst h1;cases hg:rows.get 1 with
 | none=>rfl
 | some x=>exact absurd ((h.get 1).1 ⟨x,hg⟩) (by omega)
theorem Rq {rows:T (List j3)}{N i:Nat}(h:T.Ok rows N)(hi:i<=N)(h1:i≠1)(r:List j3):Gq (rows.put i r)=Gq rows:=by unfold Gq;rw [T.bO h _ _ _ hi h1]
def UOk (ι:K4)(es:List (j3×j3))(L:List MapEntry):Prop:=
 (L.map λx=>(x.key,x.val)).Perm (es.map λe=>(o8 ι e.1,o8 ι e.2))∧(∀e∈es,∃s,e.1=.str s)∧(es.map (·.1)).Nodup
def bP (ι:K4)(n:Nm)(h:Array Obj)(l:Loc):O9->Prop
 | .void=>True
 | .dead=>True
 | .cells rs k rows=>∃c e fz,h[l.b]?=some (.cells c e fz)∧l.base+l.cap<=c.size∧(k*rs<=l.cap∧∃N,k<=N∧T.Ok rows N∧Ut P l e c.size k rows)∧
   ∀i,i<k->∃row,rows.get i=some row∧row.length=rs∧aS n row∧∀j,j<rs->c[l.base+(i*rs+j)]?=(row[j]?).map (o8 ι)
 | .map es=>h[l.b]?=some (.map (I5 ι es 0).toArray es.length)∧∀e∈es,e.1.lt n∧e.2.lt n
 | .iter mp since seen=>l.base=0∧(∀x,mp=some x->n x)∧∃sn st,h[l.b]?=some (.mapIter (mp.map λx=>(ι x).b) since sn st)∧sn.toList.reverse=seen∧(mp≠none->st=since)
 | .tail p=>n p∧(l.cap=0∨(l.b=(ι p).b∧l.base+l.cap<=(ι p).base+(ι p).cap∧((ι p).spot=none->l.spot=none)))
 | .loop st pend env params assign body=>∃L,h[l.b]?=some (.loop L)∧xw P ι n L st pend env params assign body
 | .deferred=>h[l.b]?=some (.deferred (some []))
 | .siter s pos=>l.base=0∧h[l.b]?=some (.stringIter ⟨s.toArray⟩ pos)
 | .buf ty s=>l.base=0∧∃c fz,h[l.b]?=some (.cells c ty fz)∧s.length<=l.cap∧l.cap<=c.size∧∀(j:Nat) (b:UInt8),s[j]?=some b->c[j]?=some (Value.int .u8 (b.toNat:Int))
 | .mapU es=>∃L ck,h[l.b]?=some (.map L.toArray ck)∧UOk ι es L∧∀e∈es,e.1.lt n∧e.2.lt n
structure ajg (ι:K4)(m:Mem)(h:Array Obj)(i:Nat):Prop where
 alone:∀j b,j≠i->m.get j=some b->U2 b=true->(ι j).b≠(ι i).b
 free:∀c e fz,h[(ι i).b]?=some (.cells c e fz)->∀k,k<c.size->¬ (fz.1<=k∧k<fz.2)
def bQ:O9->Bool
 | .void=>true
 | _=>false
def Mem.has (m:Mem)(i:Nat):Prop:=∃b,m.get i=some b∧bQ b=false
def Mem.nm (m:Mem)(ι:K4):Nm:=⟨m.has,λi=>(ι i).cap⟩
theorem Mem.ah {m m':Mem}{ι ι':K4}(h:∀i,m.has i->m'.has i)(hi:∀i,m.has i->ι' i=ι i):(m.nm ι).le (m'.nm ι'):=
 λi hh=>⟨h i hh,congrArg Loc.cap (hi i hh)⟩
def GSz (P:Program)(G:Mem)(h:Array Obj):Prop:=∀i rs k rows,i<P.globals.size->G.get i=some (.cells rs k rows)->∃c e fz,h[i]?=some (.cells c e fz)∧c.size=k*rs
structure RM (G:Mem)(ι:K4)(m:Mem)(h:Array Obj):Prop where
 ok:T.Ok m.t m.nx
 blk:∀i b,m.get i=some b->bP P ι (m.nm ι) h (ι i) b
 own:∀i b,m.lim<=i->m.get i=some b->U2 b=true->ajg ι m h i
 glim:G.nx<=m.lim
 limn:m.lim<=m.nx
 gle:P.globals.size<=G.nx
 base:∀i,i<G.nx->m.get i=G.get i
 ghas:∀i,i<P.globals.size->m.has i
 glob:∀i,i<P.globals.size->(ι i).b=i∧(ι i).base=0∧(ι i).spot=none
 spot:∀i b,m.get i=some b->U2 b=true->(ι i).spot=none
 gsz:GSz P G h
end
def Lj (ι:K4)(m:Mem)(b:Nat):Prop:=∃i x,m.lim<=i∧m.get i=some x∧U2 x=true∧(ι i).b=b
theorem RM.Ll {P:Program}{G:Mem}{ι:K4}{m:Mem}{h h':Array Obj}(hm:RM P G ι m h)(hh:∀b,b<h.size->¬ Lj ι m b->h'[b]?=h[b]?):GSz P G h':=by
 intro i rs k rows hi hg;obtain⟨c,e,fz,h1,h2⟩:=hm.gsz i rs k rows hi hg;have hlt:i<h.size:=(K9.1 h1).1;have hGn:i<G.nx:=Xb hi hm.gle;have hmi:m.get i=some (.cells rs k rows):=(hm.base i hGn).trans hg;refine⟨c,e,fz,?_,h2⟩;rw [hh i hlt];exact h1;rintro⟨j,x,hj,hx,hlx,hb⟩;have hne:i≠j:=by have:=hm.glim;omega
 exact (hm.own j x hj hx hlx).alone i _ hne hmi rfl (by rw [(hm.glob i hi).1,hb])
structure Step (P:Program)(G:Mem)(ι:K4)(m:Mem)(w:World)(ι':K4)(m':Mem)(w':World):Prop where
 rm:RM P G ι' m' w'.heap
 ext:∀i,m.has i->ι' i=ι i
 has:∀i,m.has i->m'.has i
 nx:m.nx<=m'.nx
 lim:m'.lim=m.lim
 old:∀i,i<m.lim->m'.get i=m.get i
 size:w.heap.size<=w'.heap.size
 frame:∀b,b<w.heap.size->¬ Lj ι m b->w'.heap[b]?=w.heap[b]?
 own:∀b,Lj ι' m' b->Lj ι m b∨w.heap.size<=b
 os:w'.os=w.os
 out:w'.output=w.output
 tape:w'.tape=w.tape
theorem Step.refl {P:Program}{G:Mem}{ι:K4}{m:Mem}{w:World}(h:RM P G ι m w.heap):Step P G ι m w ι m w:=
 ⟨h,λ_ _=>rfl,λ_ h=>h,J2 _,rfl,λ_ _=>rfl,J2 _,λ_ _ _=>rfl,λ_ h=>.inl h,rfl,rfl,rfl⟩
theorem Step.drew {P:Program}{G:Mem}{ι:K4}{m:Mem}{w:World}(h:RM P G ι m w.heap)(n:Nat):Step P G ι m w ι m {w with drawn:=n}:=
 ⟨h,λ_ _=>rfl,λ_ h=>h,J2 _,rfl,λ_ _=>rfl,J2 _,λ_ _ _=>rfl,λ_ h=>.inl h,rfl,rfl,rfl⟩
theorem Step.trans {P:Program}{G:Mem}{ι₁ ι₂ ι₃:K4}{m₁ m₂ m₃:Mem}{w₁ w₂ w₃:World}(a:Step P G ι₁ m₁ w₁ ι₂ m₂ w₂)(b:Step P G ι₂ m₂ w₂ ι₃ m₃ w₃):
  Step P G ι₁ m₁ w₁ ι₃ m₃ w₃ where
 rm:=b.rm
 ext i hi:=(b.ext i (a.has i hi)).trans (a.ext i hi)
 has i hi:=b.has i (a.has i hi)
 nx:=Xl a.nx b.nx
 lim:=b.lim.trans a.lim
 old i hi:=(b.old i (by rw [a.lim];exact hi)).trans (a.old i hi)
 size:=Xl a.size b.size
 frame x hx ho:=by refine (b.frame x (Xb hx a.size) λh=>?_).trans (a.frame x hx ho);rcases a.own x h with h | h;exact ho h;omega
 own x h:=by rcases b.own x h with h | h;exact a.own x h;exact .inr (Xl a.size h)
 os:=b.os.trans a.os
 out:=b.out.trans a.out
 tape:=b.tape.trans a.tape
theorem Step.o8 {P:Program}{G:Mem}{ι ι':K4}{m m':Mem}{w w':World}(a:Step P G ι m w ι' m' w'){v:j3}(h:v.lt (m.nm ι)):AM.o8 ι' v=AM.o8 ι v:=
 Q0 (n:=m.nm ι) a.ext v h
theorem Step.env {P:Program}{G:Mem}{ι ι':K4}{m m':Mem}{w w':World}(a:Step P G ι m w ι' m' w'){slots:List Nat}{env:T j3}{tmps:Array Value}
  (h:U7 ι (m.nm ι) slots env tmps):U7 ι' (m'.nm ι') slots env tmps:=h.mono (n:=m.nm ι) a.ext (Mem.ah a.has a.ext)
theorem xw.mono {P:Program}{ι ι':K4}{n n':Nm}{L:Loop}{st:LoopState}{pend:Option bK}{env:T j3}{params:List (Option Nat)}{assign body:U6}
  (h:xw P ι n L st pend env params assign body) (hi:∀i,n i->ι' i=ι i) (hn:n.le n'):xw P ι' n' L st pend env params assign body:=by
 obtain⟨h1,h2,slots,h3,h4⟩:=h;exact⟨h1,h2,slots,h3.mono hi hn,h4⟩
theorem wL {ι ι':K4}{n:Nm}(hi:∀i,n i->ι' i=ι i):∀(es:List (j3×j3)) (i:Nat),(∀e∈es,e.1.lt n∧e.2.lt n)->I5 ι' es i=I5 ι es i
 | [],_,_=>rfl
 | e::es,i,h=>by simp only [I5];rw [Q0 hi _ (h e (by simp)).1,Q0 hi _ (h e (by simp)).2,wL hi es (i+1) (λe he=>h e (by simp [he]))]
@[simp] theorem Du (ι:K4):∀(es:List (j3×j3)) (i:Nat),(I5 ι es i).length=es.length
 | [],_=>rfl
 | e::es,i=>by simp [I5,Du ι es]
theorem lS (ι:K4):∀(es:List (j3×j3)) (i j:Nat),(I5 ι es i)[j]?=(es[j]?).map λe=>{key:=o8 ι e.1,val:=o8 ι e.2,born:=i+j}
 | [],_,_=>by simp [I5]
 | e::es,i,0=>by simp [I5]
 | e::es,i,j+1=>by simp [I5,lS ι es,show i+1+j=i+(j+1) from by omega]
theorem bP.mono {P:Program}{ι ι':K4}{n n':Nm}{h h':Array Obj}{l:Loc}{b:O9}(hb:bP P ι n h l b)
  (hi:∀i,n i->ι' i=ι i) (hn:n.le n') (hh:U2 b=true->h'[l.b]?=h[l.b]?):bP P ι' n' h' l b:=by
 cases b with
 | void=>trivial
 | dead=>trivial
 | cells rs k rows=>
  obtain⟨c,e,fz,h1,h2,h3,h4⟩:=hb;refine⟨c,e,fz,by rw [hh rfl];exact h1,h2,h3,λi hk=>?_⟩;obtain⟨row,g1,g2,g3,g4⟩:=h4 i hk;refine⟨row,g1,g2,dB hn row g3,λj hj=>?_⟩;rw [g4 j hj];cases hr:row[j]? with
  | none=>rfl
  | some v=>simp [Q0 hi v (bT.1 g3 v (Y5 hr))]
 | map es=>obtain⟨h1,h2⟩:=hb;refine⟨?_,λe he=>⟨e.1.O6 hn (h2 e he).1,e.2.O6 hn (h2 e he).2⟩⟩;rw [hh rfl,h1,wL hi es 0 h2]
 | iter mp since seen=>
  obtain⟨h0,h1,sn,st,h2,h3,h4⟩:=hb;refine⟨h0,λx hx=>(hn x (h1 x hx)).1,sn,st,?_,h3,h4⟩;rw [hh rfl,h2];cases mp with
  | none=>rfl
  | some x=>simp [hi x (h1 x rfl)]
 | tail p=>obtain⟨h1,h2⟩:=hb;exact⟨(hn p h1).1,by rw [hi p h1];exact h2⟩
 | loop st pend env params assign body=>obtain⟨L,h1,h2⟩:=hb;exact⟨L,by rw [hh rfl];exact h1,h2.mono hi hn⟩
 | deferred=>exact (hh rfl).trans hb
 | siter s pos=>exact⟨hb.1,(hh rfl).trans hb.2⟩
 | buf ty s=>obtain⟨h0,c,fz,h1,h2⟩:=hb;exact⟨h0,c,fz,(hh rfl).trans h1,h2⟩
 | mapU es=>
  obtain⟨L,ck,h1,⟨h2,h3,h4⟩,h5⟩:=hb;refine⟨L,ck,(hh rfl).trans h1,⟨?_,h3,h4⟩,λe he=>⟨e.1.O6 hn (h5 e he).1,e.2.O6 hn (h5 e he).2⟩⟩;have:es.map (λe=>(o8 ι' e.1,o8 ι' e.2))=es.map λe=>(o8 ι e.1,o8 ι e.2):=aiy λe he=>by rw [Q0 hi _ (h5 e he).1,Q0 hi _ (h5 e he).2]
  rw [this];exact h2
theorem Mem.N7 {m:Mem}(h:T.Ok m.t m.nx)(b:O9)(i:Nat):(m.new b).get i=if i=m.nx then some b else m.get i:=by show (m.t.put m.nx b).get i=_;split;rename_i e;subst e;exact T.bI h _ _ (J2 _);rename_i e;exact T.bO h _ _ _ (J2 _) (λh=>e h.symm)
theorem Mem.Z0 {m:Mem}(h:T.Ok m.t m.nx){j:Nat}(hj:j<m.nx)(b:O9)(i:Nat):(m.set j b).get i=if i=j then some b else m.get i:=by show (m.t.put j b).get i=_;split;rename_i e;subst e;exact T.bI h _ _ (afz hj);rename_i e;exact T.bO h _ _ _ (afz hj) (λh=>e h.symm)
theorem Mem.I8 {m:Mem}(h:T.Ok m.t m.nx){i:Nat}{b:O9}(hi:m.get i=some b):i<m.nx:=(h.get i).1 ⟨b,hi⟩
@[simp] theorem Mem.Lm (m:Mem)(b:O9):(m.new b).nx=m.nx+1:=rfl
@[simp] theorem Mem.XB (m:Mem)(b:O9):(m.new b).lim=m.lim:=rfl
@[simp] theorem Mem.aeu (m:Mem)(i:Nat)(b:O9):(m.set i b).nx=m.nx:=rfl
@[simp] theorem Mem.ahm (m:Mem)(i:Nat)(b:O9):(m.set i b).lim=m.lim:=rfl
def K4.upd (ι:K4)(i:Nat)(l:Loc):K4:=λj=>if j=i then l else ι j
@[simp] theorem K4.Q8 (ι:K4)(i:Nat)(l:Loc):ι.upd i l i=l:=by simp [K4.upd]
theorem K4.upd_ne (ι:K4){i j:Nat}(l:Loc)(h:j≠i):ι.upd i l j=ι j:=by simp [K4.upd,h]
theorem dD {P:Program}{ι:K4}{n:Nm}{h:Array Obj}{l:Loc}{b:O9}(hb:bP P ι n h l b)(hl:U2 b=true):l.b<h.size:=by
 cases b with
 | void=>cases hl
 | dead=>cases hl
 | tail=>cases hl
 | cells rs k rows=>obtain⟨c,e,fz,h1,_⟩:=hb;exact (K9.1 h1).1
 | map es=>obtain⟨h1,_⟩:=hb;exact (K9.1 h1).1
 | iter mp since seen=>obtain⟨_,_,sn,st,h1,_⟩:=hb;exact (K9.1 h1).1
 | loop=>obtain⟨L,h1,_⟩:=hb;exact (K9.1 h1).1
 | deferred=>exact (K9.1 hb).1
 | siter s pos=>exact (K9.1 hb.2).1
 | buf ty s=>obtain⟨_,c,fz,h1,_⟩:=hb;exact (K9.1 h1).1
 | mapU es=>obtain⟨L,ck,h1,_⟩:=hb;exact (K9.1 h1).1
structure Laid (m m':Mem)(nid:Nat)(b:O9):Prop where
 ok:T.Ok m'.t m'.nx
 get:∀i,m'.get i=if i=nid then some b else m.get i
 lim:m'.lim=m.lim
 nx:m.nx<=m'.nx
 le:m.lim<=nid
 free:¬ m.has nid
 live:bQ b=false
theorem Laid.new {m:Mem}(h:T.Ok m.t m.nx)(hl:m.lim<=m.nx)(b:O9)(hb:bQ b=false):Laid m (m.new b) m.nx b:=
 ⟨h.push b,Mem.N7 h b,rfl,aiB _,hl,λ⟨_,h1,_⟩=>afB _ (Mem.I8 h h1),hb⟩
theorem Laid.set {m:Mem}(h:T.Ok m.t m.nx){i:Nat}(hi:m.get i=some .void)(hl:m.lim<=i)(b:O9)(hb:bQ b=false):Laid m (m.set i b) i b:=
 ⟨h.put i b (Mem.I8 h hi),Mem.Z0 h (Mem.I8 h hi) b,rfl,J2 _,hl,λ⟨_,h1,h2⟩=>(by rw [hi] at h1;cases h1;cases h2),hb⟩
theorem Laid.has {m m':Mem}{nid:Nat}{b:O9}(h:Laid m m' nid b)(i:Nat)(hi:m.has i):m'.has i:=by have hne:i≠nid:=λe=>h.free (e▸hi);obtain⟨x,h1,h2⟩:=hi;exact⟨x,by rw [h.get,if_neg hne];exact h1,h2⟩
theorem Laid.self {m m':Mem}{nid:Nat}{b:O9}(h:Laid m m' nid b):m'.has nid:=⟨b,by rw [h.get,if_pos rfl],h.live⟩
theorem qB {m:Mem}{i:Nat}{b:O9}(h:m.get i=some b)(hl:U2 b=true):m.has i:=⟨b,h,by cases b<;>first | rfl | cases hl⟩
structure Uu (w w':World)(o:Obj):Prop where
 heap:w'.heap=w.heap.push o
 os:w'.os=w.os
 out:w'.output=w.output
 tape:w'.tape=w.tape
theorem Step.lay {P:Program}{G:Mem}{ι:K4}{m m':Mem}{w w':World}(h:RM P G ι m w.heap){nid:Nat}{b:O9}(hm:Laid m m' nid b){o:Obj}(hw:Uu w w' o){l:Loc}
  (hl:l.b=w.heap.size) (hs:l.spot=none)
  (hb:bP P (ι.upd nid l) (m'.nm (ι.upd nid l)) (w.heap.push o) l b)
  (hf:∀c e fz,o=.cells c e fz->∀k,k<c.size->¬ (fz.1<=k∧k<fz.2)):
  Step P G ι m w (ι.upd nid l) m' w':=by
 have hold:∀i x,m.get i=some x->U2 x=true->(ι i).b<w.heap.size:=λi x hx hlx=>dD (h.blk i x hx) hlx;have hpush:∀k,k<w.heap.size->w'.heap[k]?=w.heap[k]?:=λk hk=>by rw [hw.heap];exact aik hk |>.trans (aaG hk).symm
 have hext:∀j,m.has j->ι.upd nid l j=ι j:=λj hj=>ι.upd_ne l λe=>hm.free (e▸hj);refine⟨⟨hm.ok,?_,?_,by rw [hm.lim];exact h.glim,by rw [hm.lim];exact Xl h.limn hm.nx,h.gle,λi hi=>by rw [hm.get,if_neg (by have:=hm.le;have:=h.glim;omega)];exact h.base i hi,λi hi=>hm.has i (h.ghas i hi),?_,?_,h.Ll λk hk _=>hpush k hk⟩,hext,hm.has,hm.nx,hm.lim,?_,by rw [hw.heap];simp,?_,?_,hw.os,hw.out,hw.tape⟩;intro i x hx;rw [hm.get] at hx;split at hx;rename_i e;subst e;cases hx;rw [hw.heap];simpa using hb;rename_i e;rw [ι.upd_ne l e];exact (h.blk i x hx).mono (n:=m.nm ι) hext (Mem.ah hm.has hext) (λhlx=>hpush _ (hold i x hx hlx));intro i x hi hx hlx;rw [hm.lim] at hi;rw [hm.get] at hx;split at hx;rename_i e;subst e;cases hx;refine⟨λj y hj hy hly=>?_,λc e fz hc=>?_⟩;rw [hm.get,if_neg hj] at hy;rw [ι.upd_ne l hj,ι.Q8,hl];have:=hold j y hy hly;omega;rw [ι.Q8,hl,hw.heap] at hc;simp at hc;exact hf c e fz hc;rename_i e;have ho:=h.own i x hi hx hlx;have hb':=hold i x hx hlx;refine⟨λj y hj hy hly=>?_,λc e' fz hc=>?_⟩;rw [ι.upd_ne l e];rw [hm.get] at hy;split at hy;rename_i ej;subst ej;cases hy;rw [ι.Q8,hl];omega;rename_i ej;rw [ι.upd_ne l ej];exact ho.alone j y hj hy hly;rw [ι.upd_ne l e] at hc;rw [hpush _ hb'] at hc;exact ho.free c e' fz hc;intro i hi;rw [hext i (h.ghas i hi)];exact h.glob i hi;intro i x hx hlx;rw [hm.get] at hx;split at hx;rename_i e;subst e;rw [ι.Q8];exact hs;rename_i e;rw [ι.upd_ne l e];exact h.spot i x hx hlx;intro i hi;rw [hm.get,if_neg (by have:=hm.le;omega)];intro b' hb' _;exact hpush b' hb';rintro b' ⟨i,x,hi,hx,hlx,rfl⟩;rw [hm.lim] at hi;rw [hm.get] at hx;split at hx;rename_i e;subst e;right;rw [ι.Q8,hl];exact J2 _;rename_i e;left;rw [ι.upd_ne l e];exact⟨i,x,hi,hx,hlx,rfl⟩
theorem Step.name {P:Program}{G:Mem}{ι:K4}{m m':Mem}{w:World}(h:RM P G ι m w.heap){nid:Nat}{b:O9}(hm:Laid m m' nid b)(hd:U2 b=false){l:Loc}
  (hb:bP P (ι.upd nid l) (m'.nm (ι.upd nid l)) w.heap l b):Step P G ι m w (ι.upd nid l) m' w:=by
 have hext:∀j,m.has j->ι.upd nid l j=ι j:=λj hj=>ι.upd_ne l λe=>hm.free (e▸hj);have hne:∀i x,m'.get i=some x->U2 x=true->i≠nid∧m.get i=some x:=λi x hx hlx=>by rw [hm.get] at hx;split at hx;cases hx;rw [hd] at hlx;cases hlx;exact⟨by assumption,hx⟩
 refine⟨⟨hm.ok,?_,?_,by rw [hm.lim];exact h.glim,by rw [hm.lim];exact Xl h.limn hm.nx,h.gle,λi hi=>by rw [hm.get,if_neg (by have:=hm.le;have:=h.glim;omega)];exact h.base i hi,λi hi=>hm.has i (h.ghas i hi),?_,?_,h.gsz⟩,hext,hm.has,hm.nx,hm.lim,?_,J2 _,λ_ _ _=>rfl,?_,rfl,rfl,rfl⟩;intro i x hx;rw [hm.get] at hx;split at hx;rename_i e;subst e;cases hx;simpa using hb;rename_i e;rw [ι.upd_ne l e];exact (h.blk i x hx).mono (n:=m.nm ι) hext (Mem.ah hm.has hext) (λ_=>rfl);intro i x hi hx hlx;rw [hm.lim] at hi;obtain⟨h1,h2⟩:=hne i x hx hlx;have ho:=h.own i x hi h2 hlx;refine⟨λj y hj hy hly=>?_,λc e' fz hc=>?_⟩;obtain⟨h3,h4⟩:=hne j y hy hly;rw [ι.upd_ne l h1,ι.upd_ne l h3];exact ho.alone j y hj h4 hly;rw [ι.upd_ne l h1] at hc;exact ho.free c e' fz hc;intro i hi;rw [hext i (h.ghas i hi)];exact h.glob i hi;intro i x hx hlx;obtain⟨h1,h2⟩:=hne i x hx hlx;rw [ι.upd_ne l h1];exact h.spot i x h2 hlx;intro i hi;rw [hm.get,if_neg (by have:=hm.le;omega)];rintro b' ⟨i,x,hi,hx,hlx,rfl⟩;rw [hm.lim] at hi;obtain⟨h1,h2⟩:=hne i x hx hlx;rw [ι.upd_ne l h1];exact .inl ⟨i,x,hi,h2,hlx,rfl⟩
def ajh (ι:K4)(n:Nm)(done:List (Option Nat))(ls:List j3)(tmps:Array Value):Prop:=
 ∀t k,iG t done 0=some k->∃v,ls[k]?=some v∧v.lt n∧tmps.getD t undef=o8 ι v
structure St (P:Program)(ι:K4)(n:Nm)(slots:List Nat)(done:List (Option Nat))(ls:List j3)(env:T j3)(tmps:Array Value):Prop where
 ls:ajh ι n done ls tmps
 env:U7 ι n slots env tmps
 glob:∀i,i<P.globals.size->(ι i).b=i∧(ι i).base=0∧(ι i).spot=none
 gn:∀g,g<P.globals.size->n g
section
variable {P:Program}{G:Mem}{ι:K4}{n:Nm}{slots:List Nat}{done:List (Option Nat)}{ls:List j3}{env:T j3}{a:Act}
theorem Dv (k:Nat):∀(ls:List j3) (env:T j3),F9 (.loc k) ls env=ls[k]?.getD .undef:=by
 intro ls env;match k with
 | 0=>cases ls<;>rfl
 | 1=>match ls with | [] | [_] | _ :: _ :: _=>rfl
 | 2=>match ls with | [] | [_] | [_,_] | _ :: _ :: _ :: _=>rfl
 | 3=>match ls with | [] | [_] | [_,_] | [_,_,_] | _ :: _ :: _ :: _ :: _=>rfl
 | k+4=>show nth (k+4) ls=_;exact Us _ _
theorem Uv (j:Nat)(h:j<2^60)(ls:List j3)(env:T j3):F9 (.slot j) ls env=(env.get j).getD .undef:=by
 show way 64 j env=_
 exact ab6 64 j env (by have:(2:Nat)^60+1<2^64:=by decide
                        omega)
theorem A8 (s:St P ι n slots done ls env a.tmps){x:Operand}{o:P6}(h:N9 P slots done x=some o):
  a.eval x=o8 ι (F9 o ls env)∧(F9 o ls env).lt n:=by
 cases x with
 | tmp t=>
  simp only [N9] at h;cases hk:iG t done 0 with
  | some k=>simp only [hk,J6] at h;subst h;obtain⟨v,h1,h2,h3⟩:=s.ls t k hk;rw [Dv,h1];exact⟨h3,h2⟩
  | none=>
   simp only [hk] at h;cases hj:idxOf t slots 0 with
   | none=>simp [hj] at h
   | some j=>simp only [hj,J6] at h;subst h;obtain⟨_,v,h1,h2,h3⟩:=s.env.val t j hj;rw [Uv j (by have:=(um hj).2.1;have:=s.env.small;omega),h1];exact⟨h3,h2⟩
 | const v=>
  simp only [N9] at h;cases hv:ofValue v with
  | none=>simp [hv] at h
  | some c=>simp only [hv,J6] at h;subst h;obtain⟨h1,h2⟩:=mM ι v c hv;exact⟨h1.symm,h2 n⟩
 | global g=>simp only [N9] at h;split at h;rename_i hg;cases h;obtain⟨h1,h2,h3⟩:=s.glob g hg;refine⟨?_,?_⟩;show Value.pointer (some ⟨g,0,none⟩)=.pointer (some (ι.at g 0));rw [K4.yE h3,h1,h2];exact s.gn g hg;cases h
 | func f=>simp only [N9,J6] at h;subst h;exact⟨by simp [Act.eval,F9,D8,o8,je,y7],by simp [F9,D8,j3.lt,Xz,aS]⟩
theorem kL (s:St P ι n slots done ls env a.tmps):∀{l:List Operand} {os:List P6},jr P slots done l=some os->
  l.map a.eval=y7 ι (evs (fD os) ls env)∧aS n (evs (fD os) ls env)
 | [],os,h=>by simp only [jr,J6] at h;subst h;simp [fD,evs,y7,aS]
 | x::l,os,h=>by
  simp only [jr] at h;cases hx:N9 P slots done x with
  | none=>simp [hx] at h
  | some o=>
   cases hl:jr P slots done l with
   | none=>simp [hx,hl] at h
   | some r=>simp only [hx,hl,J6] at h;subst h;obtain⟨h1,h2⟩:=A8 s hx;obtain⟨h3,h4⟩:=kL s hl;refine⟨?_,?_⟩;show a.eval x::l.map a.eval=o8 ι (F9 o ls env)::y7 ι (evs (fD r) ls env);rw [h1,h3];exact⟨h2,h4⟩
end
section
variable {P:Program}{G:Mem}{w:World}
theorem run_underlying {t:TypeId}{d:TypeDesc}(h:P.underlying t=some d):(underlying t).run P w=.ok d w:=by simp [underlying,h]
theorem run_sizeOf {t:TypeId}{k:Nat}(h:aK P t=some k):(sizeOf t).run P w=.ok k w:=by simp only [aK,ac4] at h;obtain⟨i,h1,h2⟩:=h;simp [sizeOf,typeInfo,h1,h2]
theorem vM {t:TypeId}{k:Nat}(h:fE P t=some k):∃i,(typeInfo t).run P w=.ok i w∧i.bytes=k:=by simp only [fE,ac4] at h;obtain⟨i,h1,h2⟩:=h;exact⟨i,by simp [typeInfo,h1],h2⟩
theorem qC {t:TypeId}{b:Bool}(h:wo P t=some b):(isAgg t).run P w=.ok b w:=by
 simp only [wo] at h;cases hu:P.underlying t with
 | none=>simp [hu] at h
 | some d=>simp only [isAgg,Y1,run_underlying hu,J8];cases d<;>simp_all
theorem Dw {t:TypeId}{s:Option Nat}(h:partT P t=some s):(s=none∧wo P t=some false∧∃k,aK P t=some k)∨(∃k,s=some k∧wo P t=some true∧aK P t=some k):=by simp only [partT] at h;split at h;rename_i k h1 h2;cases h;exact .inr ⟨k,rfl,h1,h2⟩;rename_i k h1 h2;cases h;exact .inl ⟨rfl,h1,k,h2⟩;cases h
theorem cO {t:TypeId}{z:List j3}(h:qA P t=some z)(ι:K4):∃v,(zeroValue t).run P w=.ok v w∧v.cells=(y7 ι z).toArray∧∀n,aS n z:=by
 simp only [qA] at h;cases hi:P.info? t with
 | none=>simp [hi] at h
 | some i=>
  cases hz:i.zero with
  | none=>simp [hi,hz] at h
  | some v=>
   cases ha:ofValue v with
   | none=>simp [hi,hz,ha] at h
   | some a=>simp only [hi,hz,ha,aei,J6] at h;subst h;obtain⟨h1,h2⟩:=mM ι v a ha;exact⟨v,by simp [zeroValue,typeInfo,hi,hz],by rw [← h1,kK],λn=>uh (h2 n)⟩
theorem nC {t:TypeId}{z:j3}(h:zeroV P t=some z)(ι:K4):(zeroValue t).run P w=.ok (o8 ι z) w∧∀n,z.lt n:=by
 simp only [zeroV] at h;cases hi:P.info? t with
 | none=>simp [hi] at h
 | some i=>
  cases hz:i.zero with
  | none=>simp [hi,hz] at h
  | some v=>simp only [hi,hz,aei] at h;obtain⟨h1,h2⟩:=mM ι v z h;exact⟨by simp [zeroValue,typeInfo,hi,hz,h1],h2⟩
end
theorem yF (n:Int)(h:-9223372036854775808<=n∧n<9223372036854775808):IntKind.i64.wrap n=n:=by
 have e1:((2:Int)^IntKind.i64.bits)=18446744073709551616:=rfl;have e2:((2:Int)^(IntKind.i64.bits-1))=9223372036854775808:=rfl;unfold IntKind.wrap;rw [e1,e2];show (if (true&&decide (n%18446744073709551616≥9223372036854775808))=true then n%18446744073709551616-18446744073709551616 else n%18446744073709551616)=n;obtain⟨h1,h2⟩:=h;by_cases hn:0<=n;have:n%18446744073709551616=n:=Int.emod_eq_of_lt hn (by omega);rw [this,if_neg (by simp only [aax,decide_eq_true_eq];omega)];have:n%18446744073709551616=n+18446744073709551616:=by rw [← Int.add_emod_right];exact Int.emod_eq_of_lt (by omega) (by omega)
 rw [this,if_pos (by simp only [aax,decide_eq_true_eq];omega)];omega
theorem ab7 (n:Int):iU n=IntKind.i64.wrap n:=by
 cases n with
 | ofNat m=>
  simp only [iU];cases h:Nat.blt m 9223372036854775808 with
  | true=>
   have:m<9223372036854775808:=(Eq.mp Y8 h)
   have hw:=yF (Int.ofNat m) ⟨by have:(0:Int)<=Int.ofNat m:=Int.natCast_nonneg m
                                 omega,by have:Int.ofNat m=(m:Int):=rfl
                                          omega⟩
   exact (P7 _ _).trans hw.symm
  | false=>exact S9 _ _
 | negSucc m=>
  simp only [iU];cases h:Nat.blt m 9223372036854775808 with
  | true=>have:m<9223372036854775808:=(Eq.mp Y8 h);have e:=ahd m;have hw:=yF (Int.negSucc m) ⟨by omega,by omega⟩;exact (P7 _ _).trans hw.symm
  | false=>exact S9 _ _
theorem uq (k:IntKind)(n:Int):sF k n=k.wrap n:=by cases k<;>first | exact ab7 n | rfl
theorem fF (a b:Int):aV a b=(a==b):=by
 cases a with
 | ofNat a=>
  cases b with
  | ofNat b=>show Nat.beq a b=_;by_cases h:a=b;subst h;simp [ac0];rw [show Nat.beq a b=false from ac3.2 λe=>h (J4 e)];exact (beq_eq_false_iff_ne.2 (λe=>h (Int.ofNat.inj e))).symm
  | negSucc b=>exact (beq_eq_false_iff_ne.2 (λe=>by cases e)).symm
 | negSucc a=>
  cases b with
  | ofNat b=>exact (beq_eq_false_iff_ne.2 (λe=>by cases e)).symm
  | negSucc b=>show Nat.beq a b=_;by_cases h:a=b;subst h;simp [ac0];rw [show Nat.beq a b=false from ac3.2 λe=>h (J4 e)];exact (beq_eq_false_iff_ne.2 (λe=>h (Int.negSucc.inj e))).symm
theorem blt_eq (a b:Nat):Nat.blt a b=decide (a<b):=by by_cases h:a<b;rw [decide_eq_true h];exact (Eq.mpr Y8 h);rw [decide_eq_false h];exact ac3.2 λe=>h (Eq.mp Y8 e)
theorem fG (a b:Int):jF a b=decide (a<b):=by
 cases a with
 | ofNat a=>
  cases b with
  | ofNat b=>exact (blt_eq a b).trans (decide_eq_decide.2 (by show a<b↔(a:Int)<(b:Int);omega))
  | negSucc b=>exact (decide_eq_false (by rw [ahd];show ¬ (a:Int) < _;omega)).symm
 | negSucc a=>
  cases b with
  | ofNat b=>exact (decide_eq_true (by rw [ahd];show _<(b:Int);omega)).symm
  | negSucc b=>exact (blt_eq b a).trans (decide_eq_decide.2 (by rw [ahd,ahd];omega))
theorem Ou (a b:IntKind):Xj a b=decide (a=b):=by cases a<;>cases b<;>rfl
theorem gT:∀a b:List UInt8,strEq a b=(a==b)
 | [],[]=>rfl
 | [],_ :: _=>rfl
 | _ :: _,[]=>rfl
 | x::a,y::b=>by
  show bi (Nat.beq x.toNat y.toNat) (strEq a b) false=_;rw [gT a b];by_cases h:x=y;subst h;simp [ac0];have:Nat.beq x.toNat y.toNat=false:=by rw [ac3];intro e;exact h (adE.1 (J4 e))
  rw [this];simp [h]
theorem Dx:∀a b:List UInt8,qX a b=Op.bytesLess a b
 | _,[]=>by cases ‹List UInt8› <;> rfl
 | [],_ :: _=>rfl
 | x::a,y::b=>by simp [qX,Op.bytesLess,Dx a b]
theorem K4.nP (ι:K4)(i o k:Nat):(ι.at i o).add k=ι.at i (o+k):=by
 unfold Addr.add K4.at
 split;rename_i h;subst h;rfl;rename_i h;have:¬ (o+k=0):=by omega
 simp [afv,this];intro _ hk;exact absurd hk h
section
variable {β:Type}{v:j3}{r:β}
theorem dV {k:Nat->Nat->Option β}(h:gK v k=some r):∃i o,v=.ptr i o∧k i o=some r:=by cases v<;>first | exact⟨_,_,rfl,h⟩ | (simp [gK] at h)
theorem jJ {k:IntKind->Int->Option β}(h:qW v k=some r):∃i n,v=.int i n∧k i n=some r:=by cases v<;>first | exact⟨_,_,rfl,h⟩ | (simp [qW] at h)
theorem qD {k:Bool->Option β}(h:nJ v k=some r):∃b,v=.bool b∧k b=some r:=by cases v<;>first | exact⟨_,rfl,h⟩ | (simp [nJ] at h)
theorem iq {k:List UInt8->Option β}(h:lJ v k=some r):∃s,v=.str s∧k s=some r:=by cases v<;>first | exact⟨_,rfl,h⟩ | (simp [lJ] at h)
theorem dW {k:List j3->Option β}(h:tF v k=some r):∃l,v=.agg l∧k l=some r:=by cases v<;>first | exact⟨_,rfl,h⟩ | (simp [tF] at h)
theorem XC {k:List j3->Option β}(h:KN v k=some r):∃l,v=.tuple l∧k l=some r:=by cases v<;>first | exact⟨_,rfl,h⟩ | (simp [KN] at h)
theorem vN {nl:Option β}{k:Nat->Option β}(h:wh v nl k=some r):(v=.nilMap∧nl=some r)∨∃i,v=.map i∧k i=some r:=by cases v<;>first | exact .inl ⟨rfl,h⟩ | exact .inr ⟨_,rfl,h⟩ | (simp [wh] at h)
theorem rA {nl:Option β}{k u:Nat->Nat->Nat->Nat->Option β}(h:jV v nl k u=some r):
  (v=.nilSlice∧nl=some r)∨(∃a b c d,v=.slice a b c d∧k a b c d=some r)∨∃a b c d,v=.sliceU a b c d∧u a b c d=some r:=by
 cases v<;>first | exact .inl ⟨rfl,h⟩ | exact .inr (.inl ⟨_,_,_,_,rfl,h⟩) | exact .inr (.inr ⟨_,_,_,_,rfl,h⟩) | (simp [jV] at h)
theorem Jl {k:Fn->List j3->List j3->Option β}(h:KO v k=some r):∃f a b,v=.func f a b∧k f a b=some r:=by cases v<;>first | exact⟨_,_,_,rfl,h⟩ | (simp [KO] at h)
theorem XD {n:Int}{k:Nat->Option β}(h:KP n k=some r):∃m:Nat,n=(m:Int)∧k m=some r:=by
 cases n with
 | ofNat m=>exact⟨m,rfl,h⟩
 | negSucc m=>simp [KP] at h
theorem eZ {k:Nat->Option β}(h:gZ v k=some r):∃i,∃m:Nat,v=.int i (m:Int)∧k m=some r:=by obtain⟨i,n,rfl,h⟩:=jJ h;obtain⟨m,rfl,h⟩:=XD h;exact⟨i,m,rfl,h⟩
theorem idx_eq {len:Nat}{k:Nat->Option β}(h:idx len v k=some r):∃i,∃m:Nat,v=.int i (m:Int)∧m<len∧k m=some r:=by obtain⟨i,m,rfl,h⟩:=eZ h;obtain⟨h1,h2⟩:=D7 h;exact⟨i,m,rfl,Eq.mp Y8 h1,h2⟩
end
section
variable {P:Program}{G:Mem}{ι:K4}{n:Nm}
theorem rD {op:BinOp}{t:TypeId}{x y:Operand}{a b:Value}{w:World}
  (h:∀p q,a≠.agg p∨b≠.agg q) (h':a≠.nilIface∨b≠.nilIface∨wK x=true∨wK y=true):(eqGuard op t x y a b).run P w=.ok () w:=by
 unfold eqGuard;cases op<;>simp<;>(
  split;rename_i h1 h2;rcases h' with h' | h' | h' | h';exact absurd rfl h';exact absurd rfl h';cases x<;>simp_all [wK]
  cases y<;>simp_all [wK]
  rename_i p q;rcases h p q with h | h<;>exact absurd rfl h
  rfl)
theorem Jm {op:BinOp}(h1:op≠.shl)(h2:op≠.shr){k:IntKind}{a b:Int}{v:j3}(h:IY op k a b=some v)(t:TypeId)(w:World):
  (binOp op t (.int k a) (.int k b)).run P w=.ok (o8 ι v) w∧v.lt n:=by
 cases op<;>first
  | exact absurd rfl h1
  | exact absurd rfl h2
  | (simp only [IY,qc,KR,Xk,jW,KS,NV,TW,Oe,Xm,aem,iOr,aen,PU,J6] at h
     subst h;simp [binOp,Op.intArith,Op.intCmp,Op.intBits,o8,j3.lt,uq,fF,fG,yx,bne]
     done)
  | (simp only [IY,aek,ael,aaR] at h
     have hb:b≠0:=(by rintro rfl;simp at h);split at h;exact absurd rfl hb;cases h;simp [binOp,Op.intDiv,hb,o8,j3.lt,uq])
  | (simp only [IY,TW,Xm,J6] at h
     subst h;simp [binOp,Op.intCmp,o8,j3.lt,fG];rw [aas];simp)
theorem nQ (s:List UInt8):(⟨s.toArray⟩:ByteArray).size=s.length:=by simp [ByteArray.size]
theorem Jo {op:BinOp}{a b:List UInt8}{v:j3}(h:IZ op a b=some v)(t:TypeId)(w:World):
  (binOp op t (.string ⟨a.toArray⟩) (.string ⟨b.toArray⟩)).run P w=.ok (o8 ι v) w∧v.lt n:=by
 cases op<;>first
  | (simp only [IZ,CW] at h;cases h;done)
  | (simp only [IZ,jX,KT,Og,Xn,PV,sGe,J6] at h
     subst h;simp [binOp,Op.stringOp,o8,j3.lt,gT,Dx]
     done)
  | (simp only [IZ,qy] at h
     obtain⟨h1,h2⟩:=D7 h;cases h2;have h3:len' a+len' b<9223372036854775808:=Eq.mp Y8 h1;simp only [I9] at h3;simp [binOp,Op.stringOp,nQ,o8,j3.lt];rw [if_neg (by omega)];congr 3)
theorem rF {op:BinOp}(h1:op≠.shl)(h2:op≠.shr){x y v:j3}(h:BP (IY op) (IZ op) x y=some v)(t:TypeId)(w:World):
  (binOp op t (o8 ι x) (o8 ι y)).run P w=.ok (o8 ι v) w∧v.lt n:=by
 cases x<;>try (simp [BP] at h;done)
 rename_i k a;simp only [BP] at h;obtain⟨k',b,rfl,h⟩:=jJ h;obtain⟨h3,h4⟩:=D7 h;rw [Ou,decide_eq_true_eq] at h3;subst h3;exact Jm h1 h2 h4 t w;rename_i a;simp only [BP] at h;obtain⟨b,rfl,h⟩:=iq h;exact Jo h t w
theorem Rs {op:BinOp}{x y v:j3}(h:BP (IY op) (IZ op) x y=some v):
  (∃k a,x=.int k a)∨∃a,x=.str a:=by
 cases x<;>first | exact .inl ⟨_,_,rfl⟩ | exact .inr ⟨_,rfl⟩ | (simp [BP] at h;done)
theorem Gx {x y v:j3}(h:Xo x y=some v)(t:TypeId)(w:World):(binOp .shl t (o8 ι x) (o8 ι y)).run P w=.ok (o8 ι v) w∧v.lt n:=by simp only [Xo] at h;obtain⟨k,a,rfl,h⟩:=jJ h;obtain⟨i,m,rfl,h⟩:=eZ h;cases h;simp [binOp,Op.shift,o8,j3.lt,uq,show ¬ ((m:Int)<0) from by omega]
theorem Gy {x y v:j3}(h:Xp x y=some v)(t:TypeId)(w:World):(binOp .shr t (o8 ι x) (o8 ι y)).run P w=.ok (o8 ι v) w∧v.lt n:=by simp only [Xp] at h;obtain⟨k,a,rfl,h⟩:=jJ h;obtain⟨i,m,rfl,h⟩:=eZ h;cases h;simp [binOp,Op.shift,o8,j3.lt,show ¬ ((m:Int)<0) from by omega]
theorem zY (a b:Bool):CX a b=(a==b):=by cases a<;>cases b<;>rfl
theorem nR {x y:j3}{r:Bool}(h:aF x y=some r):∃k a b,x=.int k a∧y=.int k b∧r=(a==b):=by obtain⟨k,a,h0,h1⟩:=jJ h;obtain⟨k',b,h2,h3⟩:=jJ h1;obtain⟨h4,h5⟩:=D7 h3;rw [Ou,decide_eq_true_eq] at h4;subst h4;cases h5;exact⟨_,_,_,h0,h2,fF _ _⟩
theorem gU {x y:j3}{r:Bool}(h:zQ x y=some r):∃a b,x=.bool a∧y=.bool b∧r=(a==b):=by obtain⟨a,h0,h1⟩:=qD h;obtain⟨b,h2,h3⟩:=qD h1;cases h3;exact⟨_,_,h0,h2,zY _ _⟩
theorem jf {x y:j3}{r:Bool}(h:eqStr x y=some r):∃a b,x=.str a∧y=.str b∧r=(a==b):=by obtain⟨a,h0,h1⟩:=iq h;obtain⟨b,h2,h3⟩:=iq h1;cases h3;exact⟨_,_,h0,h2,gT _ _⟩
end
section
variable {P:Program}{G:Mem}{ι:K4}{n:Nm}
theorem kM (a b:List j3):bH [] a b=some true:=rfl
theorem jv (k:PK)(ks:List PK)(x y:j3)(a b:List j3):bH (k::ks) (x::a) (y::b)=ob (FI k x y) λr=>bi r (bH ks a b) (some false):=rfl
theorem jw {k:PK}{ks:List PK}{a b:List j3}{r:Bool}(h:bH (k::ks) a b=some r):
  ∃x xs y ys s,a=x::xs∧b=y::ys∧FI k x y=some s∧bi s (bH ks xs ys) (some false)=some r:=by
 cases a with
 | nil=>cases h
 | cons x xs=>
  cases b with
  | nil=>cases h
  | cons y ys=>rw [jv] at h;obtain⟨s,h1,h2⟩:=C8 h;exact⟨x,xs,y,ys,s,rfl,rfl,h1,h2⟩
theorem Ov (ks ms:List PK):∀(a b:List j3) (r:Bool),bH (ks++ms) a b=some r->
  (bH ks a b=some false∧r=false)∨(bH ks a b=some true∧bH ms (a.drop ks.length) (b.drop ks.length)=some r):=by
 induction ks with
 | nil=>intro a b r h;right;exact⟨rfl,by simpa using h⟩
 | cons k ks ih=>
  intro a b r h;obtain⟨x,xs,y,ys,s,rfl,rfl,h1,h2⟩:=jw h;rw [jv,h1];cases s with
  | false=>left;cases h2;exact⟨rfl,rfl⟩
  | true=>simpa using ih xs ys r h2
theorem Bc (ks:List PK):∀(m:Nat) (a b:List j3),ks.length<=m->bH ks (a.take m) (b.take m)=bH ks a b:=by
 induction ks with
 | nil=>intro m a b _;rfl
 | cons k ks ih=>
  intro m a b h;obtain⟨m,rfl⟩:∃m',m=m'+1:=⟨m-1,by simp at h;omega⟩;cases a with
  | nil=>rfl
  | cons x xs=>
   cases b with
   | nil=>rfl
   | cons y ys=>rw [ae2,ae2,jv,jv,ih m xs ys (by simpa using h)]
def mkV (ι:K4)(agg:Bool)(l:List j3):Value:=if agg then .agg (y7 ι l).toArray else o8 ι (l.headD .undef)
theorem Jp (ι:K4)(l:List j3)(o k:Nat):((y7 ι l).toArray.extract o (o+k))=(y7 ι ((l.drop o).take k)).toArray:=by rw [List.extract_toArray];congr 1;rw [bf,bf,afR,aej];simp [aj2,aj0]
theorem uw {t:TypeId}{agg:Bool}{k:Nat}(ha:wo P t=some agg)(hs:aK P t=some k)(l:List j3)(o:Nat)(hl:agg=false->o<l.length∧k=1)(w:World):
  (part t (y7 ι l).toArray o).run P w=.ok (mkV ι agg ((l.drop o).take k)) w:=by
 simp only [part,Y1,qC ha,J8];cases agg with
 | true=>simp only [if_true,Y1,run_sizeOf hs,J8,aat,Jp];rfl
 | false=>
  obtain⟨h,rfl⟩:=hl rfl;have:(y7 ι l).toArray[o]?=some (o8 ι l[o]):=by simp [aJ,J7 h]
  simp only [J9,if_false,this,mkV,aat];congr 2;rw [Y6 h];rfl
theorem Dy {t:TypeId}{k:IntKind}(h:P.underlying t=some (.int k)):wo P t=some false:=by simp [wo,h]
theorem Rt {t:TypeId}(h:P.underlying t=some .bool):wo P t=some false:=by simp [wo,h]
theorem Lr {t:TypeId}(h:P.underlying t=some .string):wo P t=some false:=by simp [wo,h]
theorem pE {t:TypeId}{fs:Array Field}(h:P.underlying t=some (.struct fs)):wo P t=some true:=by simp [wo,h]
theorem uy {t:TypeId}{k:IntKind}(h:P.underlying t=some (.int k)){x y:j3}{r:Bool}(he:aF x y=some r)(d:Nat)(w:World):
  (Op.equalIn (d+1) t (o8 ι x) (o8 ι y)).run P w=.ok r w:=by
 obtain⟨k,a,b,rfl,rfl,rfl⟩:=nR he;simp [Op.equalIn,run_underlying h,o8]
theorem yG {t:TypeId}(h:P.underlying t=some .bool){x y:j3}{r:Bool}(he:zQ x y=some r)(d:Nat)(w:World):
  (Op.equalIn (d+1) t (o8 ι x) (o8 ι y)).run P w=.ok r w:=by
 obtain⟨a,b,rfl,rfl,rfl⟩:=gU he;simp [Op.equalIn,run_underlying h,o8]
theorem kZ (a b:List UInt8):((⟨a.toArray⟩:ByteArray)==⟨b.toArray⟩)=(a==b):=by show ByteArray.beq _ _=_;simp [ByteArray.beq]
theorem Bd {t:TypeId}(h:P.underlying t=some .string){x y:j3}{r:Bool}(he:eqStr x y=some r)(d:Nat)(w:World):
  (Op.equalIn (d+1) t (o8 ι x) (o8 ι y)).run P w=.ok r w:=by
 obtain⟨a,b,rfl,rfl,rfl⟩:=jf he;simp [Op.equalIn,run_underlying h,o8,kZ]
def jy (d:Nat)(X Y:Array Value):List Field->Sem Bool
 | []=>pure true
 | f::l=>do
  if f.name≠ "_" then
   if !(← Op.equalIn d f.type (← part f.type X f.offset) (← part f.type Y f.offset)) then return false
  jy d X Y l
theorem Jq (d:Nat)(X Y:Array Value)(l:List Field):
  (do
   let s ← forIn l ((none,()):Option Bool×Unit) λf _=>
    if f.name≠ "_" then do
     let a ← part f.type X f.offset
     let b ← part f.type Y f.offset
     let e ← Op.equalIn d f.type a b
     if (!e)=true then pure (ForInStep.done (some false,())) else pure (ForInStep.yield (none,()))
    else pure (ForInStep.yield (none,()))
   match s.fst with
   | some r=>pure r
   | none=>pure true:Sem Bool)=jy d X Y l:=by
 induction l with
 | nil=>simp [jy]
 | cons f l ih=>rw [aiv];simp only [jy];rw [← ih];by_cases hf:f.name= "_";simp [hf];simp only [ne_eq,hf,not_false_eq_true,if_true,bind_assoc];congr 1;funext a;congr 1;funext b;congr 1;funext e;cases e<;>simp
theorem Dz {t:TypeId}{fs:Array Field}(h:P.underlying t=some (.struct fs))(hs:P.stoodInHeld t=false)(X Y:Array Value)(d:Nat)(w:World):
  (Op.equalIn (d+1) t (.agg X) (.agg Y)).run P w=(jy d X Y fs.toList).run P w:=by
 simp only [Op.equalIn,Y1,run_underlying h,J8,run_program,hs];rw [← aiE,← Jq];simp;congr 1;funext a w';obtain⟨o,u⟩:=a;cases o<;>rfl
theorem Gz:∀(d:Nat) (t:TypeId) (ks:List PK),eY P d t=some ks->∃agg,wo P t=some agg∧aK P t=some ks.length∧(agg=false->ks.length=1)∧
  ∀D,d<=D->∀(a b:List j3) (r:Bool),bH ks a b=some r->∀w,(Op.equalIn D t (mkV ι agg a) (mkV ι agg b)).run P w=.ok r w:=by
 intro d;induction d with
 | zero=>intro t ks h;simp [eY] at h
 | succ d ih=>
  intro t ks h;simp only [eY] at h;cases hu:P.underlying t with
  | none=>simp [hu] at h
  | some u=>
   rw [hu] at h;cases u<;>try (simp at h;done)
   ·
    simp only at h;split at h;rename_i hz;cases h;refine⟨false,Rt hu,hz,λ_=>rfl,λD hD a b r he w=>?_⟩;obtain⟨x,xs,y,ys,s,rfl,rfl,h1,h2⟩:=jw he;obtain⟨D,rfl⟩:∃D',D=D'+1:=⟨D-1,by omega⟩;have:s=r:=by cases s<;>simpa [kM] using h2
    subst this;exact yG hu h1 D w;cases h
   simp only at h;split at h;rename_i hz;cases h;refine⟨false,Dy hu,hz,λ_=>rfl,λD hD a b r he w=>?_⟩;obtain⟨x,xs,y,ys,s,rfl,rfl,h1,h2⟩:=jw he;obtain⟨D,rfl⟩:∃D',D=D'+1:=⟨D-1,by omega⟩;have:s=r:=by cases s<;>simpa [kM] using h2
   subst this;exact uy hu h1 D w;cases h;simp only at h;split at h;rename_i hz;cases h;refine⟨false,Lr hu,hz,λ_=>rfl,λD hD a b r he w=>?_⟩;obtain⟨x,xs,y,ys,s,rfl,rfl,h1,h2⟩:=jw he;obtain⟨D,rfl⟩:∃D',D=D'+1:=⟨D-1,by omega⟩;have:s=r:=by cases s<;>simpa [kM] using h2
   subst this;exact Bd hu h1 D w;cases h;rename_i fs;simp only at h;cases hf:nO (eY P d) fs.toList 0 with
   | none=>simp [hf] at h
   | some ks'=>
    simp only [hf] at h;split at h;rename_i hz;cases h;refine⟨true,pE hu,hz.2,(λh=>by cases h),λD hD a b r he w=>?_⟩;obtain⟨D,rfl⟩:∃D',D=D'+1:=⟨D-1,by omega⟩;simp only [mkV,if_true];rw [Dz hu hz.1];have key:∀(l:List Field) (off:Nat) (ks₁:List PK) (pre:List PK),ks=pre++ks₁->pre.length=off->nO (eY P d) l off=some ks₁->
      ∀r,bH ks₁ (a.drop off) (b.drop off)=some r->(jy D (y7 ι a).toArray (y7 ι b).toArray l).run P w=.ok r w:=by
     intro l;induction l with
     | nil=>intro off ks₁ pre _ _ hl r hr;simp only [nO,J6] at hl;subst hl;rw [kM] at hr;cases hr;simp [jy]
     | cons f l ihl=>
      intro off ks₁ pre hks hpre hl r hr;simp only [nO] at hl;split at hl;rename_i hn;cases hk:eY P d f.type with
      | none=>simp [hk] at hl
      | some kf=>
       simp only [hk] at hl;cases hrest:nO (eY P d) l (off+kf.length) with
       | none=>simp [hrest] at hl
       | some kr=>
        simp only [hrest,J6] at hl;subst hl;obtain⟨agg,ha,hsz,h1,hE⟩:=ih f.type kf hk;have hne:∀(c:List j3),(a=c∨b=c)->agg=false->off<c.length∧kf.length=1:=by
         intro c hc hagg;have h1':=h1 hagg;refine⟨?_,h1'⟩;cases kf with
         | nil=>simp at h1'
         | cons k0 kf=>obtain⟨x,xs,y,ys,s,e1,e2,_,_⟩:=jw hr;rcases hc with rfl | rfl;have:=congrArg List.length e1;simp at this;omega;have:=congrArg List.length e2;simp at this;omega
        simp only [jy,if_pos hn.1,Y1];rw [hn.2,uw ha hsz _ _ (hne a (.inl rfl)),J8,uw ha hsz _ _ (hne b (.inr rfl)),J8];rcases Ov kf kr _ _ r hr with⟨e1,rfl⟩ | ⟨e1,e2⟩;rw [hE D (by omega) _ _ _ ((Bc kf _ _ _ (J2 _)).trans e1) w];simp;rw [hE D (by omega) _ _ _ ((Bc kf _ _ _ (J2 _)).trans e1) w];simp only [J8,ail,J9,if_false];refine ihl (off+kf.length) kr (pre++kf) (by rw [hks];simp) (by simp [hpre]) hrest r ?_;simpa [Z6] using e2
      cases hl
    exact key fs.toList 0 ks [] rfl rfl hf r (by simpa using he);cases h
end
section
variable {P:Program}{G:Mem}{ι:K4}{n:Nm}
theorem Uw {t:TypeId}{x y:j3}{r:Bool}(hx:(∀k a,x≠.int k a)∧∀s,x≠.str s)(h:∀w,(Op.equal t (o8 ι x) (o8 ι y)).run P w=.ok r w)(w:World):
  (binOp .eql t (o8 ι x) (o8 ι y)).run P w=.ok (.bool r) w∧(binOp .neq t (o8 ι x) (o8 ι y)).run P w=.ok (.bool (!r)) w:=by
 have e1:binOp .eql t (o8 ι x) (o8 ι y)=(do pure (.bool (← Op.equal t (o8 ι x) (o8 ι y)))):=by cases x<;>simp_all [o8,binOp]
 have e2:binOp .neq t (o8 ι x) (o8 ι y)=(do pure (.bool (!(← Op.equal t (o8 ι x) (o8 ι y))))):=by cases x<;>simp_all [o8,binOp]
 rw [e1,e2];simp [h]
theorem Ls {t e:TypeId}(hu:P.underlying t=some (.pointer e)){sz:Nat}(hs:aK P e=some sz){x y:j3}{r:Bool}(he:KU x y=some r)(d:Nat)(w:World):
  (Op.equalIn (d+1) t (o8 ι x) (o8 ι y)).run P w=.ok r w:=by
 cases x<;>cases y<;>simp only [KU,J6,reduceCtorEq] at he
 case ptr.ptr a b c d'=>obtain⟨h1,he⟩:=D7 he;obtain⟨h2,he⟩:=D7 he;cases he;obtain rfl:=J4 h1;obtain rfl:=J4 h2;simp only [Op.equalIn,Y1,run_underlying hu,o8,J8,run_sizeOf hs];split<;>simp [sameAddr]
 all_goals (subst he;simp [Op.equalIn,run_underlying hu,o8])
theorem FP {t e:TypeId}(hu:P.underlying t=some (.slice e)){x y:j3}{r:Bool}(he:yA x y=some r)(d:Nat)(w:World):
  (Op.equalIn (d+1) t (o8 ι x) (o8 ι y)).run P w=.ok r w:=by
 cases x<;>cases y<;>simp only [yA,J6,reduceCtorEq] at he<;>subst he<;>simp [Op.equalIn,run_underlying hu,o8]
theorem Lu {t k e:TypeId}(hu:P.underlying t=some (.map k e)){x y:j3}{r:Bool}(he:KV x y=some r)(d:Nat)(w:World):
  (Op.equalIn (d+1) t (o8 ι x) (o8 ι y)).run P w=.ok r w:=by
 cases x<;>cases y<;>simp only [KV,J6,reduceCtorEq] at he<;>subst he<;>simp [Op.equalIn,run_underlying hu,o8]
theorem Jr {t:TypeId}{a b:Array TypeId}{c:Bool}(hu:P.underlying t=some (.func a b c)){x y:j3}{r:Bool}(he:CY x y=some r)(d:Nat)(w:World):
  (Op.equalIn (d+1) t (o8 ι x) (o8 ι y)).run P w=.ok r w:=by
 cases x<;>cases y<;>simp only [CY,J6,reduceCtorEq] at he<;>subst he<;>simp [Op.equalIn,run_underlying hu,o8]
theorem FQ {t:TypeId}{ms:Array (String×TypeId)}(hu:P.underlying t=some (.interface ms)){x y:j3}{r:Bool}(he:fZ x y=some r)(d:Nat)(w:World):
  (Op.equalIn (d+1) t (o8 ι x) (o8 ι y)).run P w=.ok r w:=by
 cases x<;>cases y<;>simp only [fZ,J6,reduceCtorEq] at he<;>subst he<;>simp [Op.equalIn,run_underlying hu,o8]
theorem Js {c:Bool}{t:TypeId}{k:zM}(hk:Rn P c t=some k){x y:j3}{r:Bool}(he:lY k x y=some r)(d:Nat)(hd:10<=d+1)(w:World):
  (Op.equalIn (d+1) t (o8 ι x) (o8 ι y)).run P w=.ok r w:=by
 simp only [Rn] at hk;cases hu:P.underlying t with
 | none=>simp [hu] at hk
 | some u=>
  rw [hu] at hk;cases u<;>try (simp at hk;done)
  simp only [J6] at hk;subst hk;exact yG hu he d w;simp only [J6] at hk;subst hk;exact uy hu he d w;simp only [J6] at hk;subst hk;exact Bd hu he d w;rename_i e;simp only at hk;cases hs:aK P e with
  | none=>rw [hs] at hk;cases hk
  | some sz=>rw [hs] at hk;cases hk;exact Ls hu hs he d w
  simp only [J6] at hk;subst hk;exact FP hu he d w;simp only [J6] at hk;subst hk;exact Lu hu he d w;rename_i fs;simp only at hk;cases hf:eY P 10 t with
  | none=>simp [hf] at hk
  | some ks=>simp only [hf] at hk;split at hk;cases hk;obtain⟨l,rfl,h1⟩:=dW he;obtain⟨m,rfl,h2⟩:=dW h1;obtain⟨agg,ha,hsz,h3,h4⟩:=Gz (P:=P) (ι:=ι) 10 t ks hf;rw [pE hu] at ha;cases ha;have:=h4 (d+1) hd l m r h2 w;simpa [mkV,o8] using this;cases hk
  simp only [J6] at hk;subst hk;exact Jr hu he d w;simp only at hk;split at hk;cases hk;exact FQ hu he d w;cases hk
theorem Bf {c:Bool}{t:TypeId}{k:zM}(hk:Rn P c t=some k){x y:j3}{r:Bool}(he:lY k x y=some r)(w:World):
  (Op.equal t (o8 ι x) (o8 ι y)).run P w=.ok r w:=Js hk he 9999 (by omega) w
theorem Ux {c:Bool}{t:TypeId}{k:zM}(hk:Rn P c t=some k)(hki:k≠.prim .i)(hks:k≠.prim .s){x y:j3}{r:Bool}(he:lY k x y=some r)(w:World):
  (binOp .eql t (o8 ι x) (o8 ι y)).run P w=.ok (.bool r) w∧(binOp .neq t (o8 ι x) (o8 ι y)).run P w=.ok (.bool (!r)) w:=by
 refine Uw ?_ (λw=>Bf hk he w) w;cases k<;>first
  | (rename_i p;cases p<;>first
    | exact absurd rfl hki
    | exact absurd rfl hks
    | (obtain⟨a,b,rfl,rfl,rfl⟩:=gU he;simp))
  | (obtain⟨l,rfl,_⟩:=dW he;simp)
  | (cases x<;>cases y<;>simp [lY,KU,yA,KV,CY,fZ] at he ⊢)
def pF (d:Nat)(e:TypeId)(X Y:Array Value):List Nat->Sem Bool
 | []=>pure true
 | i::l=>do
  if !(← Op.equalIn d e (← part e X (i*1)) (← part e Y (i*1))) then return false
  pF d e X Y l
theorem Ow (d:Nat)(e:TypeId)(X Y:Array Value)(l:List Nat):
  (do
   let s ← forIn l ((none,()):Option Bool×Unit) λi _=>do
       let a ← part e X (i*1)
       let b ← part e Y (i*1)
       let r ← Op.equalIn d e a b
       if (!r)=true then pure (ForInStep.done (some false,())) else pure (ForInStep.yield (none,()))
   match s.fst with
   | some r=>pure r
   | none=>pure true:Sem Bool)=pF d e X Y l:=by
 induction l with
 | nil=>simp [pF]
 | cons f l ih=>rw [aiv];simp only [pF];rw [← ih];simp only [bind_assoc];congr 1;funext a;congr 1;funext b;congr 1;funext r;cases r<;>simp
theorem FT {t e:TypeId}{k:Nat}(h:P.underlying t=some (.array k e))(hs:aK P e=some 1)(X Y:Array Value)(d:Nat)(w:World):
  (Op.equalIn (d+1) t (.agg X) (.agg Y)).run P w=(pF d e X Y (List.range k)).run P w:=by
 simp only [Op.equalIn,Y1,run_underlying h,J8,run_sizeOf hs];rw [Std.Legacy.Range.forIn_eq_forIn_range'];rw [← Ow,aiu];simp;congr 1;funext a w';obtain⟨o,u⟩:=a;cases o<;>rfl
theorem Ru {e:TypeId}{kk:IntKind}(hu:P.underlying e=some (.int kk))(hs:aK P e=some 1)(a b:List j3)(d:Nat)(w:World):∀(j off:Nat) (r:Bool),
  bH (List.replicate j .i) (a.drop off) (b.drop off)=some r->(pF (d+1) e (y7 ι a).toArray (y7 ι b).toArray (List.range' off j)).run P w=.ok r w:=by
 intro j;induction j with
 | zero=>intro off r h;rw [List.replicate_zero,kM] at h;cases h;simp [pF]
 | succ j ih=>
  intro off r h;rw [List.replicate_succ] at h;obtain⟨x,xs,y,ys,s,h1,h2,h3,h4⟩:=jw h;have la:off<a.length:=by have:=congrArg List.length h1;simp at this;omega
  have lb:off<b.length:=by have:=congrArg List.length h2;simp at this;omega
  have ha:=uw (P:=P) (ι:=ι) (Dy hu) hs a off (λ_=>⟨la,rfl⟩) w;have hb:=uw (P:=P) (ι:=ι) (Dy hu) hs b off (λ_=>⟨lb,rfl⟩) w;rw [h1] at ha;rw [h2] at hb;have ha:(part e (y7 ι a).toArray off).run P w=.ok (o8 ι x) w:=ha;have hb:(part e (y7 ι b).toArray off).run P w=.ok (o8 ι y) w:=hb;have he:=uy (ι:=ι) hu h3 d w;rw [List.range'_succ];simp only [pF,ai9,Y1,ha,hb,he,J8];cases s with
  | false=>have h4:some false=some r:=h4;cases h4;simp
  | true=>
   have h4:bH (List.replicate j .i) xs ys=some r:=h4;simp only [ail,J9,if_false];refine ih (off+1) r ?_;have e1:a.drop (off+1)=xs:=by rw [← Z6,h1];rfl
   have e2:b.drop (off+1)=ys:=by rw [← Z6,h2];rfl
   rw [e1,e2];exact h4
theorem zZ {t:TypeId}{k:zM}(h:Xy P t=some k):∃n e kk,P.underlying t=some (.array n e)∧P.underlying e=some (.int kk)∧aK P e=some 1∧P.eqGuardType P.depth t=false∧k=.flat (List.replicate n .i):=by unfold Xy at h;split at h;rename_i n e hu;split at h;rename_i kk he;split at h;rename_i hc;cases h;exact⟨n,e,kk,hu,he,hc.1,hc.2,rfl⟩;cases h;cases h;cases h
theorem xB {c:Bool}{t:TypeId}{k:zM}(h:Uq P c t=some k):Rn P c t=some k∨Xy P t=some k:=by unfold Uq at h;split at h;rename_i k' hk;cases h;exact .inl hk;exact .inr h
theorem Rv {c:Bool}{t:TypeId}{k:zM}(hk:Uq P c t=some k)(hki:k≠.prim .i)(hks:k≠.prim .s){x y:j3}{r:Bool}(he:lY k x y=some r)(w:World):
  (binOp .eql t (o8 ι x) (o8 ι y)).run P w=.ok (.bool r) w∧(binOp .neq t (o8 ι x) (o8 ι y)).run P w=.ok (.bool (!r)) w:=by
 rcases xB hk with hk | hk;exact Ux hk hki hks he w;obtain⟨n,e,kk,hu,hue,hs,_,rfl⟩:=zZ hk;obtain⟨l,rfl,h1⟩:=dW he;obtain⟨m,rfl,h2⟩:=dW h1;refine Uw (by simp) (λw=>?_) w;have:Op.equal t (o8 ι (.agg l)) (o8 ι (.agg m))=Op.equalIn (9999+1) t (.agg (y7 ι l).toArray) (.agg (y7 ι m).toArray):=by simp [o8,Op.equal,Op.maxDepth]
 rw [this,FT hu hs,aiu];exact Ru hue hs l m 9998 w n 0 r (by simpa using h2)
end
section
variable {P:Program}{G:Mem}{ι:K4}{n:Nm}{slots:List Nat}{done:List (Option Nat)}{ls:List j3}{env:T j3}{a:Act}
def Gives (P:Program)(ρ:Operand->Value)(op:Op)(v:Value):Prop:=
 ∀(o:Oper),o.op=op->∀w,(execOp ρ o).run P w=.ok (.value v) w
theorem mh {op:BinOp}(h1:op≠.eql)(h2:op≠.neq){t:TypeId}{x y:Operand}{u v:Value}{w:World}:(eqGuard op t x y u v).run P w=.ok () w:=by unfold eqGuard;cases op<;>first | exact absurd rfl h1 | exact absurd rfl h2 | simp
theorem Lv {op:BinOp}{t:TypeId}{x y:Operand}{u v:Array Value}{w:World}(h:P.eqGuardType P.depth t=false):(eqGuard op t x y (.agg u) (.agg v)).run P w=.ok () w:=by unfold eqGuard;cases op<;>simp [h]
theorem qE {op:BinOp}{t:TypeId}{x y:Operand}{yt:TypeId}{ρ:Operand->Value}{v:Value}
  (hg:∀w,(eqGuard op t x y (ρ x) (ρ y)).run P w=.ok () w) (h:∀w,(binOp op t (ρ x) (ρ y)).run P w=.ok v w):Gives P ρ (.binOp op t x y yt) v:=by
 intro o ho w;simp [execOp,ho,hg,h]
theorem bind_eq {α β:Type}{o:Option α}{f:α->Option β}{b:β}(h:(o >>= f)=some b):∃a,o=some a∧f a=some b:=by
 cases o with
 | none=>cases h
 | some a=>exact⟨a,rfl,h⟩
theorem Uy (p:Nat×Nat×OF)(ps:List (Nat×Nat×OF))(ls:List j3)(env:T j3)(cs:List j3):
  lay (p::ps) ls env cs=bi (Nat.beq (len' (p.2.2 ls env).cells) p.2.1) (bi (Nat.ble (Nat.add p.1 p.2.1) (len' cs)) (lay ps ls env (lI p.1 (p.2.2 ls env).cells cs)) none) none:=rfl
theorem Aa (vs:List Value):∀(A:Array Value) (off i:Nat),off+i+vs.length<=A.size->
  ((vs.zipIdx i).foldl (λcs (p:Value×Nat)=>cs.setIfInBounds (off+p.2) p.1) A).toList=A.toList.take (off+i)++(vs++A.toList.drop (off+i+vs.length)):=by
 induction vs with
 | nil=>intro A off i h;simp
 | cons v vs ih=>
  intro A off i h;simp only [List.zipIdx_cons,afS,abW] at h ⊢;rw [ih _ _ _ (by simp;omega)];simp only [Array.toList_setIfInBounds];have hlt:off+i<A.toList.length:=by simp;omega
  rw [List.take_set,show off+(i+1)=off+i+1 from by omega];rw [List.drop_set_of_lt (by omega)];rw [ad7 hlt,List.set_append_right _ _ (by simp;omega)];simp [show min (off+i) A.size=off+i from by simp at hlt;omega];congr 1;omega
theorem Ab (s:St P ι n slots done ls env a.tmps)(place:Nat->Option (Nat×Nat)):∀(parts:List (Nat×Operand)) (ps:List (Nat×Nat×P6)),
  tZ P slots done place parts=some ps->∀(cs r:List j3),aS n cs->lay (zU ps) ls env cs=some r->
   Instr.fill place (y7 ι cs).toArray (parts.map λp=>(p.1,a.eval p.2))=some (y7 ι r).toArray∧aS n r∧r.length=cs.length:=by
 intro parts;induction parts with
 | nil=>intro ps h cs r hcs hr;simp only [tZ,J6] at h;subst h;cases hr;exact⟨rfl,hcs,rfl⟩
 | cons p parts ih=>
  intro ps h cs r hcs hr;simp only [tZ] at h;split at h;rename_i off size x rest hp hx hrest;cases h;simp only [zU,Uy] at hr;obtain⟨h1,hr⟩:=D7 hr;obtain⟨h2,hr⟩:=D7 hr;obtain⟨e1,e2⟩:=A8 s hx;simp only [I9] at h1 h2;have h1':=J4 h1;have h2':off+size<=cs.length:=Y2 h2;have hlen:off+((F9 x ls env).cells).length<=cs.length:=by omega
  have hov:=yD off ((F9 x ls env).cells) cs hlen;obtain⟨g1,g2,g3⟩:=ih rest hrest _ r (by
   rw [bT] at hcs ⊢;intro v hv;rw [lQ off _ cs (by omega)] at hv;simp only [aaF] at hv;rcases hv with hv | hv | hv;exact hcs v (afx hv);exact bT.1 (uh e2) v hv;exact hcs v (aa0 hv)) hr
  refine⟨?_,g2,by rw [g3,hov]⟩;simp only [aaZ,Instr.fill,hp];rw [e1,kK];simp only [afr,V6];rw [if_neg (by simp [h1'];omega)];rw [← g1];congr 1;have hf:=Aa (y7 ι (F9 x ls env).cells) (y7 ι cs).toArray off 0 (by simp;omega);apply aiP.1;rw [← Array.foldl_toList];simp only [Array.toList_zipIdx];refine hf.trans ?_;simp only [bf,lQ off _ cs (show off<=cs.length by omega),ae1,aj2,aj0,ac1,aay];cases h
theorem FU:∀(fs:List Field) (pl:List (Nat×Nat)),placesOf P fs=some pl->∀w,
  ((fs.mapM λf=>do pure (f.offset,← sizeOf f.type):Sem (List (Nat×Nat)))).run P w=.ok pl w:=by
 intro fs;induction fs with
 | nil=>intro pl h w;simp only [placesOf,J6] at h;subst h;simp
 | cons f fs ih=>intro pl h w;simp only [placesOf] at h;split at h;rename_i s r h1 h2;cases h;have ih':=ih r h2 w;simp only [bind_pure_comp] at ih';simp [ajd,run_sizeOf h1,ih'];cases h
theorem Lx (s:St P ι n slots done ls env a.tmps){t:TypeId}{parts:Array (Nat×Operand)}{o:yw}(h:xq P slots done t parts.toList=some o):
  ∃zero ps,o=.p (.build zero ps)∧∀v,nk (.build zero ps) ls env=some v->v.lt n∧Gives P a.eval (.build t parts) (o8 ι v):=by
 simp only [xq] at h;have harr:(parts.map λp=>(p.1,a.eval p.2)).toList=parts.toList.map λp=>(p.1,a.eval p.2):=by simp
 split at h;rename_i zero fields hz hu;split at h;rename_i pl hpl;split at h;rename_i ps hps;cases h;refine⟨zero,ps,rfl,λv hv=>?_⟩;obtain⟨r,h1,h2⟩:=C8 hv;cases h2;obtain⟨z,hz1,hz2,hz3⟩:=cO (P:=P) (w:=default) hz ι;obtain⟨g1,g2,_⟩:=Ab s _ parts.toList ps hps zero r (hz3 n) h1;refine⟨g2,λo ho w=>?_⟩;obtain⟨z,hz1,hz2,hz3⟩:=cO (P:=P) (w:=w) hz ι;simp only [execOp,ho,Instr.build,Y1,hz1,J8,run_underlying hu,hz2];have hm:=FU (P:=P) fields.toList pl hpl w;have hmm:(fields.mapM λf=>do pure (f.offset,← sizeOf f.type):Sem (Array (Nat×Nat)))=Functor.map List.toArray (fields.toList.mapM λf=>do pure (f.offset,← sizeOf f.type):Sem (List (Nat×Nat))):=by rw [← List.mapM_toArray]
 rw [hmm];simp only [Sem.run_map,hm,J8,harr];have hfun:(λx:Nat=>pl.toArray[x]?)=λi:Nat=>pl[i]?:=by funext i;simp
 rw [hfun,g1];simp [o8];cases h;cases h;rename_i zero k elem hz hu;split at h;rename_i sz hsz;split at h;rename_i ps hps;cases h;refine⟨zero,ps,rfl,λv hv=>?_⟩;obtain⟨r,h1,h2⟩:=C8 hv;cases h2;obtain⟨z,hz1,hz2,hz3⟩:=cO (P:=P) (w:=default) hz ι;obtain⟨g1,g2,_⟩:=Ab s _ parts.toList ps hps zero r (hz3 n) h1;refine⟨g2,λo ho w=>?_⟩;obtain⟨z,hz1,hz2,hz3⟩:=cO (P:=P) (w:=w) hz ι;simp only [execOp,ho,Instr.build,Y1,hz1,J8,run_underlying hu,hz2,run_sizeOf hsz,harr];rw [g1];simp [o8];cases h;cases h;cases h
end
section
variable {P:Program}{G:Mem}{ι:K4}{n:Nm}{slots:List Nat}{done:List (Option Nat)}{ls:List j3}{env:T j3}{a:Act}
theorem uz {α:Type}(p q:Nat)(x y:α):bi (Nat.beq p q) x y=if p=q then x else y:=by by_cases h:p=q;subst h;rw [ac0,if_pos rfl];rfl;rw [show Nat.beq p q=false from ac3.2 λe=>h (J4 e),if_neg h];rfl
theorem O8 {l:List j3}{v:j3}(h:aS n l)(hv:v∈l):v.lt n:=bT.1 h v hv
def yH (sz:Option Nat)(l:List j3)(o:Nat):Option j3:=match sz with
 | none=>l[o]?
 | some k=>ob (takeN k (l.drop o)) λr=>some (.agg r)
theorem DF {t:TypeId}{sz:Option Nat}(ht:partT P t=some sz){l:List j3}(hl:aS n l)(o:Nat){v:j3}
  (hv:yH sz l o=some v):
  v.lt n∧∀w,(part t (y7 ι l).toArray o).run P w=.ok (o8 ι v) w:=by
 rcases Dw ht with⟨rfl,ha,k,hk⟩ | ⟨k,rfl,ha,hk⟩;simp only [yH] at hv;refine⟨O8 hl (Y5 hv),λw=>?_⟩;simp [part,qC ha,aJ,hv];simp only [yH] at hv;obtain⟨r,h1,h2⟩:=C8 hv;cases h2;obtain⟨rfl,_⟩:=kJ _ _ _ h1;refine⟨bT.2 λv hv=>O8 hl (aa0 (afx hv)),λw=>?_⟩;simp [part,qC ha,run_sizeOf hk,o8,bf,aj2,aj0]
theorem GA (s:St P ι n slots done ls env a.tmps){x:Option Operand}{o:Option P6}(h:cOpt P slots done x=some o):
  (x=none∧o=none)∨∃y z,x=some y∧o=some z∧a.eval y=o8 ι (F9 z ls env):=by
 cases x with
 | none=>simp only [cOpt,J6] at h;exact .inl ⟨rfl,h.symm⟩
 | some y=>
  simp only [cOpt] at h;cases hy:N9 P slots done y with
  | none=>simp [hy] at h
  | some z=>simp only [hy,J6] at h;exact .inr ⟨y,z,rfl,h.symm,(A8 s hy).1⟩
theorem rG (s:St P ι n slots done ls env a.tmps){lo hi:Option Operand}{lo' hi':Option P6}(hlo:cOpt P slots done lo=some lo')(hhi:cOpt P slots done hi=some hi')
  {β:Type} {k:Nat->Nat->Option β} {d:Nat} {r:β} (h:eX (kG lo') 0 ls env (λl=>eX (kG hi') d ls env λh=>k l h)=some r):
  ∃l h,k l h=some r∧(hi=none->h=d)∧(lo=none->l=0)∧
   (∀(isSlice:Bool) (len cap:Nat) (w:World),len=d->l<=h->h<=cap->(Instr.sliceBounds isSlice len cap (lo.map a.eval) (hi.map a.eval) none).run P w=.ok (l,h,cap) w):=by
 rcases GA s hlo with⟨rfl,rfl⟩ | ⟨y,z,rfl,rfl,hy⟩<;>rcases GA s hhi with⟨rfl,rfl⟩ | ⟨y',z',rfl,rfl,hy'⟩
 exact⟨0,d,h,λ_=>rfl,λ_=>rfl,λis len cap w he _ _=>by subst he;simp [Instr.sliceBounds]⟩;obtain⟨i,m,h1,h2⟩:=eZ h;refine⟨0,m,h2,(by simp),(by simp),λis len cap w he h1' h2'=>?_⟩;have h1:F9 z' ls env=.int i (m:Int):=h1;simp only [ac2,afC,hy',h1,o8,Instr.sliceBounds,Instr.sliceBound,asIntOf];cases is<;>simp [h2']
 obtain⟨i,m,h1,h2⟩:=eZ h;refine⟨m,d,h2,(by simp),(by simp),λis len cap w he h1' h2'=>?_⟩;have h1:F9 z ls env=.int i (m:Int):=h1;subst he;simp only [ac2,afC,hy,h1,o8,Instr.sliceBounds,Instr.sliceBound,asIntOf];simp [h1'];obtain⟨i,m,h1,h2⟩:=eZ h;obtain⟨i',m',h3,h4⟩:=eZ h2;refine⟨m,m',h4,(by simp),(by simp),λis len cap w he h1' h2'=>?_⟩;have h1:F9 z ls env=.int i (m:Int):=h1;have h3:F9 z' ls env=.int i' (m':Int):=h3;simp only [ac2,hy,h1,hy',h3,o8,Instr.sliceBounds,Instr.sliceBound,asIntOf];cases is<;>simp [h1',h2']
theorem wM {t e:TypeId}{es:Nat}(hu:P.underlying t=some (.slice e))(hs:aK P e=some es)(ad:Addr)(len cap:Nat)(k:IntKind)(i:Nat)(hi:i<len)(w:World):
  (Instr.indexAt t (.slice (some ad) len cap) (.int k (i:Int))).run P w=.ok (.pointer (some (ad.add (i*es)))) w:=by
 simp [Instr.indexAt,asIntOf,run_underlying hu,run_sizeOf hs,hi]
theorem FV {t e:TypeId}{es len:Nat}(hu:P.underlying t=some (.array len e))(hs:aK P e=some es)(ad:Addr)(k:IntKind)(i:Nat)(hi:i<len)(w:World):
  (Instr.indexAt t (.pointer (some ad)) (.int k (i:Int))).run P w=.ok (.pointer (some (ad.add (i*es)))) w:=by
 simp [Instr.indexAt,asIntOf,run_underlying hu,run_sizeOf hs,hi,Instr.sureAddr]
theorem LA (mx:Bool):∀(ys:List j3) (x v:j3),aS n ys->x.lt n->KY mx ys x=some v->v.lt n∧
  ∀w,((y7 ι ys).foldlM (if mx then Builtin.max2 else Builtin.min2) (o8 ι x)).run P w=.ok (o8 ι v) w:=by
 intro ys;induction ys with
 | nil=>intro x v _ hx h;cases h;exact⟨hx,λw=>by simp [y7]⟩
 | cons y ys ih=>
  intro x v hys hx h;have h:ob (mm2 mx x y) (λz=>KY mx ys z)=some v:=h;obtain⟨z,h1,h2⟩:=C8 h;simp only [mm2] at h1;obtain⟨k,p,e1,h1⟩:=jJ h1;obtain⟨k',q,e2,h1⟩:=jJ h1;cases h1;obtain⟨g1,g2⟩:=ih _ v hys.2 (by simp [j3.lt]) h2;refine⟨g1,λw=>?_⟩;subst e1;subst e2;simp only [y7,List.foldlM_cons,Y1,o8];have:((if mx=true then Builtin.max2 else Builtin.min2) (.int k p) (.int k' q)).run P w=.ok (.int k (bi mx (bi (jF p q) q p) (bi (jF q p) q p))) w:=by cases mx;simp only [J9,if_false,Builtin.min2,aat,S9,fG];by_cases hlt:q<p;simp [hlt];simp [hlt];simp only [if_true,Builtin.max2,aat,P7,fG];by_cases hlt:p<q;simp [hlt];simp [hlt]
  rw [this];exact g2 w
end
section
variable {P:Program}{G:Mem}{ι:K4}{n:Nm}{slots:List Nat}{done:List (Option Nat)}{ls:List j3}{env:T j3}{a:Act}
theorem aO {x y:TH}(h:(pure (yw.p x):Option yw)=some (.p y)):x=y:=by cases h;rfl
theorem Rw {f:FuncId}{fn:Func}(hf:P.funcs[f]?=some fn)(hb:fn.body.isNone=true)(hn:fn.name= "internal/abi.NoEscape")(hx:(Extern.findNext fn).isNone=true)(v:Value)(w:World):
  (callFunc f #[v]).run P w=.ok (.value v) w:=by
 have g1:Extern.allGenericRows.lookup "internal/abi.NoEscape"=none:=by kernel_rfl
 have g2:Extern.allTypedRows.lookup "internal/abi.NoEscape"=none:=by kernel_rfl
 have g3:Extern.allRows.lookup "internal/abi.NoEscape"=some Extern.AbiNoEscape.same:=by kernel_rfl
 have he:Extern.find fn=some Extern.AbiNoEscape.same:=by unfold Extern.find;simp only [hn,g1,g2,g3];rfl
 rw [run_callFunc_extern hf (by rw [hn];decide) hb (by simpa using hx) he];rfl
set_option maxHeartbeats 1000000 in
theorem rH (s:St P ι n slots done ls env a.tmps){op:Op}{po:TH}(h:fO P slots done op=some (.p po)){v:j3}(hv:nk po ls env=some v):
  v.lt n∧Gives P a.eval op (o8 ι v):=by
 cases op with
 | move x=>obtain⟨x',hx,h⟩:=bind_eq h;obtain rfl:=aO h;cases hv;obtain⟨e1,e2⟩:=A8 s hx;exact⟨e2,λo ho w=>by simp [execOp,ho,e1]⟩
 | assign x=>obtain⟨x',hx,h⟩:=bind_eq h;obtain rfl:=aO h;cases hv;obtain⟨e1,e2⟩:=A8 s hx;exact⟨e2,λo ho w=>by simp [execOp,ho,e1]⟩
 | pick c x y=>
  obtain⟨c',hc,h⟩:=bind_eq h;obtain⟨x',hx,h⟩:=bind_eq h;obtain⟨y',hy,h⟩:=bind_eq h;obtain rfl:=aO h;obtain⟨b,h1,h2⟩:=qD hv;have h1:F9 c' ls env=.bool b:=h1;obtain⟨e1,_⟩:=A8 s hc;obtain⟨e2,e2'⟩:=A8 s hx;obtain⟨e3,e3'⟩:=A8 s hy;rw [h1] at e1;cases b with
  | true=>cases h2;exact⟨e2',λo ho w=>by simp [execOp,ho,e1,e2,o8,asBool]⟩
  | false=>cases h2;exact⟨e3',λo ho w=>by simp [execOp,ho,e1,e3,o8,asBool]⟩
 | build t parts=>obtain⟨zero,ps,e,hb⟩:=Lx s (show xq P slots done t parts.toList=some (.p po) from h);cases e;exact hb v hv
 | nilCheck x=>
  obtain⟨x',hx,h⟩:=bind_eq h;obtain rfl:=aO h;obtain⟨e1,e2⟩:=A8 s hx;have hv:zR (F9 x' ls env)=some v:=hv;generalize F9 x' ls env=u at *;have:v=u∧∀o:Oper,o.op=.nilCheck x->∀w,(execOp a.eval o).run P w=.ok (.value (o8 ι u)) w:=by
   cases u<;>simp only [zR,J6,reduceCtorEq] at hv<;>try (refine⟨hv.symm,λo ho w=>?_⟩;simp [execOp,ho,e1,o8];done)
   rename_i fn p q;cases fn<;>simp only [J6,reduceCtorEq] at hv
   refine⟨hv.symm,λo ho w=>?_⟩;simp [execOp,ho,e1,o8,je]
  obtain⟨rfl,h2⟩:=this;exact⟨e2,h2⟩
 | binOp op t x y yt=>
  simp only [fO] at h;by_cases h1:op=.eql∨op=.neq
  ·have hh:∃k x' y',Uq P (wK x||wK y) t=some k∧N9 P slots done x=some x'∧N9 P slots done y=some y'∧
     ((k=.prim .i∨k=.prim .s)∧po=.ib op x' y'∨(k≠.prim .i∧k≠.prim .s)∧po=.eq (decide (op=.neq)) k x' y'):=by
    rcases h1 with rfl | rfl <;>
    ·simp only at h;obtain⟨k,hk,h⟩:=bind_eq h;cases k with
     | prim p=>
      cases p <;>
      ·simp only at h;obtain⟨x',hx,h⟩:=bind_eq h;obtain⟨y',hy,h⟩:=bind_eq h;have:=aO h;exact⟨_,x',y',hk,hx,hy,by simp [this]⟩
     | _=>simp only at h;obtain⟨x',hx,h⟩:=bind_eq h;obtain⟨y',hy,h⟩:=bind_eq h;have:=aO h;exact⟨_,x',y',hk,hx,hy,by simp [this]⟩
   obtain⟨k,x',y',hk,hx,hy,hh⟩:=hh;obtain⟨e1,_⟩:=A8 s hx;obtain⟨e2,_⟩:=A8 s hy;rcases hh with⟨_,rfl⟩ | ⟨⟨hk1,hk2⟩,rfl⟩;have hs1:op≠.shl:=by rcases h1 with rfl | rfl<;>simp
   have hs2:op≠.shr:=by rcases h1 with rfl | rfl<;>simp
   have hv:BP (IY op) (IZ op) (F9 x' ls env) (F9 y' ls env)=some v:=by rcases h1 with rfl | rfl<;>exact hv
   refine⟨(rF (P:=P) (ι:=ι) hs1 hs2 hv t default).2,qE (λw=>?_) (λw=>by rw [e1,e2];exact (rF (n:=n) hs1 hs2 hv t w).1)⟩;rw [e1,e2];rcases Rs hv with⟨k,p,hf⟩ | ⟨p,hf⟩<;>rw [hf]<;>exact rD (by simp [o8]) (by simp [o8])
   ·have hv:∃r,lY k (F9 x' ls env) (F9 y' ls env)=some r∧v=.bool (if op=.neq then !r else r):=by
     rcases h1 with rfl | rfl <;>
     ·obtain⟨r,h1,h2⟩:=C8 hv;cases h2;exact⟨r,h1,rfl⟩
    obtain⟨r,hr,rfl⟩:=hv;refine⟨by simp [j3.lt],qE (λw=>?_) (λw=>?_)⟩
    ·rw [e1,e2];cases k with
     | prim p=>
      cases p with
      | b=>obtain⟨p,q,h3,h4,_⟩:=gU hr;rw [h3,h4];exact rD (by simp [o8]) (by simp [o8])
      | i=>exact absurd rfl hk1
      | s=>exact absurd rfl hk2
     | flat ks=>
      obtain⟨l,h3,h4⟩:=dW hr;obtain⟨m,h5,h6⟩:=dW h4;rw [h3,h5];refine Lv ?_;rcases (xB hk).symm with hk | hk;obtain⟨_,_,_,_,_,_,h7,_⟩:=zZ hk;exact h7;simp only [Rn] at hk;split at hk<;>first | (simp at hk;done) | (split at hk<;>simp at hk;done) | skip
      split at hk;split at hk;assumption;cases hk;cases hk
     | iface=>
      have hc:wK x=true∨wK y=true:=by
       rcases (xB hk).symm with hk | hk;obtain⟨_,_,_,_,_,_,_,h7⟩:=zZ hk;cases h7;simp only [Rn] at hk;split at hk<;>first | (simp at hk;done) | (split at hk<;>simp at hk;done) | (split at hk<;>first | (split at hk<;>simp at hk;done) | (simp at hk;done)) | skip
       split at hk;rename_i hc;simpa using hc;simp at hk
      exact rD (λp q=>by cases hx:F9 x' ls env<;>simp_all [lY,fZ,o8]) (hc.elim (λh=>.inr (.inr (.inl h))) (λh=>.inr (.inr (.inr h))))
     | _=>refine rD (λp q=>?_) (.inl ?_)<;>cases hx:F9 x' ls env<;>simp_all [lY,KU,yA,KV,CY,o8]
    rw [e1,e2];have:=Rv hk hk1 hk2 (ι:=ι) hr w;rcases h1 with rfl | rfl;simpa [o8] using this.1;simpa [o8] using this.2
  ·have hne:op≠.eql∧op≠.neq:=⟨λe=>h1 (.inl e),λe=>h1 (.inr e)⟩;have hh:∃x' y',N9 P slots done x=some x'∧N9 P slots done y=some y'∧po=.ib op x' y':=by
    cases op<;>first
     | exact absurd rfl hne.1
     | exact absurd rfl hne.2
     | (simp only at h
        obtain⟨x',hx,h⟩:=bind_eq h;obtain⟨y',hy,h⟩:=bind_eq h;exact⟨x',y',hx,hy,(aO h).symm⟩)
   obtain⟨x',y',hx,hy,rfl⟩:=hh;obtain⟨e1,_⟩:=A8 s hx;obtain⟨e2,_⟩:=A8 s hy;by_cases hs1:op=.shl;subst hs1;refine⟨(Gx (P:=P) (ι:=ι) hv t default).2,qE (λw=>mh (by simp) (by simp)) (λw=>by rw [e1,e2];exact (Gx (n:=n) hv t w).1)⟩;by_cases hs2:op=.shr;subst hs2;refine⟨(Gy (P:=P) (ι:=ι) hv t default).2,qE (λw=>mh (by simp) (by simp)) (λw=>by rw [e1,e2];exact (Gy (n:=n) hv t w).1)⟩;have hv:BP (IY op) (IZ op) (F9 x' ls env) (F9 y' ls env)=some v:=by cases op<;>first | exact absurd rfl hs1 | exact absurd rfl hs2 | exact hv
   exact⟨(rF (P:=P) (ι:=ι) hs1 hs2 hv t default).2,qE (λw=>mh hne.1 hne.2) (λw=>by rw [e1,e2];exact (rF (n:=n) hs1 hs2 hv t w).1)⟩
 | unOp op t x=>
  have hh:∃x',N9 P slots done x=some x'∧(op=.not∧po=.not x'∨op=.neg∧po=.neg x'∨op=.xor∧po=.inv x'):=by
   simp only [fO] at h;cases op<;>simp only at h<;>first
    | (cases h;done)
    | (obtain⟨x',hx,h⟩:=bind_eq h
       exact⟨x',hx,by simp [aO h]⟩)
  obtain⟨x',hx,hh⟩:=hh;obtain⟨e1,_⟩:=A8 s hx;rcases hh with⟨rfl,rfl⟩ | ⟨rfl,rfl⟩ | ⟨rfl,rfl⟩;obtain⟨b,h1,h2⟩:=qD hv;have h1:F9 x' ls env=.bool b:=h1;cases h2;exact⟨by simp [j3.lt],λo ho w=>by simp [execOp,ho,e1,h1,o8,Op.unary]⟩;obtain⟨k,m,h1,h2⟩:=jJ hv;have h1:F9 x' ls env=.int k m:=h1;cases h2;exact⟨by simp [j3.lt],λo ho w=>by simp [execOp,ho,e1,h1,o8,Op.unary,Op.intArith,uq]⟩;obtain⟨k,m,h1,h2⟩:=jJ hv;have h1:F9 x' ls env=.int k m:=h1;cases h2;exact⟨by simp [j3.lt,yx],λo ho w=>by cases hk:k.signed<;>simp [execOp,ho,e1,h1,o8,Op.unary,Op.intBits,yx,hk]⟩
 | convert src dst x=>
  simp only [fO] at h;obtain⟨us,hus,h⟩:=bind_eq h;obtain⟨ud,hud,h⟩:=bind_eq h;have hh:∃x',N9 P slots done x=some x'∧∃j k,us=.int j∧ud=.int k∧po=.conv k x':=by split at h;obtain⟨x',hx,h⟩:=bind_eq h;exact⟨x',hx,_,_,rfl,rfl,(aO h).symm⟩;obtain⟨ue,_,h⟩:=bind_eq h;split at h;obtain⟨x',hx,h⟩:=bind_eq h;cases h;cases h;obtain⟨ue,_,h⟩:=bind_eq h;split at h;obtain⟨x',hx,h⟩:=bind_eq h;cases h;cases h;obtain⟨_,_,h⟩:=bind_eq h;split at h;cases h;obtain⟨_,_,h⟩:=bind_eq h;cases h;obtain⟨_,_,h⟩:=bind_eq h;split at h;cases h;obtain⟨_,_,h⟩:=bind_eq h;cases h;cases h
  obtain⟨x',hx,j,k,rfl,rfl,rfl⟩:=hh;obtain⟨e1,e2⟩:=A8 s hx;obtain⟨k',m,h1,h2⟩:=jJ hv;have h1:F9 x' ls env=.int k' m:=h1;cases h2;exact⟨by simp [j3.lt],λo ho w=>by simp [execOp,ho,convert,run_underlying hus,run_underlying hud,e1,h1,o8,Conv.intToInt,uq]⟩
 | makeInterface t x=>
  simp only [fO] at h;obtain⟨u,hu,h⟩:=bind_eq h;have hh:∃x',N9 P slots done x=some x'∧po=.mkIface t x'∧∀ms,u≠.interface ms:=by split at h;cases h;rename_i hne;obtain⟨x',hx,h⟩:=bind_eq h;exact⟨x',hx,(aO h).symm,λms e=>hne ms e⟩
  obtain⟨x',hx,rfl,hne⟩:=hh;obtain⟨e1,e2⟩:=A8 s hx;cases hv;refine⟨by simpa [j3.lt] using e2,λo ho w=>?_⟩;simp only [execOp,ho,Instr.makeInterface,Y1,run_underlying hu,J8,e1];cases u<;>first | exact absurd rfl (hne _) | simp [o8]
 | typeAssert x xt t ok=>
  simp only [fO] at h;obtain⟨u,hu,h⟩:=bind_eq h;have hh:∃z x',zeroV P t=some z∧N9 P slots done x=some x'∧po=.assert t z ok x'∧∀ms,u≠.interface ms:=by split at h;cases h;rename_i hne;obtain⟨z,hz,h⟩:=bind_eq h;obtain⟨x',hx,h⟩:=bind_eq h;exact⟨z,x',hz,hx,(aO h).symm,λms e=>hne ms e⟩
  obtain⟨z,x',hz,hx,rfl,hne⟩:=hh;obtain⟨e1,e2⟩:=A8 s hx;have hv1:PX t z ok (F9 x' ls env)=some v:=hv;clear hv;generalize F9 x' ls env=y at *;cases y with
  | nilIface=>
   cases ok with
   | false=>cases hv1
   | true=>have hv1:some (j3.tuple [z,.bool false])=some v:=hv1;cases hv1;refine⟨⟨(nC (w:=default) hz ι).2 n,trivial,trivial⟩,λo ho w=>?_⟩;have hz1:=(nC (w:=w) hz ι).1;simp only [execOp,ho,Instr.typeAssert,Y1,run_underlying hu,J8,e1,o8];cases u<;>first | exact absurd rfl (hne _) | simp [hz1,y7,o8]
  | iface t' y=>
   have hv1:bi (Nat.beq t' t) (some (bi ok (.tuple [y,.bool true]) y)) (bi ok (some (.tuple [z,.bool false])) none)=some v:=hv1;cases hb:Nat.beq t' t with
   | true=>
    have he:=J4 hb;rw [hb] at hv1;have hv1:some (bi ok (.tuple [y,.bool true]) y)=some v:=hv1;cases ok with
    | false=>have hv1:some y=some v:=hv1;cases hv1;refine⟨e2,λo ho w=>?_⟩;simp only [execOp,ho,Instr.typeAssert,Y1,run_underlying hu,J8,e1,o8];cases u<;>first | exact absurd rfl (hne _) | simp [he]
    | true=>have hv1:some (j3.tuple [y,.bool true])=some v:=hv1;cases hv1;refine⟨⟨e2,trivial,trivial⟩,λo ho w=>?_⟩;simp only [execOp,ho,Instr.typeAssert,Y1,run_underlying hu,J8,e1,o8];cases u<;>first | exact absurd rfl (hne _) | simp [he,y7,o8]
   | false=>
    have he:t'≠t:=Nat.ne_of_beq_eq_false hb;rw [hb] at hv1;cases ok with
    | false=>cases hv1
    | true=>have hv1:some (j3.tuple [z,.bool false])=some v:=hv1;cases hv1;refine⟨⟨(nC (w:=default) hz ι).2 n,trivial,trivial⟩,λo ho w=>?_⟩;have hz1:=(nC (w:=w) hz ι).1;simp only [execOp,ho,Instr.typeAssert,Y1,run_underlying hu,J8,e1,o8];cases u<;>first | exact absurd rfl (hne _) | simp [hz1,he,y7,o8]
  | _=>cases hv1
 | makeFunc fn f c=>
  simp only [fO] at h;have hh:∃g f' c',fn=.func g∧jr P slots done f.toList=some f'∧jr P slots done c.toList=some c'∧po=.mkFunc (.func g) f' c':=by split at h;obtain⟨f',hf,h⟩:=bind_eq h;obtain⟨c',hc,h⟩:=bind_eq h;exact⟨_,f',c',rfl,hf,hc,(aO h).symm⟩;cases h
  obtain⟨g,f',c',rfl,hf,hc,rfl⟩:=hh;cases hv;obtain⟨e1,e2⟩:=kL s hf;obtain⟨e3,e4⟩:=kL s hc;refine⟨⟨trivial,e2,e4⟩,λo ho w=>?_⟩;have q1:f.map a.eval=(y7 ι (evs (fD f') ls env)).toArray:=by apply aiP.1;rw [aiN];exact e1
  have q2:c.map a.eval=(y7 ι (evs (fD c') ls env)).toArray:=by apply aiP.1;rw [aiN];exact e3
  simp [execOp,ho,Instr.makeFunc,q1,q2,o8,je]
 | slice t x lo hi mx=>
  simp only [fO] at h;cases mx with
  | some _=>simp at h
  | none=>
  simp only at h;obtain⟨u,hu,h⟩:=bind_eq h;split at h;obtain⟨x',hx,h⟩:=bind_eq h;obtain⟨lo',hlo,h⟩:=bind_eq h;obtain⟨hi',hhi,h⟩:=bind_eq h;obtain rfl:=aO h;obtain⟨e1,e2⟩:=A8 s hx;obtain⟨str,h1,h2⟩:=iq hv;have h1:F9 x' ls env=.str str:=h1;obtain⟨l,h,h3,_,_,h4⟩:=rG s hlo hhi h2;obtain⟨g1,h3⟩:=D7 h3;obtain⟨g2,h3⟩:=D7 h3;obtain⟨r,h5,h6⟩:=C8 h3;cases h6;have g1:=Y2 g1;have g2:=Y2 g2;simp only [I9,gN] at *;obtain⟨rfl,_⟩:=kJ _ _ _ h5;refine⟨by simp [j3.lt],λo ho w=>?_⟩;simp only [execOp,ho,Instr.sliceAt,Y1,run_underlying hu,J8,Instr.slice,e1,h1,o8];simp only [afC,Option.isSome_none,J9,if_false,Y1,nQ,aat,J8];rw [h4 false str.length str.length w rfl g1 g2];simp only [J8,aat];congr 3;apply ByteArray.ext;simp [ByteArray.data_extract,afR];obtain⟨es,_,h⟩:=bind_eq h;obtain⟨x',hx,h⟩:=bind_eq h;obtain⟨lo',hlo,h⟩:=bind_eq h;obtain⟨hi',hhi,h⟩:=bind_eq h;cases h;rename_i n' e';obtain⟨es,hes,h⟩:=bind_eq h;obtain⟨x',hx,h⟩:=bind_eq h;obtain⟨lo',hlo,h⟩:=bind_eq h;obtain⟨hi',hhi,h⟩:=bind_eq h;obtain rfl:=aO h;obtain⟨e1,e2⟩:=A8 s hx;obtain⟨i,o,h1,h2⟩:=dV hv;have h1:F9 x' ls env=.ptr i o:=h1;rw [h1] at e1 e2;obtain⟨l,h,h3,_,_,h4⟩:=rG s hlo hhi h2;obtain⟨g1,h3⟩:=D7 h3;obtain⟨g2,h3⟩:=D7 h3;cases h3;have g1:=Y2 g1;have g2:=Y2 g2;refine⟨e2,λop ho w=>?_⟩;simp only [execOp,ho,Instr.sliceAt,Y1,run_underlying hu,J8,e1,o8,Instr.sureAddr,aat,afC];rw [h4 false _ _ w rfl g1 g2];simp only [J8,Y1,run_sizeOf hes,aat];rw [uz,K4.nP];by_cases hl:n'=l;rw [if_pos hl,if_pos hl.symm];rfl;rw [if_neg hl,if_neg (λe=>hl e.symm)];rfl;cases h
 | fieldAddr t x f=>
  simp only [fO] at h;obtain⟨u,hu,h⟩:=bind_eq h;have hh:∃fs fd x' sz,u=.struct fs∧fs[f]?=some fd∧aK P fd.type=some sz∧sz≠0∧N9 P slots done x=some x'∧po=.fAddr fd.offset x':=by split at h;obtain⟨fd,hf,h⟩:=bind_eq h;obtain⟨sz,hsz,h⟩:=bind_eq h;split at h;cases h;obtain⟨x',hx,h⟩:=bind_eq h;exact⟨_,fd,x',sz,rfl,hf,hsz,by assumption,hx,(aO h).symm⟩;cases h
  obtain⟨fs,fd,x',sz,rfl,hf,hsz,hne,hx,rfl⟩:=hh;obtain⟨e1,e2⟩:=A8 s hx;obtain⟨i,o,h1,h2⟩:=dV hv;have h1:F9 x' ls env=.ptr i o:=h1;cases h2;rw [h1] at e1 e2;refine⟨e2,λop ho w=>?_⟩;simp only [execOp,ho,Instr.fieldAt,Y1,run_underlying hu,J8,hf,e1,o8,Instr.sureAddr,aat,fieldPlace,run_sizeOf hsz,if_neg hne,K4.nP];rfl
 | field t x f=>
  simp only [fO] at h;obtain⟨u,hu,h⟩:=bind_eq h;have hh:∃fs fd x' sz,u=.struct fs∧fs[f]?=some fd∧partT P fd.type=some sz∧N9 P slots done x=some x'∧po=.fld fd.offset sz x':=by split at h;obtain⟨fd,hf,h⟩:=bind_eq h;obtain⟨sz,hsz,h⟩:=bind_eq h;obtain⟨x',hx,h⟩:=bind_eq h;exact⟨_,fd,x',sz,rfl,hf,hsz,hx,(aO h).symm⟩;cases h
  obtain⟨fs,fd,x',sz,rfl,hf,hsz,hx,rfl⟩:=hh;obtain⟨e1,e2⟩:=A8 s hx;have hv':∃l,F9 x' ls env=.agg l∧yH sz l fd.offset=some v:=by
   cases sz with
   | none=>obtain⟨l,h1,h2⟩:=dW hv;exact⟨l,h1,by simpa [yH] using h2⟩
   | some k=>obtain⟨l,h1,h2⟩:=dW hv;exact⟨l,h1,by simpa [yH] using h2⟩
  obtain⟨l,h1,h2⟩:=hv';rw [h1] at e1 e2;obtain⟨g1,g2⟩:=DF (ι:=ι) hsz (show aS n l from e2) fd.offset h2;refine⟨g1,λop ho w=>?_⟩;simp [execOp,ho,Instr.field,run_underlying hu,hf,e1,o8,asAgg,g2]
 | indexAddr t x i=>simp only [fO] at h;obtain⟨u,hu,h⟩:=bind_eq h;split at h;obtain⟨es,hes,h⟩:=bind_eq h;obtain⟨x',hx,h⟩:=bind_eq h;obtain⟨i',hi,h⟩:=bind_eq h;obtain rfl:=aO h;obtain⟨e1,e2⟩:=A8 s hx;obtain⟨e3,_⟩:=A8 s hi;rcases rA hv with⟨_,h2⟩ | ⟨id,off,len,cap,h1,h2⟩ | ⟨id,off,len,es',h1,h2⟩;cases h2;obtain⟨k,m,h3,hlt,h4⟩:=idx_eq h2;cases h4;have h1:F9 x' ls env=.slice id off len cap:=h1;have h3:F9 i' ls env=.int k (m:Int):=h3;rw [h1] at e1 e2;refine⟨e2,λop ho w=>?_⟩;simp only [execOp,ho,Y1,e1,e3,h3,o8,wM hu hes _ _ _ _ _ hlt,K4.nP,J8,aat];rfl;obtain⟨k,m,h3,hlt,h4⟩:=idx_eq h2;cases h4;have h1:F9 x' ls env=.sliceU id off len es':=h1;have h3:F9 i' ls env=.int k (m:Int):=h3;rw [h1] at e1 e2;refine⟨e2.1,λop ho w=>?_⟩;simp only [execOp,ho,Y1,e1,e3,h3,o8,wM hu hes _ _ _ _ _ hlt,K4.nP,J8,aat];rfl;obtain⟨es,hes,h⟩:=bind_eq h;obtain⟨x',hx,h⟩:=bind_eq h;obtain⟨i',hi,h⟩:=bind_eq h;obtain rfl:=aO h;obtain⟨e1,e2⟩:=A8 s hx;obtain⟨e3,_⟩:=A8 s hi;obtain⟨id,off,h1,h2⟩:=dV hv;obtain⟨k,m,h3,hlt,h4⟩:=idx_eq h2;cases h4;have h1:F9 x' ls env=.ptr id off:=h1;have h3:F9 i' ls env=.int k (m:Int):=h3;rw [h1] at e1 e2;refine⟨e2,λop ho w=>?_⟩;simp only [execOp,ho,Y1,e1,e3,h3,o8,FV hu hes _ _ _ hlt,K4.nP,J8,aat];rfl;cases h
 | index t x i=>
  simp only [fO] at h;obtain⟨u,hu,h⟩:=bind_eq h;split at h;obtain⟨x',hx,h⟩:=bind_eq h;obtain⟨i',hi,h⟩:=bind_eq h;obtain rfl:=aO h;obtain⟨e1,e2⟩:=A8 s hx;obtain⟨e3,_⟩:=A8 s hi;obtain⟨str,h1,h2⟩:=iq hv;obtain⟨k,m,h3,h4⟩:=eZ h2;obtain⟨b,h5,h6⟩:=C8 h4;cases h6;have h1:F9 x' ls env=.str str:=h1;have h3:F9 i' ls env=.int k (m:Int):=h3;rw [iY] at h5;refine⟨by simp [j3.lt],λop ho w=>?_⟩;obtain⟨hlt,hb⟩:=J5.1 h5;have hidx:(⟨str.toArray⟩:ByteArray)[m]?=some b:=by rw [ByteArray.getElem?_lt' _ _ (by rw [nQ];exact hlt)];congr 1
  simp only [execOp,ho,Instr.index,Y1,run_underlying hu,e1,h1,e3,h3,o8,asIntOf,aat,J8];rw [if_pos (Int.natCast_nonneg m),aiI,hidx];rfl;rename_i len elem;obtain⟨es,hes,h⟩:=bind_eq h;obtain⟨sz,hsz,h⟩:=bind_eq h;obtain⟨x',hx,h⟩:=bind_eq h;obtain⟨i',hi,h⟩:=bind_eq h;obtain rfl:=aO h;obtain⟨e1,e2⟩:=A8 s hx;obtain⟨e3,_⟩:=A8 s hi;have hv':∃l k,∃m:Nat,F9 x' ls env=.agg l∧F9 i' ls env=.int k (m:Int)∧m<len∧yH sz l (m*es)=some v:=by
   cases sz with
   | none=>obtain⟨l,h1,h2⟩:=dW hv;obtain⟨k,m,h3,hlt,h4⟩:=idx_eq h2;exact⟨l,k,m,h1,h3,hlt,by simpa [yH] using h4⟩
   | some k=>obtain⟨l,h1,h2⟩:=dW hv;obtain⟨k',m,h3,hlt,h4⟩:=idx_eq h2;exact⟨l,k',m,h1,h3,hlt,by simpa [yH] using h4⟩
  obtain⟨l,k,m,h1,h3,hlt,h2⟩:=hv';rw [h1] at e1 e2;obtain⟨g1,g2⟩:=DF (ι:=ι) hsz (show aS n l from e2) (m*es) h2;refine⟨g1,λop ho w=>?_⟩;simp [execOp,ho,Instr.index,run_underlying hu,run_sizeOf hes,e1,e3,h3,o8,asIntOf,hlt,g2];cases h
 | extract x i=>simp only [fO] at h;obtain⟨x',hx,h⟩:=bind_eq h;obtain rfl:=aO h;obtain⟨e1,e2⟩:=A8 s hx;obtain⟨l,h1,h2⟩:=XC hv;have h1:F9 x' ls env=.tuple l:=h1;rw [iY] at h2;rw [h1] at e1 e2;refine⟨O8 (show aS n l from e2) (Y5 h2),λop ho w=>?_⟩;simp [execOp,ho,Instr.extract,e1,o8,aJ,h2]
 | call c=>
  obtain⟨callee,args,ts⟩:=c;simp only [fO] at h;cases callee with
  | invoke _ _=>cases h
  | value f=>
   cases f with
   | func f=>
    obtain⟨fn,hfn,h⟩:=bind_eq h;split at h;obtain⟨os,_,h⟩:=bind_eq h;cases h;split at h;rename_i hcnd;obtain⟨args⟩:=args;simp only [U9,beq_iff_eq] at hcnd;match args,h with
    | [x],h=>obtain⟨x',hx,h⟩:=bind_eq h;obtain rfl:=aO h;cases hv;obtain⟨e1,e2⟩:=A8 s hx;refine⟨e2,λo ho w=>?_⟩;have:=Rw hfn hcnd.1.1 hcnd.1.2 hcnd.2 (o8 ι (F9 x' ls env)) w;have hf:a.eval (.func f)=.func (.func f) #[] #[]:=rfl;simp [execOp,ho,resolve,invoke,hf,Deferred.ofValue,this,e1]
    | [],h=>cases h
    | _ :: _ :: _,h=>cases h
    cases h
   | _=>obtain⟨x',_,h⟩:=bind_eq h;obtain⟨os,_,h⟩:=bind_eq h;cases h
  | builtin b=>
   obtain⟨args⟩:=args;obtain⟨ts⟩:=ts;simp only [uf] at h;split at h
   ·
    rename_i t x;obtain⟨u,hu,h⟩:=bind_eq h;have hh:∃x',(N9 P slots done x=some x'∧u=.string∧po=.lenS x')∨(N9 P slots done x=some x'∧(∃e,u=.slice e)∧po=.len x')∨∃k e,u=.array k e∧po=.mov (.con (.int .i64 k)):=by split at h;obtain⟨x',hx,h⟩:=bind_eq h;exact⟨x',.inl ⟨hx,rfl,(aO h).symm⟩⟩;obtain⟨x',hx,h⟩:=bind_eq h;exact⟨x',.inr (.inl ⟨hx,⟨_,rfl⟩,(aO h).symm⟩)⟩;exact⟨default,.inr (.inr ⟨_,_,rfl,(aO h).symm⟩)⟩;obtain⟨x',hx,h⟩:=bind_eq h;cases h;cases h
    obtain⟨x',⟨hx,rfl,rfl⟩ | ⟨hx,⟨e,rfl⟩,rfl⟩ | ⟨k,e,rfl,rfl⟩⟩:=hh;obtain⟨e1,_⟩:=A8 s hx;obtain⟨str,h1,h2⟩:=iq hv;have h1:F9 x' ls env=.str str:=h1;cases h2;exact⟨by simp [j3.lt],λo ho w=>by simp [execOp,ho,resolve,invoke,builtin,Builtin.len_,run_underlying hu,e1,h1,o8,goInt,nQ]⟩;obtain⟨e1,_⟩:=A8 s hx;rcases rA hv with⟨h1,h2⟩ | ⟨id,off,len,cap,h1,h2⟩ | ⟨id,off,len,cap,h1,h2⟩;have h1:F9 x' ls env=.nilSlice:=h1;cases h2;exact⟨by simp [j3.lt],λo ho w=>by simp [execOp,ho,resolve,invoke,builtin,Builtin.len_,run_underlying hu,e1,h1,o8,goInt]⟩;have h1:F9 x' ls env=.slice id off len cap:=h1;cases h2;exact⟨by simp [j3.lt],λo ho w=>by simp [execOp,ho,resolve,invoke,builtin,Builtin.len_,run_underlying hu,e1,h1,o8,goInt]⟩;have h1:F9 x' ls env=.sliceU id off len cap:=h1;cases h2;exact⟨by simp [j3.lt],λo ho w=>by simp [execOp,ho,resolve,invoke,builtin,Builtin.len_,run_underlying hu,e1,h1,o8,goInt]⟩;cases hv;refine⟨by simp [F9,D8,j3.lt],λo ho w=>?_⟩;simp [execOp,ho,resolve,invoke,builtin,Builtin.len_,run_underlying hu,F9,D8,o8,goInt]
   ·
    rename_i t x;obtain⟨u,hu,h⟩:=bind_eq h;split at h;obtain⟨x',hx,h⟩:=bind_eq h;obtain rfl:=aO h;obtain⟨e1,_⟩:=A8 s hx;rcases rA hv with⟨h1,h2⟩ | ⟨id,off,len,cap,h1,h2⟩ | ⟨_,_,_,_,_,h2⟩;have h1:F9 x' ls env=.nilSlice:=h1;cases h2;exact⟨by simp [j3.lt],λo ho w=>by simp [execOp,ho,resolve,invoke,builtin,Builtin.cap_,run_underlying hu,e1,h1,o8,goInt]⟩;have h1:F9 x' ls env=.slice id off len cap:=h1;cases h2;exact⟨by simp [j3.lt],λo ho w=>by simp [execOp,ho,resolve,invoke,builtin,Builtin.cap_,run_underlying hu,e1,h1,o8,goInt]⟩;cases h2;cases h
   ·obtain⟨u,hu,h⟩:=bind_eq h;split at h
    ·obtain⟨_,_,h⟩:=bind_eq h;split at h;all_goals (repeat' (first | (cases h;done) | (obtain⟨_,_,h⟩:=bind_eq h)))
    cases h
   obtain⟨u,hu,h⟩:=bind_eq h;split at h;obtain⟨_,_,h⟩:=bind_eq h;obtain⟨_,_,h⟩:=bind_eq h;obtain⟨_,_,h⟩:=bind_eq h;cases h;cases h;obtain⟨u,hu,h⟩:=bind_eq h;split at h;obtain⟨_,_,h⟩:=bind_eq h;obtain⟨_,_,h⟩:=bind_eq h;cases h;cases h
   ·
    rename_i x xs;obtain⟨x',hx,h⟩:=bind_eq h;obtain⟨xs',hxs,h⟩:=bind_eq h;obtain rfl:=aO h;obtain⟨e1,e2⟩:=A8 s hx;obtain⟨e3,e4⟩:=kL s hxs;obtain⟨g1,g2⟩:=LA (P:=P) (ι:=ι) true _ _ v e4 e2 hv;refine⟨g1,λo ho w=>?_⟩;have:=g2 w;simp only [if_true] at this;simp [execOp,ho,resolve,invoke,builtin,Builtin.max_,e1,e3,this]
   rename_i x xs;obtain⟨x',hx,h⟩:=bind_eq h;obtain⟨xs',hxs,h⟩:=bind_eq h;obtain rfl:=aO h;obtain⟨e1,e2⟩:=A8 s hx;obtain⟨e3,e4⟩:=kL s hxs;obtain⟨g1,g2⟩:=LA (P:=P) (ι:=ι) false _ _ v e4 e2 hv;refine⟨g1,λo ho w=>?_⟩;have:=g2 w;simp only [J9,if_false] at this;simp [execOp,ho,resolve,invoke,builtin,Builtin.min_,e1,e3,this];cases h;obtain⟨u,hu,h⟩:=bind_eq h;split at h;obtain⟨x',hx,h⟩:=bind_eq h;cases h;cases h
   ·obtain⟨u,hu,h⟩:=bind_eq h;repeat' (first | (cases h;done) | (obtain⟨_,_,h⟩:=bind_eq h) | split at h)
   cases h
 | alloc t=>simp only [fO] at h;split at h;all_goals (obtain⟨_,_,h⟩:=bind_eq h;cases h)
 | box t x=>simp only [fO] at h;split at h;obtain⟨_,_,h⟩:=bind_eq h;obtain⟨_,_,h⟩:=bind_eq h;cases h;obtain⟨_,_,h⟩:=bind_eq h;cases h
 | buildSlice t len parts=>simp only [fO] at h;obtain⟨_,_,h⟩:=bind_eq h;split at h;obtain⟨_,_,h⟩:=bind_eq h;obtain⟨_,_,h⟩:=bind_eq h;split at h;obtain⟨_,_,h⟩:=bind_eq h;cases h;cases h;cases h
 | insert t m k x=>simp only [fO] at h;obtain⟨_,_,h⟩:=bind_eq h;split at h;obtain⟨_,_,h⟩:=bind_eq h;obtain⟨_,_,h⟩:=bind_eq h;obtain⟨_,_,h⟩:=bind_eq h;obtain⟨_,_,h⟩:=bind_eq h;cases h;cases h
 | mapUpdate t m k x=>simp only [fO] at h;obtain⟨_,_,h⟩:=bind_eq h;split at h;obtain⟨_,_,h⟩:=bind_eq h;obtain⟨_,_,h⟩:=bind_eq h;obtain⟨_,_,h⟩:=bind_eq h;obtain⟨_,_,h⟩:=bind_eq h;cases h;cases h
 | load t x=>simp only [fO] at h;obtain⟨_,_,h⟩:=bind_eq h;obtain⟨_,_,h⟩:=bind_eq h;cases h
 | store t x y=>simp only [fO] at h;obtain⟨_,_,h⟩:=bind_eq h;obtain⟨_,_,h⟩:=bind_eq h;obtain⟨_,_,h⟩:=bind_eq h;cases h
 | makeMap t r=>simp only [fO] at h;repeat' (first | (cases h;done) | split at h)
 | makeSlice t l c=>simp only [fO] at h;obtain⟨_,_,h⟩:=bind_eq h;split at h;obtain⟨_,_,h⟩:=bind_eq h;obtain⟨_,_,h⟩:=bind_eq h;obtain⟨_,_,h⟩:=bind_eq h;obtain⟨_,_,h⟩:=bind_eq h;obtain⟨_,_,h⟩:=bind_eq h;cases h;cases h
 | lookup t x k ok=>simp only [fO] at h;obtain⟨_,_,h⟩:=bind_eq h;split at h;obtain⟨_,_,h⟩:=bind_eq h;obtain⟨_,_,h⟩:=bind_eq h;obtain⟨_,_,h⟩:=bind_eq h;obtain⟨_,_,h⟩:=bind_eq h;cases h;cases h
 | range t x=>simp only [fO] at h;obtain⟨_,_,h⟩:=bind_eq h;split at h;obtain⟨_,_,h⟩:=bind_eq h;cases h;obtain⟨_,_,h⟩:=bind_eq h;cases h;cases h
 | next it is=>cases is;simp only [fO] at h;obtain⟨_,_,h⟩:=bind_eq h;cases h;simp only [fO] at h;obtain⟨_,_,h⟩:=bind_eq h;cases h
 | entry it=>simp only [fO] at h;obtain⟨_,_,h⟩:=bind_eq h;cases h
 | panic x=>simp only [fO] at h;obtain⟨_,_,h⟩:=bind_eq h;cases h
 | defer c=>simp only [fO] at h;split at h;obtain⟨_,_,h⟩:=bind_eq h;obtain⟨_,_,h⟩:=bind_eq h;cases h;cases h
 | _=>simp only [fO] at h;cases h
end
end
end Go.AM
