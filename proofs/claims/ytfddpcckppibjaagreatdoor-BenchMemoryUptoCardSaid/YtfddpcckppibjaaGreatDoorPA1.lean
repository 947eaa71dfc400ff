/- A part of an evaluator for the model, proved sound: what it answers holds of the model; it speaks of every program, no condition. -/
import GoSem.Core.Code
import GoSem.Core.Program
import GoSem.Core.View
import GoSem.Core.World
import GoSem.Core.Utf8
import GoSem.Core.Region
import GoSem.Core.Layout
import GoSem.Op.Equal
import GoSem.Extern.Table
import Derived.CallsIn
import Derived.Laws.Sem
import GoSem.Dispatch
import Derived.Laws.Strings
import Derived.KernelRfl
import Derived.Laws.Externs
set_option linter.all false
namespace Go.AM
open Go
abbrev aA:=@List.mem_singleton
abbrev aP:=@Nat.le_trans
abbrev gq:=@Nat.lt_of_lt_of_le
abbrev gI:=@Nat.eq_of_beq_eq_true
abbrev q8:=@Bool.and_eq_true
abbrev q9:=@List.getElem?_eq_getElem
abbrev Hl:=@List.getElem?_eq_some_iff
abbrev J2:=@Nat.le_refl
abbrev J3:=@Option.some.injEq
abbrev J4:=@Result.andThen_ok
abbrev K9:=@Array.getElem?_eq_some_iff
abbrev Q5:=@Array.getD_eq_getD_getElem?
abbrev U9:=@List.drop_zero
abbrev W9:=@List.take_of_length_le
abbrev Xb:=@Sem.run_bind
abbrev Xd:=@Nat.le_of_ble_eq_true
abbrev Xl:=@List.mem_of_getElem?
abbrev X8:=@Nat.blt_eq
abbrev Y1:=@List.length_cons
abbrev Y2:=@Array.getElem?_setIfInBounds_ne
abbrev Y3:=@Nat.ble_eq_true_of_le
abbrev Y4:=@Option.some.inj
abbrev Y5:=@Array.getElem?_setIfInBounds_self_of_lt
abbrev Y6:=@Nat.add_zero
abbrev Y7:=@List.getD_eq_getElem?_getD
abbrev Y8:=@List.drop_eq_getElem_cons
abbrev Z4:=@List.mem_cons
abbrev Z5:=@List.mem_cons_of_mem
abbrev Z6:=@List.map_cons
abbrev Z7:=@Sem.run_pure
abbrev Z8:=@List.length_append
abbrev Z9:=@List.getElem?_append_left
abbrev aac:=@Nat.mul_le_mul_right
abbrev aad:=@Nat.zero_add
abbrev aae:=@List.mem_append
abbrev aaf:=@Array.getElem?_eq_getElem
abbrev aag:=@Array.toArray_toList
abbrev aah:=@Nat.beq_refl
abbrev aai:=@List.getElem?_of_mem
abbrev aaj:=@List.getElem?_map
abbrev aat:=@List.getElem?_append_right
abbrev aaY:=@Nat.mod_two_eq_zero_or_one
abbrev aa1:=@List.take_succ_eq_append_getElem
abbrev aa2:=@List.length_eq_zero_iff
abbrev aa3:=@List.getElem_mem
abbrev aa4:=@List.all_eq_true
abbrev aa9:=@Bool.false_eq_true
abbrev abe:=@Option.map_some
abbrev abg:=@Option.bind_eq_some_iff
abbrev abh:=@Option.map_eq_some_iff
abbrev abK:=@List.map_append
abbrev ab1:=@Bool.eq_false_iff
abbrev ach:=@List.getElem?_cons_succ
abbrev aci:=@Bool.or_eq_true
abbrev acj:=@List.mem_range
abbrev acn:=@Array.getElem?_replicate
abbrev aco:=@Nat.succ_mul
abbrev acp:=@List.length_map
abbrev acr:=@List.mem_cons_self
abbrev acs:=@List.mem_append_left
abbrev acG:=@Nat.add_mul
abbrev acK:=@List.getElem?_inj
abbrev acL:=@List.mem_append_right
abbrev acN:=@List.getElem?_toArray
abbrev acP:=@Array.ext_getElem?
abbrev acX:=@Option.bind_some
abbrev acY:=@List.mem_map
abbrev ac1:=@List.drop_length
abbrev ac2:=@List.length_nil
abbrev adE:=@Nat.zero_mul
abbrev adK:=@Nat.le_of_not_lt
abbrev adV:=@Nat.le_div_iff_mul_le
abbrev adW:=@List.nil_append
abbrev adX:=@Bool.eq_iff_iff
abbrev adY:=@Prod.ext_iff
abbrev adZ:=@List.mem_of_mem_drop
abbrev ad1:=@List.nodup_cons
abbrev ad2:=@List.mem_filter
abbrev ad3:=@Bool.or_eq_false_iff
abbrev ad4:=@Nat.mul_comm
abbrev ad5:=@List.size_toArray
abbrev aea:=@Bool.true_and
abbrev aeb:=@List.drop_of_length_le
abbrev aec:=@Array.getElem?_eq_none
abbrev aed:=@List.getElem?_take
abbrev aee:=@List.getElem?_drop
abbrev aef:=@Nat.lt_or_ge
abbrev aeg:=@List.cons.injEq
abbrev aeh:=@List.getElem?_eq_none
abbrev aen:=@List.sum_cons
abbrev aeo:=@Nat.add_assoc
abbrev ae0:=@List.mem_of_mem_take
abbrev ae1:=@Nat.zero_le
abbrev ae2:=@List.map_map
abbrev ae3:=@List.cons_append
abbrev ae4:=@List.length_pos_iff
abbrev ae5:=@Bool.false_or
abbrev ae6:=@Nat.mul_div_cancel
abbrev ae7:=@Nat.lt_of_lt_of_eq
abbrev ae8:=@List.append_nil
abbrev ae9:=@Option.map_none
abbrev afi:=@List.getElem_cons_zero
abbrev afv:=@List.eq_nil_of_length_eq_zero
abbrev afw:=@List.append_assoc
abbrev afy:=@Nat.lt_trichotomy
abbrev afz:=@Nat.le_of_lt
abbrev agm:=@Bool.and_eq_false_iff
abbrev agn:=@Ne.symm
abbrev agp:=@Nat.mod_eq_of_lt
abbrev agq:=@List.take_length
abbrev agr:=@Calls.mono
abbrev ags:=@List.length_take
abbrev agt:=@Nat.lt_irrefl
abbrev agu:=@List.mem_map_of_mem
abbrev agv:=@List.filter_eq_self
abbrev agw:=@List.getElem?_zip_eq_some
abbrev agx:=@List.extract_eq_take_drop
abbrev agy:=@List.exists_mem_of_ne_nil
abbrev agz:=@Nat.pos_of_ne_zero
abbrev agA:=@List.map_nil
abbrev agB:=@Nat.sub_add_cancel
abbrev agC:=@Int.negSucc_eq
abbrev agD:=@List.getElem?_cons_zero
abbrev agE:=@List.filter_cons_of_neg
abbrev agF:=@List.filter_cons_of_pos
abbrev agG:=@List.length_range
abbrev agI:=@Array.getElem?_push_lt
abbrev agJ:=@List.getElem_cons_succ
abbrev agK:=@List.filter_eq_nil_iff
abbrev agL:=@List.length_eq_one_iff
abbrev agM:=@Array.setIfInBounds_eq_of_size_le
abbrev agN:=@Prod.mk.injEq
abbrev agQ:=@Array.getElem?_modify
abbrev ahO:=@List.forIn_cons
abbrev ahP:=@Nat.ne_of_lt
abbrev ahQ:=@List.range_eq_range'
abbrev ahR:=@Nat.mod_lt
abbrev ahS:=@List.take_succ_cons
abbrev ahT:=@List.map_congr_left
abbrev ahU:=@List.take_zero
abbrev ahV:=@List.drop_drop
abbrev ahW:=@Array.forIn_toList
abbrev ahX:=@Nat.add_sub_cancel
abbrev ahY:=@Bool.not_true
abbrev ahZ:=@Bool.or_assoc
abbrev aia:=@Array.getElem?_append_left
abbrev aib:=@Nat.le_succ_of_le
abbrev aic:=@Int.toNat_natCast
abbrev ai0:=@Array.mapM_eq_mapM_toList
abbrev ai1:=@Nat.sub_zero
abbrev ai2:=@Array.toList_inj
abbrev ai3:=@List.getElem_append_left
abbrev ai4:=@Nat.div_eq_of_lt
abbrev ai5:=@Array.size_setIfInBounds
abbrev ai6:=@List.mem_reverse
abbrev ai7:=@Nat.lt_succ_self
abbrev ai8:=@Nat.pow_succ
abbrev ai9:=@CallsIn.mono
abbrev ajf:=@List.not_mem_nil
abbrev aji:=@Option.isSome_iff_exists
abbrev ajj:=@Array.toList_map
abbrev ajp:=@Nat.add_comm
abbrev ajs:=@Nat.add_sub_cancel_left
abbrev ajJ:=@Nat.div_add_mod
abbrev aj1:=@Nat.div_le_self
abbrev akj:=@Nat.mul_add_mod
abbrev ak5:=@Nat.not_lt_zero
abbrev ak7:=@List.foldl_cons
abbrev ala:=@UInt8.toNat_inj
abbrev alb:=@Nat.le_succ
abbrev ald:=@Nat.mul_one
abbrev alg:=@List.mapM_cons
abbrev alh:=@Nat.mul_le_mul
abbrev aln:=@List.map_take
abbrev alo:=@List.map_drop
abbrev alp:=@List.all_cons
abbrev alq:=@Bool.or_false
end Go.AM
namespace Go.AM
open Go
noncomputable section
inductive T (α:Type) where
 | e:T α
 | nd:T α->α->T α->T α
inductive d9 where
 | undef
 | bool (b:Bool)
 | int (k:IntKind) (n:Int)
 | str (s:List UInt8)
 | nilPtr
 | ptr (id off:Nat)
 | nilSlice
 | slice (id off len cap:Nat)
 | sliceU (id off len es:Nat)
 | nilMap
 | map (id:Nat)
 | nilFunc
 | func (fn:Fn) (first captured:List d9)
 | nilIface
 | iface (t:TypeId) (v:d9)
 | agg (l:List d9)
 | tuple (l:List d9)
 | mq (v:d9)
 deriving Inhabited
def d9.cells:d9->List d9
 | .agg l=>l
 | v=>[v]
inductive O8 where
 | loc (k:Nat)
 | slot (j:Nat)
 | con (v:d9)
 deriving Inhabited
inductive PK where
 | i | b | s
 deriving Inhabited,DecidableEq
inductive Aa where
 | prim (k:PK) | flat (ks:List PK) | ptr | slice | map | func | iface
 deriving Inhabited,DecidableEq
inductive Uz where
 | mov (x:O8)
 | pick (c a b:O8)
 | build (zero:List d9) (parts:List (Nat×Nat×O8))
 | nilCheck (x:O8)
 | ib (op:BinOp) (x y:O8)
 | eq (neg:Bool) (k:Aa) (x y:O8)
 | not (x:O8)
 | neg (x:O8)
 | inv (x:O8)
 | conv (k:IntKind) (x:O8)
 | mkIface (t:TypeId) (x:O8)
 | mkFunc (fn:Fn) (first captured:List O8)
 | slStr (x:O8) (lo hi:Option O8)
 | slArr (es n:Nat) (x:O8) (lo hi:Option O8)
 | fAddr (off:Nat) (x:O8)
 | fld (off:Nat) (size:Option Nat) (x:O8)
 | iAddr (es:Nat) (x i:O8)
 | iAddrArr (es n:Nat) (x i:O8)
 | iArr (es n:Nat) (size:Option Nat) (x i:O8)
 | iStr (x i:O8)
 | ext (x:O8) (i:Nat)
 | len (x:O8)
 | dU (x:O8)
 | cap (x:O8)
 | mm (max:Bool) (x:O8) (xs:List O8)
 | assert (t:TypeId) (zero:d9) (ok:Bool) (x:O8)
 deriving Inhabited
inductive OG where
 | load (size:Option Nat) (a:O8)
 | look (kk:Aa) (zero:d9) (ok:Bool) (m k:O8)
 | lenM (x:O8)
 | bytesStr (x:O8)
 | entry (it:O8)
 | slData (x:O8)
 | toUns (x:O8)
 | fromUns (oks:List (Nat×Nat)) (x:O8)
 deriving Inhabited
inductive Sk where
 | alloc (zero:List d9)
 | box (x:O8)
 | allocT (ty:Nat) (zero:List d9)
 | boxT (ty k:Nat) (x:O8)
 | buildSlice (es len:Nat) (zero:List d9) (parts:List (Nat×Nat×O8))
 | mkMap
 | mkSlice (es bytes:Nat) (zero:List d9) (len cap:O8)
 | strBytes (x:O8)
 | sl (es:Nat) (x:O8) (lo hi:Option O8)
 deriving Inhabited
inductive UA where
 | store (size:Nat) (a x:O8)
 | mapSet (kk:Aa) (m k x:O8)
 | range (x:O8)
 | next (it:O8)
 | app (es:Nat) (zeros:Bool) (zero:List d9) (bytes:Nat) (s x:O8)
 | copy (es:Nat) (d s:O8)
 | clear (zero:List d9) (x:O8)
 | call (f:FuncId) (args:List O8)
 | callv (f:O8) (args:List O8)
 | defer (f:O8) (args:List O8)
 | panic (x:O8)
 | recover
 | bad
 | rangeS (x:O8)
 | nextS (it:O8)
 | appB (ty:Nat) (s x:O8)
 | ustr (ty:Nat) (p n:O8)
 | storeAp (size:Nat) (a x b:O8)
 deriving Inhabited
inductive yI where
 | p (o:Uz)
 | r (o:OG)
 | a (o:Sk)
 | e (o:UA)
 deriving Inhabited
structure Inst where
 op:yI
 dst:Option Nat
 guard:Option (O8×Bool)
 deriving Inhabited
inductive S9 where
 | skip
 | reg (ops:List Inst)
 | dreg (ids:Nat) (ops:List (Nat×Inst))
 | dreg2 (ids:Nat) (ops:List (Nat×Inst)) (tail:List Inst)
 | seq (a b:S9)
 | cond (c:O8) (thn els:S9)
 | block (id:Nat) (body:S9)
 | loop (body:S9)
 | exit (id:Nat)
 | ret
 | rangeFunc (f:O8) (params:List (Option Nat)) (assign body:S9)
 deriving Inhabited
inductive bI where
 | normal
 | exit (id:Nat)
 | ret
 deriving Inhabited,DecidableEq
inductive Mk where
 | c (id:Nat)
 | d (f:d9) (args:List d9)
 deriving Inhabited
inductive pz where
 | tmp (j:Nat)
 | cell (j:Nat) (size:Option Nat)
 deriving Inhabited
structure AFn where
 nargs:Nat
 args:List (Option Nat)
 nslots:Nat
 results:List pz
 body:S9
 deriving Inhabited
def gM:Uz->List O8
 | .mov x=>[x]
 | .pick a b c=>[a,b,c]
 | .build _ ps=>ps.map (·.2.2)
 | .nilCheck x=>[x]
 | .ib _ x y=>[x,y]
 | .eq _ _ x y=>[x,y]
 | .not x=>[x]
 | .neg x=>[x]
 | .inv x=>[x]
 | .conv _ x=>[x]
 | .mkIface _ x=>[x]
 | .mkFunc _ a b=>a++b
 | .slStr x a b=>x::(a.toList++b.toList)
 | .slArr _ _ x a b=>x::(a.toList++b.toList)
 | .fAddr _ x=>[x]
 | .fld _ _ x=>[x]
 | .iAddr _ x i=>[x,i]
 | .iAddrArr _ _ x i=>[x,i]
 | .iArr _ _ _ x i=>[x,i]
 | .iStr x i=>[x,i]
 | .ext x _=>[x]
 | .len x=>[x]
 | .dU x=>[x]
 | .cap x=>[x]
 | .mm _ x xs=>x::xs
 | .assert _ _ _ x=>[x]
def yJ:OG->List O8
 | .load _ a=>[a]
 | .look _ _ _ m x=>[m,x]
 | .lenM x=>[x]
 | .bytesStr x=>[x]
 | .entry x=>[x]
 | .slData x=>[x]
 | .toUns x=>[x]
 | .fromUns _ x=>[x]
def opsL:Sk->List O8
 | .alloc _=>[]
 | .box x=>[x]
 | .allocT _ _=>[]
 | .boxT _ _ x=>[x]
 | .buildSlice _ _ _ ps=>ps.map (·.2.2)
 | .mkMap=>[]
 | .mkSlice _ _ _ l c=>[l,c]
 | .strBytes x=>[x]
 | .sl _ x a b=>x::(a.toList++b.toList)
def opsE:UA->List O8
 | .store _ a x=>[a,x]
 | .mapSet _ a b c=>[a,b,c]
 | .range x=>[x]
 | .next x=>[x]
 | .app _ _ _ _ s x=>[s,x]
 | .copy _ d s=>[d,s]
 | .clear _ x=>[x]
 | .call _ a=>a
 | .callv g a=>g::a
 | .defer g a=>g::a
 | .panic x=>[x]
 | .recover=>[]
 | .bad=>[]
 | .rangeS x=>[x]
 | .nextS x=>[x]
 | .appB _ s x=>[s,x]
 | .ustr _ p n=>[p,n]
 | .storeAp _ a x b=>[a,x,b]
def Dl:yI->List O8
 | .p o=>gM o
 | .r o=>yJ o
 | .a o=>opsL o
 | .e o=>opsE o
variable {α β γ:Type}
def ob (o:Option α)(k:α->Option β):Option β:=Option.rec none (λa=>k a) o
def bi (b:Bool)(x y:α):α:=Bool.rec y x b
def T.get (t:T α):Nat->Option α:=
 T.rec (λ_=>none) (λ_ x _ ihl ihr i=>Nat.rec (some x) (λj _=>Nat.rec (ihl (Nat.div j 2)) (λ_ _=>ihr (Nat.div j 2)) (Nat.mod j 2)) i) t
def T.put (t:T α):Nat->α->T α:=
 T.rec (λ_ x=>.nd .e x .e) (λl y r ihl ihr i x=>Nat.rec (.nd l x r) (λj _=>Nat.rec (.nd (ihl (Nat.div j 2) x) y r) (λ_ _=>.nd l y (ihr (Nat.div j 2) x)) (Nat.mod j 2)) i) t
def T.nX (l:List α):T α->Nat->T α:=
 List.rec (λt _=>t) (λx _ ih t i=>ih (t.put i x) (Nat.succ i)) l
def T.ofList (l:List α):T α:=T.nX l .e 0
def T.slice (t:T α)(n:Nat):Nat->Option (List α):=
 Nat.rec (λ_=>some []) (λ_ ih i=>ob (t.get i) λx=>ob (ih (Nat.succ i)) λxs=>some (x::xs)) n
def T.rep (x:α)(n:Nat):T α->Nat->T α:=
 Nat.rec (λt _=>t) (λ_ ih t i=>ih (t.put i x) (Nat.succ i)) n
def takeN (n:Nat):List α->Option (List α):=
 Nat.rec (λ_=>some []) (λ_ ih l=>List.rec none (λx xs _=>ob (ih xs) λr=>some (x::r)) l) n
def lX (n:Nat):List α->List α:=
 Nat.rec (λl=>l) (λ_ ih l=>List.rec [] (λ_ xs _=>ih xs) l) n
def pE (n:Nat):List α->Option α:=
 Nat.rec (λl=>List.rec none (λx _ _=>some x) l) (λ_ ih l=>List.rec none (λ_ xs _=>ih xs) l) n
def nth (n:Nat):List d9->d9:=
 Nat.rec (λl=>List.rec d9.undef (λx _ _=>x) l) (λ_ ih l=>List.rec d9.undef (λ_ xs _=>ih xs) l) n
def V8 (l m:List α):List α:=List.rec m (λx _ ih=>x::ih) l
def len' (l:List α):Nat:=List.rec 0 (λ_ _ ih=>Nat.succ ih) l
def kU (n:Nat)(vs:List α):List α->List α:=
 Nat.rec (λl=>V8 vs (lX (len' vs) l)) (λ_ ih l=>List.rec [] (λx xs _=>x::ih xs) l) n
def gT (v:d9)(k:Nat->Nat->Option β):Option β:=match v with
 | .ptr i o=>k i o
 | _=>none
def rA (v:d9)(k:IntKind->Int->Option β):Option β:=match v with
 | .int a b=>k a b
 | _=>none
def pK (v:d9)(k:Bool->Option β):Option β:=match v with
 | .bool b=>k b
 | _=>none
def pF (v:d9)(k:List UInt8->Option β):Option β:=match v with
 | .str s=>k s
 | _=>none
def tX (v:d9)(k:List d9->Option β):Option β:=match v with
 | .agg l=>k l
 | _=>none
def KZ (v:d9)(k:List d9->Option β):Option β:=match v with
 | .tuple l=>k l
 | _=>none
def tY (v:d9)(nl:Option β)(k:Nat->Option β):Option β:=match v with
 | .nilMap=>nl
 | .map i=>k i
 | _=>none
def qD (v:d9)(nl:Option β)(k:Nat->Nat->Nat->Nat->Option β)(u:Nat->Nat->Nat->Nat->Option β):Option β:=match v with
 | .nilSlice=>nl
 | .slice a b c d=>k a b c d
 | .sliceU a b c d=>u a b c d
 | _=>none
def La (v:d9)(k:Fn->List d9->List d9->Option β):Option β:=match v with
 | .func f a b=>k f a b
 | _=>none
def Lb (n:Int)(k:Nat->Option β):Option β:=match n with
 | .ofNat m=>k m
 | .negSucc _=>none
def jQ (v:d9)(k:Nat->Option β):Option β:=rA v λ_ n=>Lb n k
inductive O6 where
 | void
 | dead
 | cells (rs n:Nat) (rows:T (List d9))
 | map (es:List (d9×d9))
 | iter (m:Option Nat) (since:Nat) (seen:List Nat)
 | tail (parent:Nat)
 | loop (st:LoopState) (pend:Option bI) (env:T d9) (params:List (Option Nat)) (assign body:S9)
 | deferred
 | siter (s:List UInt8) (pos:Nat)
 | buf (ty:Nat) (s:List UInt8)
 | mapU (es:List (d9×d9))
 deriving Inhabited
structure Mem where
 t:T O6
 nx:Nat
 lim:Nat
def Mem.get (m:Mem)(i:Nat):Option O6:=m.t.get i
def Mem.new (m:Mem)(b:O6):Mem:=⟨m.t.put m.nx b,Nat.succ m.nx,m.lim⟩
def Mem.set (m:Mem)(i:Nat)(b:O6):Mem:=⟨m.t.put i b,m.nx,m.lim⟩
def Q6 (b:Option O6)(k:Nat->Nat->T (List d9)->Option β):Option β:=match b with
 | some (.cells rs n rows)=>k rs n rows
 | _=>none
def Oq (b:Option O6)(k:List (d9×d9)->Option β):Option β:=match b with
 | some (.map es)=>k es
 | _=>none
def Ci (b:Option O6)(k:List (d9×d9)->Option β):Option β:=match b with
 | some (.map es)=>k es
 | some (.mapU es)=>k es
 | _=>none
def UQ (ty:Nat):List d9:=[.mq (.int .u64 (.ofNat ty))]
def Dm (rows:T (List d9)):Option Nat:=ob (rows.get 1) λr=>List.rec none (λv _ _=>match v with
 | .mq (.int .u64 (.ofNat n))=>some n
 | _=>none) r
def cell1 (rs n:Nat)(rows:T (List d9))(off:Nat):Option d9:=
 Bool.rec none (Option.rec none (λrow=>pE (Nat.mod off rs) row) (rows.get (Nat.div off rs))) (Nat.blt (Nat.div off rs) n)
def jR (rs n:Nat)(rows:T (List d9))(off k:Nat):Option (List d9):=
 bi (Nat.blt (Nat.div off rs) n) (ob (rows.get (Nat.div off rs)) λrow=>
  bi (Nat.beq (Nat.mod off rs) 0) (bi (Nat.beq k rs) (some row) (takeN k row)) (takeN k (lX (Nat.mod off rs) row))) none
def Q7 (rs n:Nat)(rows:T (List d9))(k:Nat):Nat->Option (List d9):=
 Nat.rec (λ_=>some []) (λ_ ih off=>ob (cell1 rs n rows off) λv=>ob (ih (Nat.succ off)) λl=>some (v::l)) k
def U1 (rs n:Nat)(rows:T (List d9))(off:Nat)(vs:List d9):Option (T (List d9)):=
 bi (Nat.blt (Nat.div off rs) n) (ob (rows.get (Nat.div off rs)) λrow=>
  bi (Nat.ble (Nat.add (Nat.mod off rs) (len' vs)) rs) (some (rows.put (Nat.div off rs) (kU (Nat.mod off rs) vs row))) none) none
def iB (rs n:Nat)(vs:List d9):T (List d9)->Nat->Option (T (List d9)):=
 List.rec (λrows _=>some rows) (λv _ ih rows off=>ob (U1 rs n rows off [v]) λrows'=>ih rows' (Nat.succ off)) vs
def rowsOf (rs n:Nat):List d9->Option (List (List d9)):=
 Nat.rec (λl=>List.rec (some []) (λ_ _ _=>none) l) (λ_ ih l=>ob (takeN rs l) λr=>ob (ih (lX rs l)) λrest=>some (r::rest)) n
def w9 (v:d9):Bool:=match v with
 | .undef | .agg _ | .tuple _ | .mq _=>false
 | _=>true
def K5 (l:List d9):Bool:=List.rec true (λv _ ih=>bi (w9 v) ih false) l
def storeAt (m:Mem)(id off:Nat)(vs:List d9)(k:Mem->Option β):Option β:=
 bi (Nat.blt id m.lim) none (bi (K5 vs) (Q6 (m.get id) λrs n rows=>ob (U1 rs n rows off vs) λrows'=>k (m.set id (.cells rs n rows'))) none)
def jE (m:Mem)(id off:Nat)(vs:List d9)(k:Mem->Option β):Option β:=
 List.rec (k m) (λ_ _ _=>bi (Nat.blt id m.lim) none (bi (K5 vs) (Q6 (m.get id) λrs n rows=>ob (iB rs n vs rows off) λrows'=>k (m.set id (.cells rs n rows'))) none)) vs
abbrev OF:=List d9->T d9->d9
def aZ (k:Nat):OF:=λls _=>nth k ls
def E9:OF:=λls _=>List.rec d9.undef (λx _ _=>x) ls
def dV:OF:=λls _=>List.rec d9.undef (λ_ l _=>List.rec d9.undef (λx _ _=>x) l) ls
def iy:OF:=λls _=>List.rec d9.undef (λ_ l _=>List.rec d9.undef (λ_ l _=>List.rec d9.undef (λx _ _=>x) l) l) ls
def tV:OF:=λls _=>List.rec d9.undef (λ_ l _=>List.rec d9.undef (λ_ l _=>List.rec d9.undef (λ_ l _=>List.rec d9.undef (λx _ _=>x) l) l) l) ls
def C9 (v:d9):OF:=λ_ _=>v
def gH:T d9->d9:=T.rec .undef (λ_ x _ _ _=>x)
def gL (g:T d9->d9):T d9->d9:=T.rec .undef (λl _ _ _ _=>g l)
def gR (g:T d9->d9):T d9->d9:=T.rec .undef (λ_ _ r _ _=>g r)
def I9 (g:T d9->d9):OF:=λ_ env=>g env
def way:Nat->Nat->T d9->d9
 | 0,_=>λ_=>.undef
 | _+1,0=>gH
 | n+1,j+1=>match j%2 with
  | 0=>gL (way n (j / 2))
  | _=>gR (way n (j / 2))
def G6:O8->OF
 | .loc 0=>E9
 | .loc 1=>dV
 | .loc 2=>iy
 | .loc 3=>tV
 | .loc k=>aZ k
 | .slot j=>I9 (way 64 j)
 | .con v=>C9 v
def fJ:List O8->List OF
 | []=>[]
 | x::l=>G6 x::fJ l
def kX:Option O8->Option OF
 | none=>none
 | some x=>some (G6 x)
def evs (l:List OF)(ls:List d9)(env:T d9):List d9:=List.rec [] (λx _ ih=>x ls env::ih) l
def sH:d9->T d9->T d9:=λv=>T.rec .e (λl _ r _ _=>.nd l v r)
def sL (s:d9->T d9->T d9):d9->T d9->T d9:=λv=>T.rec .e (λl x r _ _=>.nd (s v l) x r)
def sR (s:d9->T d9->T d9):d9->T d9->T d9:=λv=>T.rec .e (λl x r _ _=>.nd l x (s v r))
def tZ:Nat->Nat->d9->T d9->T d9
 | 0,_=>λ_ t=>t
 | _+1,0=>sH
 | n+1,j+1=>match j%2 with
  | 0=>sL (tZ n (j / 2))
  | _=>sR (tZ n (j / 2))
def D8:d9->T d9->T d9:=λ_ t=>t
def bW:Option Nat->d9->T d9->T d9
 | none=>D8
 | some j=>tZ 64 j
def mK (n:Int):Int:=match n with
 | .ofNat m=>bi (Nat.blt m 9223372036854775808) (.ofNat m) (IntKind.i64.wrap (.ofNat m))
 | .negSucc m=>bi (Nat.blt m 9223372036854775808) (.negSucc m) (IntKind.i64.wrap (.negSucc m))
def nY (k:IntKind)(n:Int):Int:=match k with
 | .i64=>mK n
 | k=>k.wrap n
def bL:Int->Int->Bool
 | .ofNat a,.ofNat b=>Nat.beq a b
 | .negSucc a,.negSucc b=>Nat.beq a b
 | _,_=>false
def pO:Int->Int->Bool
 | .ofNat a,.ofNat b=>Nat.blt a b
 | .negSucc _,.ofNat _=>true
 | .ofNat _,.negSucc _=>false
 | .negSucc a,.negSucc b=>Nat.blt b a
def YU (a b:IntKind):Bool:=match a,b with
 | .i64,.i64=>true
 | a,b=>decide (a=b)
def strEq (a:List UInt8):List UInt8->Bool:=
 List.rec (λb=>List.rec true (λ_ _ _=>false) b) (λx _ ih b=>List.rec false (λy ys _=>bi (Nat.beq x.toNat y.toNat) (ih ys) false) b) a
def rD:List UInt8->List UInt8->Bool
 | _,[]=>false
 | [],_ :: _=>true
 | a::x,b::y=>a<b||(a==b&&rD x y)
def yK (k:IntKind)(f:BitVec k.bits->BitVec k.bits->BitVec k.bits)(a b:Int):d9:=
 .int k (k.wrap (f (BitVec.ofInt k.bits a) (BitVec.ofInt k.bits b)).toNat)
def Sl (b:Int)(r:Option d9):Option d9:=match b with
 | .ofNat 0=>none
 | _=>r
abbrev IB:=IntKind->Int->Int->Option d9
def bM:IB:=λk a b=>some (.int k (nY k (a+b)))
def Dn:IB:=λk a b=>some (.int k (nY k (a-b)))
def UR:IB:=λk a b=>some (.int k (nY k (a*b)))
def Lc:IB:=λk a b=>Sl b (some (.int k (nY k (a.tdiv b))))
def YV:IB:=λk a b=>Sl b (some (.int k (a.tmod b)))
def agO:IB:=λk a b=>some (yK k (· &&& ·) a b)
def iOr:IB:=λk a b=>some (yK k (· ||| ·) a b)
def agP:IB:=λk a b=>some (yK k (· ^^^ ·) a b)
def QE:IB:=λk a b=>some (yK k (λx y=>x &&& ~~~y) a b)
def gD:IB:=λ_ a b=>some (.bool (bL a b))
def Ot:IB:=λ_ a b=>some (.bool (!bL a b))
def IX:IB:=λ_ a b=>some (.bool (pO a b))
def QF:IB:=λ_ a b=>some (.bool (!pO b a))
def Ou:IB:=λ_ a b=>some (.bool (pO b a))
def Sn:IB:=λ_ a b=>some (.bool (!pO a b))
def iNo:IB:=λ_ _ _=>none
abbrev SB:=List UInt8->List UInt8->Option d9
def P6:SB:=λa b=>bi (Nat.blt (Nat.add (len' a) (len' b)) 9223372036854775808) (some (.str (V8 a b))) none
def gF:SB:=λa b=>some (.bool (strEq a b))
def Ov:SB:=λa b=>some (.bool (!strEq a b))
def KR:SB:=λa b=>some (.bool (rD a b))
def UC:SB:=λa b=>some (.bool (rD a b||strEq a b))
def OH:SB:=λa b=>some (.bool (!(rD a b||strEq a b)))
def UU:SB:=λa b=>some (.bool (!rD a b))
def qE:SB:=λ_ _=>none
def IY:BinOp->IB
 | .add=>bM | .sub=>Dn | .mul=>UR | .quo=>Lc | .rem=>YV | .and=>agO | .or=>iOr | .xor=>agP | .andNot=>QE
 | .shl=>iNo | .shr=>iNo | .eql=>gD | .neq=>Ot | .lss=>IX | .leq=>QF | .gtr=>Ou | .geq=>Sn
def IZ:BinOp->SB
 | .add=>P6 | .eql=>gF | .neq=>Ov | .lss=>KR | .leq=>UC | .gtr=>OH | .geq=>UU
 | _=>qE
def Cj (f:IB)(g:SB)(x y:d9):Option d9:=match x with
 | .int k a=>rA y λk' b=>bi (YU k k') (f k a b) none
 | .str a=>pF y λb=>g a b
 | _=>none
def YW (x y:d9):Option d9:=rA x λk a=>jQ y λm=>some (.int k (nY k (a*2^(min m k.bits))))
def YX (x y:d9):Option d9:=rA x λk a=>jQ y λm=>some (.int k (a.fdiv (2^(min m k.bits))))
def Dp (a b:Bool):Bool:=bi a b (bi b false true)
def K8 (x y:d9):Option Bool:=rA x λk a=>rA y λk' b=>bi (YU k k') (some (bL a b)) none
def nZ (x y:d9):Option Bool:=pK x λa=>pK y λb=>some (Dp a b)
def eqStr (x y:d9):Option Bool:=pF x λa=>pF y λb=>some (strEq a b)
def FN (k:PK):d9->d9->Option Bool:=match k with
 | .i=>K8
 | .b=>nZ
 | .s=>eqStr
def bF (ks:List PK):List d9->List d9->Option Bool:=
 List.rec (λ_ _=>some true) (λk _ ih a b=>List.rec none (λx xs _=>List.rec none (λy ys _=>ob (FN k x y) λr=>bi r (ih xs ys) (some false)) b) a) ks
def xw (ks:List PK)(x y:d9):Option Bool:=tX x λa=>tX y λb=>bF ks a b
def iL (x y:d9):Option Bool:=match x,y with
 | .nilPtr,.nilPtr=>some true
 | .nilPtr,.ptr _ _=>some false
 | .ptr _ _,.nilPtr=>some false
 | .ptr a b,.ptr c d=>bi (Nat.beq a c) (bi (Nat.beq b d) (some true) none) none
 | _,_=>none
def yL (x y:d9):Option Bool:=match x,y with
 | .nilSlice,.nilSlice=>some true
 | .nilSlice,.slice .. | .nilSlice,.sliceU ..=>some false
 | .slice ..,.nilSlice | .sliceU ..,.nilSlice=>some false
 | _,_=>none
def Ld (x y:d9):Option Bool:=match x,y with
 | .nilMap,.nilMap=>some true
 | .nilMap,.map _ | .map _,.nilMap=>some false
 | _,_=>none
def Dq (x y:d9):Option Bool:=match x,y with
 | .nilFunc,.nilFunc=>some true
 | .nilFunc,.func .. | .func ..,.nilFunc=>some false
 | _,_=>none
def nk (x y:d9):Option Bool:=match x,y with
 | .nilIface,.nilIface=>some true
 | .nilIface,.iface .. | .iface ..,.nilIface=>some false
 | _,_=>none
abbrev FJ:=d9->d9->Option Bool
def mM:Aa->FJ
 | .prim .i=>K8 | .prim .b=>nZ | .prim .s=>eqStr | .flat ks=>xw ks | .ptr=>iL | .slice=>yL | .map=>Ld | .func=>Dq | .iface=>nk
abbrev PF:=List d9->T d9->Option d9
def L9 (x:OF):PF:=λls env=>some (x ls env)
def iM (c a b:OF):PF:=λls env=>pK (c ls env) λt=>some (bi t (a ls env) (b ls env))
def lay (ps:List (Nat×Nat×OF))(ls:List d9)(env:T d9):List d9->Option (List d9):=
 List.rec (λcs=>some cs) (λp _ ih cs=>
  bi (Nat.beq (len' (p.2.2 ls env).cells) p.2.1) (bi (Nat.ble (Nat.add p.1 p.2.1) (len' cs)) (ih (kU p.1 (p.2.2 ls env).cells cs)) none) none) ps
def aN (zero:List d9)(ps:List (Nat×Nat×OF)):PF:=λls env=>ob (lay ps ls env zero) λl=>some (.agg l)
def Ab (v:d9):Option d9:=match v with
 | .nilPtr | .nilIface | .nilFunc=>none
 | .func (.func f) a b=>some (.func (.func f) a b)
 | .func ..=>none
 | v=>some v
def cK (x:OF):PF:=λls env=>Ab (x ls env)
def N7 (f:IB)(g:SB)(x y:OF):PF:=λls env=>Cj f g (x ls env) (y ls env)
def acT (x y:OF):PF:=λls env=>YW (x ls env) (y ls env)
def acU (x y:OF):PF:=λls env=>YX (x ls env) (y ls env)
def pEq (f:FJ)(x y:OF):PF:=λls env=>ob (f (x ls env) (y ls env)) λb=>some (.bool b)
def pNe (f:FJ)(x y:OF):PF:=λls env=>ob (f (x ls env) (y ls env)) λb=>some (.bool (!b))
def UW (x:OF):PF:=λls env=>pK (x ls env) λb=>some (.bool (!b))
def acV (x:OF):PF:=λls env=>rA (x ls env) λk n=>some (yK k (· ^^^ ·) (bi k.signed (-1) k.max) n)
def Ja (x:OF):PF:=λls env=>rA (x ls env) λk n=>some (.int k (nY k (0-n)))
def Le (k:IntKind)(x:OF):PF:=λls env=>rA (x ls env) λ_ n=>some (.int k (nY k n))
def OI (t:TypeId)(x:OF):PF:=λls env=>some (.iface t (x ls env))
def wJ (fn:Fn)(a b:List OF):PF:=λls env=>some (.func fn (evs a ls env) (evs b ls env))
def eX (o:Option OF)(d:Nat)(ls:List d9)(env:T d9)(k:Nat->Option β):Option β:=
 Option.rec (k d) (λx=>jQ (x ls env) k) o
def UY (x:OF)(lo hi:Option OF):PF:=λls env=>pF (x ls env) λs=>eX lo 0 ls env λl=>eX hi (len' s) ls env λh=>bi (Nat.ble l h) (bi (Nat.ble h (len' s)) (ob (takeN (Nat.sub h l) (lX l s)) λr=>some (.str r)) none) none
def UZ (es n:Nat)(x:OF)(lo hi:Option OF):PF:=λls env=>gT (x ls env) λid off=>eX lo 0 ls env λl=>eX hi n ls env λh=>bi (Nat.ble l h) (bi (Nat.ble h n) (some (.slice id (bi (Nat.beq l n) off (Nat.add off (Nat.mul l es))) (Nat.sub h l) (Nat.sub n l))) none) none
def M0 (o:Nat)(x:OF):PF:=λls env=>gT (x ls env) λid off=>some (.ptr id (Nat.add off o))
def Va (off:Nat)(x:OF):PF:=λls env=>tX (x ls env) λcs=>pE off cs
def Vb (off k:Nat)(x:OF):PF:=λls env=>tX (x ls env) λcs=>ob (takeN k (lX off cs)) λl=>some (.agg l)
def idx (len:Nat)(v:d9)(k:Nat->Option β):Option β:=jQ v λi=>bi (Nat.blt i len) (k i) none
def bG (es:Nat)(x i:OF):PF:=λls env=>
 qD (x ls env) none (λid off len _=>idx len (i ls env) λk=>some (.ptr id (Nat.add off (Nat.mul k es))))
  (λid off len _=>idx len (i ls env) λk=>some (.ptr id (Nat.add off (Nat.mul k es))))
def Ac (es n:Nat)(x i:OF):PF:=λls env=>gT (x ls env) λid off=>idx n (i ls env) λk=>some (.ptr id (Nat.add off (Nat.mul k es)))
def Ad (es n:Nat)(x i:OF):PF:=λls env=>tX (x ls env) λcs=>idx n (i ls env) λk=>pE (Nat.mul k es) cs
def Vd (es n sz:Nat)(x i:OF):PF:=λls env=>tX (x ls env) λcs=>idx n (i ls env) λk=>ob (takeN sz (lX (Nat.mul k es) cs)) λl=>some (.agg l)
def Bl (x i:OF):PF:=λls env=>pF (x ls env) λs=>jQ (i ls env) λk=>ob (pE k s) λb=>some (.int .u8 b.toNat)
def pExt (x:OF)(i:Nat):PF:=λls env=>KZ (x ls env) λl=>pE i l
def lenOf (v:d9):Option Nat:=match v with
 | .nilSlice=>some 0
 | .slice _ _ n _=>some n
 | .sliceU _ _ n _=>some n
 | .str s=>some (len' s)
 | _=>none
def Jb (x:OF):PF:=λls env=>qD (x ls env) (some (.int .i64 0)) (λ_ _ n _=>some (.int .i64 (.ofNat n))) (λ_ _ n _=>some (.int .i64 (.ofNat n)))
def Bn (x:OF):PF:=λls env=>pF (x ls env) λs=>some (.int .i64 (.ofNat (len' s)))
def acW (x:OF):PF:=λls env=>qD (x ls env) (some (.int .i64 0)) (λ_ _ _ c=>some (.int .i64 (.ofNat c))) (λ_ _ _ _=>none)
def mm2 (mx:Bool)(x y:d9):Option d9:=rA x λk a=>rA y λ_ b=>some (.int k (bi mx (bi (pO a b) b a) (bi (pO b a) b a)))
def Dr (mx:Bool)(ys:List d9):d9->Option d9:=List.rec (λx=>some x) (λy _ ih x=>ob (mm2 mx x y) ih) ys
def pMm (mx:Bool)(x:OF)(xs:List OF):PF:=λls env=>Dr mx (evs xs ls env) (x ls env)
def QG (t:TypeId)(zero:d9)(ok:Bool)(v:d9):Option d9:=match v with
 | .iface u y=>bi (Nat.beq u t) (some (bi ok (.tuple [y,.bool true]) y)) (bi ok (some (.tuple [zero,.bool false])) none)
 | .nilIface=>bi ok (some (.tuple [zero,.bool false])) none
 | _=>none
def QH (t:TypeId)(zero:d9)(ok:Bool)(x:OF):PF:=λls env=>QG t zero ok (x ls env)
def Ae:List (Nat×Nat×O8)->List (Nat×Nat×OF)
 | []=>[]
 | p::l=>(p.1,p.2.1,G6 p.2.2)::Ae l
def nN:Uz->PF
 | .mov x=>L9 (G6 x)
 | .pick c a b=>iM (G6 c) (G6 a) (G6 b)
 | .build z ps=>aN z (Ae ps)
 | .nilCheck x=>cK (G6 x)
 | .ib op x y=>match op with
  | .shl=>acT (G6 x) (G6 y)
  | .shr=>acU (G6 x) (G6 y)
  | op=>N7 (IY op) (IZ op) (G6 x) (G6 y)
 | .eq neg k x y=>match neg with
  | true=>pNe (mM k) (G6 x) (G6 y)
  | false=>pEq (mM k) (G6 x) (G6 y)
 | .not x=>UW (G6 x)
 | .neg x=>Ja (G6 x)
 | .inv x=>acV (G6 x)
 | .conv k x=>Le k (G6 x)
 | .mkIface t x=>OI t (G6 x)
 | .mkFunc fn a b=>wJ fn (fJ a) (fJ b)
 | .slStr x lo hi=>UY (G6 x) (kX lo) (kX hi)
 | .slArr es n x lo hi=>UZ es n (G6 x) (kX lo) (kX hi)
 | .fAddr o x=>M0 o (G6 x)
 | .fld off size x=>match size with
  | none=>Va off (G6 x)
  | some k=>Vb off k (G6 x)
 | .iAddr es x i=>bG es (G6 x) (G6 i)
 | .iAddrArr es n x i=>Ac es n (G6 x) (G6 i)
 | .iArr es n size x i=>match size with
  | none=>Ad es n (G6 x) (G6 i)
  | some k=>Vd es n k (G6 x) (G6 i)
 | .iStr x i=>Bl (G6 x) (G6 i)
 | .ext x i=>pExt (G6 x) i
 | .len x=>Jb (G6 x)
 | .dU x=>Bn (G6 x)
 | .cap x=>acW (G6 x)
 | .mm mx x xs=>pMm mx (G6 x) (fJ xs)
 | .assert t z ok x=>QH t z ok (G6 x)
abbrev RF:=List d9->T d9->Mem->Option d9
def jm (a:OF):RF:=λls env m=>gT (a ls env) λid off=>Q6 (m.get id) λrs n rows=>cell1 rs n rows off
def bX (k:Nat)(a:OF):RF:=λls env m=>gT (a ls env) λid off=>Q6 (m.get id) λrs n rows=>ob (jR rs n rows off k) λl=>some (.agg l)
def findKey (f:FJ)(k:d9)(es:List (d9×d9)):Nat->Option (Option (Nat×d9)):=
 List.rec (λ_=>some none) (λe _ ih i=>ob (f k e.1) λb=>bi b (some (some (i,e.2))) (ih (Nat.succ i))) es
def found (ok:Bool)(zero:d9)(o:Option (Nat×d9)):Option d9:=
 Option.rec (some (bi ok (.tuple [zero,.bool false]) zero)) (λp=>some (bi ok (.tuple [p.2,.bool true]) p.2)) o
def P7 (f:FJ)(n:Nat)(k:d9)(es:List (d9×d9)):Option (Option (Nat×d9)):=
 bi (Nat.beq (len' k.cells) n) (List.rec (ob (f k k) λ_=>some none) (λ_ _ _=>findKey f k es 0) es) none
def yM (f:FJ)(n:Nat)(zero:d9)(ok:Bool)(mp k:OF):RF:=λls env m=>tY (mp ls env) (ob (P7 f n (k ls env) []) λr=>found ok zero r) λid=>Ci (m.get id) λes=>ob (P7 f n (k ls env) es) λr=>found ok zero r
def abL (x:OF):RF:=λls env m=>tY (x ls env) (some (.int .i64 0)) λid=>Oq (m.get id) λes=>some (.int .i64 (.ofNat (len' es)))
def bytesOf:List UInt8->List d9
 | []=>[]
 | b::l=>.int .u8 b.toNat::bytesOf l
def byteOf:List d9->Option (List UInt8)
 | []=>some []
 | .int .u8 (.ofNat n)::l=>match byteOf l with
  | some s=>some (UInt8.ofNat n::s)
  | none=>none
 | _ :: _=>none
def U8 (m:Mem)(id off n:Nat):Option (List d9):=
 Nat.rec (some []) (λ_ _=>Q6 (m.get id) λrs k rows=>Q7 rs k rows n off) n
def eY (m:Mem)(es n:Nat)(v:d9):Option (List d9):=match v with
 | .nilSlice=>some []
 | .slice id off _ _=>U8 m id off (Nat.mul n es)
 | .sliceU id off _ _=>U8 m id off (Nat.mul n es)
 | .str s=>some (bytesOf (s.take n))
 | _=>none
def fT (x:OF):RF:=λls env m=>
 qD (x ls env) (some (.str [])) (λid off len _=>ob (U8 m id off len) λl=>ob (byteOf l) λs=>some (.str s))
  (λid off len _=>ob (U8 m id off len) λl=>ob (byteOf l) λs=>some (.str s))
def Gw (b:Option O6)(nl:Option β)(k:Nat->Nat->List Nat->Option β):Option β:=match b with
 | some (.iter none _ _)=>nl
 | some (.iter (some mp) since seen)=>k mp since seen
 | _=>none
def rF (it:OF):RF:=λls env m=>gT (it ls env) λid off=>bi (Nat.beq off 0)
 (Gw (m.get id) none λmp since seen=>List.rec none (λi _ _=>Oq (m.get mp) λes=>bi (Nat.beq (len' es) since) (ob (pE i es) λe=>some (.tuple [e.1,e.2])) none) seen) none
def CK (x:OF):RF:=λls env _=>qD (x ls env) (some .nilPtr) (λid off _ cap=>bi (Nat.blt 0 cap) (some (.ptr id off)) none) (λid off len _=>bi (Nat.blt 0 len) (some (.ptr id off)) none)
def rG (x:OF):RF:=λls env m=>match x ls env with
 | .nilPtr=>some .nilPtr
 | .ptr id off=>Q6 (m.get id) λrs n _=>bi (Nat.blt off (Nat.mul n rs)) (some (.ptr id off)) none
 | _=>none
def Ve (ty off:Nat)(l:List (Nat×Nat)):Bool:=List.rec false (λp _ ih=>bi (Nat.beq p.1 ty) (bi (Nat.beq p.2 off) true ih) ih) l
def jS (oks:List (Nat×Nat))(x:OF):RF:=λls env m=>match x ls env with
 | .nilPtr=>some .nilPtr
 | .ptr id off=>Q6 (m.get id) λ_ n rows=>bi (Nat.beq n 1) (ob (Dm rows) λty=>bi (Ve ty off oks) (some (.ptr id off)) none) none
 | _=>none
def Af:Aa->Nat
 | .flat ks=>ks.length
 | _=>1
def rH:OG->RF
 | .load size a=>match size with
  | none=>jm (G6 a)
  | some k=>bX k (G6 a)
 | .look kk zero ok m k=>yM (mM kk) (Af kk) zero ok (G6 m) (G6 k)
 | .lenM x=>abL (G6 x)
 | .bytesStr x=>fT (G6 x)
 | .entry it=>rF (G6 it)
 | .slData x=>CK (G6 x)
 | .toUns x=>rG (G6 x)
 | .fromUns oks x=>jS oks (G6 x)
abbrev LR:=Option (d9×Option O6)
abbrev LF:=List d9->T d9->Nat->LR
def o7 (cs:List d9):O6:=.cells (len' cs) 1 (.nd .e cs .e)
def yN (es n:Nat)(cells:List d9)(k:O6->Option β):Option β:=ob (rowsOf es n cells) λrows=>k (.cells es n (T.ofList rows))
def dZ (ty:Nat)(cs:List d9):O6:=.cells (len' cs) 1 (.nd (.nd .e (UQ ty) .e) cs .e)
def CP (ty:Nat)(zero:List d9):LF:=λ_ _ nid=>some (.ptr nid 0,some (dZ ty zero))
def abM (ty k:Nat)(x:OF):LF:=λls env nid=>bi (Nat.beq (len' (x ls env).cells) k) (some (.ptr nid 0,some (dZ ty (x ls env).cells))) none
def kY (zero:List d9):LF:=λ_ _ nid=>some (.ptr nid 0,some (o7 zero))
def OJ (x:OF):LF:=λls env nid=>some (.ptr nid 0,some (o7 (x ls env).cells))
def R6 (zero:List d9)(n:Nat):List d9:=Nat.rec [] (λ_ ih=>V8 zero ih) n
def U6 (es len:Nat)(zero:List d9)(ps:List (Nat×Nat×OF)):LF:=λls env nid=>ob (lay ps ls env (R6 zero len)) λcells=>yN es len cells λb=>some (.slice nid 0 len len,some b)
def eZ:LF:=λ_ _ nid=>some (.map nid,some (.map []))
def Lf (es bytes:Nat)(zero:List d9)(len cap:OF):LF:=λls env nid=>
 jQ (len ls env) λl=>jQ (cap ls env) λc=>
  bi (Nat.ble l c) (bi (Nat.ble (Nat.mul bytes c) 281474976710656) (bi (Nat.blt c 9223372036854775808)
   (some (.slice nid 0 l c,some (.cells es c (T.rep zero c .e 0)))) none) none) none
def Gx (x:OF):LF:=λls env nid=>pF (x ls env) λs=>yN 1 (len' s) (bytesOf s) λb=>some (.sliceU nid 0 (len' s) 1,some b)
def K6 (nid es:Nat)(x:d9)(lo:Nat)(hi:Option Nat):LR:=
 qD x (bi (Nat.beq lo 0) (Option.rec (some (.nilSlice,none)) (λh=>bi (Nat.beq h 0) (some (.nilSlice,none)) none) hi) none)
  (λid off len cap=>Option.rec (known id off cap len) (λh=>known id off cap h) hi)
  (λid off len es'=>Option.rec (unk id off len es' len) (λh=>unk id off len es' h) hi)
where
 known (id off cap h:Nat):LR:=bi (Nat.ble lo h) (bi (Nat.ble h cap)
  (some (.slice id (bi (Nat.beq lo cap) off (Nat.add off (Nat.mul lo es))) (Nat.sub h lo) (Nat.sub cap lo),none)) none) none
 unk (id off len es' h:Nat):LR:=bi (Nat.ble lo h) (bi (Nat.ble h len) (bi (Nat.beq es es')
  (bi (Nat.blt lo len) (some (.sliceU id (Nat.add off (Nat.mul lo es)) (Nat.sub h lo) es,none))
   (bi (Nat.beq lo 0) (some (.sliceU id off (Nat.sub h lo) es,none)) (some (.sliceU nid 0 0 es,some (.tail id))))) none) none) none
def lSl (es:Nat)(x:OF)(lo hi:Option OF):LF:=λls env nid=>eX lo 0 ls env λl=>Option.rec (K6 nid es (x ls env) l none) (λh=>jQ (h ls env) λh=>K6 nid es (x ls env) l (some h)) hi
def wK:Sk->LF
 | .alloc zero=>kY zero
 | .box x=>OJ (G6 x)
 | .allocT ty zero=>CP ty zero
 | .boxT ty k x=>abM ty k (G6 x)
 | .buildSlice es len zero ps=>U6 es len zero (Ae ps)
 | .mkMap=>eZ
 | .mkSlice es bytes zero l c=>Lf es bytes zero (G6 l) (G6 c)
 | .strBytes x=>Gx (G6 x)
 | .sl es x lo hi=>lSl es (G6 x) (kX lo) (kX hi)
structure VM where
 v:d9
 m:Mem
abbrev eu:=Option (List VM)
abbrev D7:=Fn->List d9->Mem->eu
abbrev EF:=D7->List d9->T d9->Mem->eu
def one (v:d9)(m:Mem):eu:=some [⟨v,m⟩]
def N9 (size:Nat)(a x:OF):EF:=λ_ ls env m=>gT (a ls env) λid off=>bi (Nat.beq (len' (x ls env).cells) size) (storeAt m id off (x ls env).cells λm'=>one .undef m') none
def Dt (size:Nat)(a x b:OF):EF:=λcf ls env m=>gT (a ls env) λi _=>gT (b ls env) λj _=>bi (Nat.beq i j) none (N9 size a x cf ls env m)
def bY (es:List (d9×d9))(k v:d9):Nat->List (d9×d9):=
 List.rec (λ_=>[]) (λe es ih i=>Nat.rec ((k,v)::es) (λj _=>e::ih j) i) es
def oh (m:Mem)(id:Nat)(k:d9)(es:List (d9×d9)):eu:=match m.get id with
 | some (.mapU _)=>pF k λ_=>one .undef (m.set id (.mapU es))
 | _=>one .undef (m.set id (.map es))
def G9 (f:FJ)(n:Nat)(mp k x:OF):EF:=λ_ ls env m=>tY (mp ls env) none λid=>bi (Nat.blt id m.lim) none
 (Ci (m.get id) λes=>ob (P7 f n (k ls env) es) λr=>
  Option.rec (oh m id (k ls env) (V8 es [(k ls env,x ls env)])) (λp=>ob (pE p.1 es) λe=>
   bi (Nat.beq (len' e.1.cells) n) (oh m id (k ls env) (bY es (k ls env) (x ls env) p.1)) none) r)
def om (x:OF):EF:=λ_ ls env m=>tY (x ls env) (one (.ptr m.nx 0) (m.new (.iter none 0 [])))
 λid=>Oq (m.get id) λes=>one (.ptr m.nx 0) (m.new (.iter (some id) (len' es) []))
def rJ (n:Nat)(l:List Nat):Bool:=List.rec false (λx _ ih=>bi (Nat.beq x n) true ih) l
def nexts (m:Mem)(id mp since:Nat)(seen:List Nat)(es:List (d9×d9)):Nat->List VM:=
 List.rec (λ_=>[]) (λe _ ih i=>bi (rJ i seen) (ih (Nat.succ i))
  (⟨.tuple [.bool true,e.1,e.2],m.set id (.iter (some mp) since (i::seen))⟩::ih (Nat.succ i))) es
def Jc (m:Mem)(l:List VM):List VM:=List.rec [⟨.tuple [.bool false],m⟩] (λx xs _=>x::xs) l
def Bo (it:OF):EF:=λ_ ls env m=>gT (it ls env) λid off=>bi (Nat.beq off 0) (bi (Nat.blt id m.lim) none
 (Gw (m.get id) (one (.tuple [.bool false]) m) λmp since seen=>Oq (m.get mp) λes=>
  bi (Nat.beq (len' es) since) (some (Jc m (nexts m id mp since seen es 0))) none)) none
def big (n bytes es:Nat):Bool:=bi (Nat.ble (Nat.mul (Nat.add (Nat.mul 2 n) 2048) bytes) 281474976710656) (bi (Nat.ble 1 es) (Nat.ble 1 bytes) false) false
def grown (m:Mem)(es n:Nat)(cells:List d9):eu:=yN es n cells λb=>one (.sliceU m.nx 0 n es) (m.new b)
def acZ (m:Mem)(es bytes n:Nat)(new:List d9):eu:=
 Nat.rec (one .nilSlice m) (λ_ _=>bi (big n bytes es) (grown m es n new) none) n
def Du (m:Mem)(es bytes n:Nat)(new:List d9)(id off len cap:Nat):eu:=
 bi (Nat.ble (Nat.add len n) cap) (jE m id (Nat.add off (Nat.mul len es)) new λm'=>one (.slice id off (Nat.add len n) cap) m')
  (bi (big (Nat.add len n) bytes es) (ob (U8 m id off (Nat.mul len es)) λold=>grown m es (Nat.add len n) (V8 old new)) none)
def Gy (b:Option O6)(c:Nat->Nat->T (List d9)->Option β)(k:Nat->Option β):Option β:=match b with
 | some (.cells rs n rows)=>c rs n rows
 | some (.tail p)=>k p
 | _=>none
def OL (m:Mem)(es bytes n:Nat)(new:List d9)(id off len es':Nat):eu:=
 Nat.rec (one (.sliceU id off len es') m) (λ_ _=>bi (Nat.beq es es') (bi (big (Nat.add len n) bytes es) (bi (Nat.ble m.lim id) (bi (K5 new)
  (Gy (m.get id)
   (λrs k rows=>
    bi (bi (Nat.beq rs es) (bi (Nat.beq off 0) (bi (Nat.ble len k) (bi (Nat.beq n 1) (bi (Nat.beq (len' new) es) (Nat.blt 0 len) false) false) false) false) false)
     (one (.sliceU m.nx 0 (Nat.succ len) es) ((m.set id .dead).new (.cells es (Nat.succ len) (rows.put len new))))
     (ob (Q7 rs k rows (Nat.mul len es) off) λold=>grown (m.set id .dead) es (Nat.add len n) (V8 old new)))
   (λp=>Q6 (m.get p) λ_ _ _=>bi (Nat.ble m.lim p) (bi (Nat.beq len 0) (grown (m.set p .dead) es n new) none) none)) none) none) none) none) n
def Bp (m:Mem)(es bytes n:Nat)(new:List d9)(s:d9):eu:=
 qD s (acZ m es bytes n new) (λa b c d=>Du m es bytes n new a b c d) (λa b c d=>OL m es bytes n new a b c d)
def qF (es bytes:Nat)(s x:OF):EF:=λ_ ls env m=>ob (lenOf (x ls env)) λn=>ob (eY m es n (x ls env)) λnew=>Bp m es bytes n new (s ls env)
def abN (es:Nat)(zero:List d9)(bytes:Nat)(s x:OF):EF:=λ_ ls env m=>jQ (x ls env) λn=>bi (Nat.ble (Nat.mul n bytes) 281474976710656) (bi (Nat.blt n 9223372036854775808) (Bp m es bytes n (R6 zero n) (s ls env)) none) none
def Vf (es:Nat)(d s:OF):EF:=λ_ ls env m=>ob (lenOf (s ls env)) λn=>qD (d ls env) (one (.int .i64 0) m) (λid off len _=>go m n id off len (s ls env)) (λid off len _=>go m n id off len (s ls env))
where
 go (m:Mem) (n id off len:Nat) (s:d9):eu:=ob (eY m es (Nat.min n len) s) λcells=>jE m id off cells λm'=>one (.int .i64 (.ofNat (Nat.min n len))) m'
def Vg (zero:List d9)(x:OF):EF:=λ_ ls env m=>
 qD (x ls env) (one (.tuple []) m) (λid off len _=>jE m id off (R6 zero len) λm'=>one (.tuple []) m')
  (λid off len _=>jE m id off (R6 zero len) λm'=>one (.tuple []) m')
def F6 (f:FuncId)(args:List OF):EF:=λcf ls env m=>cf (.func f) (evs args ls env) m
def QI (cf:D7)(m:Mem)(args:List d9)(v:d9):eu:=La v λfn a b=>match fn with
 | .func f=>cf (.func f) (V8 a (V8 args b)) m
 | .yield l=>cf (.yield l) (V8 a args) m
 | _=>none
def dL (f:OF)(args:List OF):EF:=λcf ls env m=>QI cf m (evs args ls env) (f ls env)
def YZ (v:d9)(m:Mem):eu:=match v with
 | .iface t x=>one (.mq (.iface t x)) m
 | _=>none
def Jd (b:Option O6)(k:List UInt8->Nat->Option β):Option β:=match b with
 | some (.siter s pos)=>k s pos
 | _=>none
def CQ (x:OF):EF:=λ_ ls env m=>pF (x ls env) λs=>one (.ptr m.nx 0) (m.new (.siter s 0))
def Dv (it:OF):EF:=λ_ ls env m=>gT (it ls env) λid off=>bi (Nat.beq off 0) (bi (Nat.blt id m.lim) none
 (Jd (m.get id) λs pos=>bi (Nat.blt pos (len' s))
  ((λ(r:Nat×Nat)=>one (.tuple [.bool true,.int .i64 (.ofNat pos),.int .i32 (.ofNat r.1)]) (m.set id (.siter s (Nat.add pos r.2)))) (Utf8.decode ⟨s.toArray⟩ pos))
  (one (.tuple [.bool false]) m))) none
def wL (ty:Nat)(s x:OF):EF:=λcf ls env m=>match s ls env with
 | .nilSlice=>pF (x ls env) λt=>List.rec (one .nilSlice m) (λ_ _ _=>bi (big (len' t) 1 1) (one (.sliceU m.nx 0 (len' t) 1) (m.new (.buf ty t))) none) t
 | .sliceU id off len es=>match m.get id with
  | some (.buf ty' s0)=>pF (x ls env) λt=>bi (Nat.beq ty ty') (bi (Nat.beq off 0) (bi (Nat.beq es 1) (bi (Nat.beq len (len' s0)) (bi (Nat.ble m.lim id) (List.rec (one (.sliceU id off len es) m) (λ_ _ _=>bi (big (Nat.add len (len' t)) 1 1) (one (.sliceU m.nx 0 (Nat.add len (len' t)) 1) ((m.set id .dead).new (.buf ty (V8 s0 t)))) none) t) none) none) none) none) none
  | _=>qF 1 1 s x cf ls env m
 | _=>qF 1 1 s x cf ls env m
def Za (v:d9)(k:Nat->Option β):Option β:=match v with
 | .int .i64 (.ofNat n)=>k n
 | _=>none
def QJ (ty:Nat)(p n:OF):EF:=λ_ ls env m=>Za (n ls env) λk=>match p ls env with
 | .nilPtr=>bi (Nat.beq k 0) (one (.str []) m) none
 | .ptr id off=>bi (Nat.beq off 0) (bi (Nat.ble m.lim id) (match m.get id with
  | some (.buf ty' s)=>bi (Nat.beq ty ty') (bi (Nat.beq k (len' s)) (bi (Nat.ble k 9223372036854775807) (one (.str s) (m.set id .dead)) none) none) none
  | _=>none) none) none
 | _=>none
def OM (x:OF):EF:=λ_ ls env m=>YZ (x ls env) m
def Zb:EF:=λ_ _ _ _=>none
def nO:UA->EF
 | .store size a x=>N9 size (G6 a) (G6 x)
 | .storeAp size a x b=>Dt size (G6 a) (G6 x) (G6 b)
 | .mapSet kk m k x=>G9 (mM kk) (Af kk) (G6 m) (G6 k) (G6 x)
 | .range x=>om (G6 x)
 | .next it=>Bo (G6 it)
 | .app es zeros zero bytes s x=>match zeros with
  | true=>abN es zero bytes (G6 s) (G6 x)
  | false=>qF es bytes (G6 s) (G6 x)
 | .copy es d s=>Vf es (G6 d) (G6 s)
 | .clear zero x=>Vg zero (G6 x)
 | .call f args=>F6 f (fJ args)
 | .callv f args=>dL (G6 f) (fJ args)
 | .panic x=>OM (G6 x)
 | .defer _ _=>Zb
 | .recover=>Zb
 | .bad=>Zb
 | .rangeS x=>CQ (G6 x)
 | .nextS it=>Dv (G6 it)
 | .appB ty s x=>wL ty (G6 s) (G6 x)
 | .ustr ty p n=>QJ ty (G6 p) (G6 n)
def Dw (f:α->Option (List β))(l:List α):Option (List β):=
 List.rec (some []) (λa _ ih=>ob (f a) λx=>ob ih λy=>some (x++y)) l
def bnd (x:Option (List α))(f:α->Option (List β)):Option (List β):=
 Option.rec none (λl=>List.rec (some []) (λa t _=>List.rec (f a) (λ_ _ _=>Dw f l) t) l) x
structure EM where
 env:T d9
 m:Mem
 px:Option d9
 mks:List Mk
def bg (v:d9)(p:d9->β)(q:β):β:=match v with
 | .mq x=>p x
 | _=>q
abbrev RC:=D7->List d9->T d9->Mem->Option (List EM)
def o8:RC:=λ_ _ env m=>some [⟨env,m,none,[]⟩]
def J7 (f:PF)(d:d9->T d9->T d9)(k:RC):RC:=λcf ls env m=>Option.rec none (λv=>k cf (v::ls) (d v env) m) (f ls env)
def l7 (f:PF)(k:RC):RC:=λcf ls env m=>Option.rec none (λv=>k cf (v::ls) env m) (f ls env)
def Zc (f:RF)(d:d9->T d9->T d9)(k:RC):RC:=λcf ls env m=>Option.rec none (λv=>k cf (v::ls) (d v env) m) (f ls env m)
def H6 (f:RF)(k:RC):RC:=λcf ls env m=>Option.rec none (λv=>k cf (v::ls) env m) (f ls env m)
def dz (m:Mem)(b:Option O6):Mem:=Option.rec m (λb=>m.new b) b
def nP (f:LF)(d:d9->T d9->T d9)(k:RC):RC:=λcf ls env m=>ob (f ls env m.nx) λr=>k cf (r.1::ls) (d r.1 env) (dz m r.2)
def nu (f:LF)(k:RC):RC:=λcf ls env m=>Option.rec none (λr=>k cf (r.1::ls) env (dz m r.2)) (f ls env m.nx)
def D6 (f:EF)(k:RC):RC:=λcf ls env m=>bnd (f cf ls env m) λr=>bg r.v (λx=>some [⟨env,r.m,some x,[]⟩]) (k cf (r.v::ls) env r.m)
def OO (f:EF)(d:d9->T d9->T d9)(k:RC):RC:=λcf ls env m=>bnd (f cf ls env m) λr=>bg r.v (λx=>some [⟨env,r.m,some x,[]⟩]) (k cf (r.v::ls) (d r.v env) r.m)
def Lg (f:OF)(args:List OF):RC:=λ_ ls env m=>La (f ls env) λfn a b=>some [⟨env,m,none,[.d (.func fn a b) (evs args ls env)]⟩]
def pG (w:Bool)(v:d9):Bool:=match v with
 | .bool b=>Dp b w
 | _=>false
def gP (x:OF)(w:Bool)(f:PF):PF:=λls env=>bi (pG w (x ls env)) (f ls env) (some .undef)
def Vh (x:OF)(w:Bool)(f:RF):RF:=λls env m=>bi (pG w (x ls env)) (f ls env m) (some .undef)
def gLk (x:OF)(w:Bool)(f:LF):LF:=λls env i=>bi (pG w (x ls env)) (f ls env i) (some (.undef,none))
def gE (x:OF)(w:Bool)(f:EF):EF:=λcf ls env m=>bi (pG w (x ls env)) (f cf ls env m) (one .undef m)
def FP (g:Option (O8×Bool))(f:PF):PF:=match g with
 | none=>f
 | some (x,w)=>gP (G6 x) w f
def xA (g:Option (O8×Bool))(f:RF):RF:=match g with
 | none=>f
 | some (x,w)=>Vh (G6 x) w f
def Ck (g:Option (O8×Bool))(f:LF):LF:=match g with
 | none=>f
 | some (x,w)=>gLk (G6 x) w f
def Je (g:Option (O8×Bool))(f:EF):EF:=match g with
 | none=>f
 | some (x,w)=>gE (G6 x) w f
def UD (o:yI)(d:Option Nat)(g:Option (O8×Bool))(k:RC):RC:=match o with
 | .p o=>match d with
  | none=>l7 (FP g (nN o)) k
  | some j=>J7 (FP g (nN o)) (bW (some j)) k
 | .r o=>match d with
  | none=>H6 (xA g (rH o)) k
  | some j=>Zc (xA g (rH o)) (bW (some j)) k
 | .a o=>match d with
  | none=>nu (Ck g (wK o)) k
  | some j=>nP (Ck g (wK o)) (bW (some j)) k
 | .e o=>match d with
  | none=>D6 (Je g (nO o)) k
  | some j=>OO (Je g (nO o)) (bW (some j)) k
def pQ (i:Inst):Option (O8×List O8):=match i.op,i.guard,i.dst with
 | .e (.defer f as),none,none=>some (f,as)
 | _,_,_=>none
def Dx (i:Inst):RC:=match pQ i with
 | some p=>Lg (G6 p.1) (fJ p.2)
 | none=>UD i.op i.dst i.guard o8
def bB:List Inst->RC
 | []=>o8
 | [i]=>Dx i
 | i::j::l=>UD i.op i.dst i.guard (bB (j::l))
def kN (f:O8->O8):Uz->Uz
 | .mov x=>.mov (f x)
 | .pick a b c=>.pick (f a) (f b) (f c)
 | .build z ps=>.build z (ps.map λp=>(p.1,p.2.1,f p.2.2))
 | .nilCheck x=>.nilCheck (f x)
 | .ib o x y=>.ib o (f x) (f y)
 | .eq n k x y=>.eq n k (f x) (f y)
 | .not x=>.not (f x)
 | .neg x=>.neg (f x)
 | .inv x=>.inv (f x)
 | .conv k x=>.conv k (f x)
 | .mkIface t x=>.mkIface t (f x)
 | .mkFunc g a b=>.mkFunc g (a.map f) (b.map f)
 | .slStr x a b=>.slStr (f x) (a.map f) (b.map f)
 | .slArr e n x a b=>.slArr e n (f x) (a.map f) (b.map f)
 | .fAddr o x=>.fAddr o (f x)
 | .fld o s x=>.fld o s (f x)
 | .iAddr e x i=>.iAddr e (f x) (f i)
 | .iAddrArr e n x i=>.iAddrArr e n (f x) (f i)
 | .iArr e n s x i=>.iArr e n s (f x) (f i)
 | .iStr x i=>.iStr (f x) (f i)
 | .ext x i=>.ext (f x) i
 | .len x=>.len (f x)
 | .dU x=>.dU (f x)
 | .cap x=>.cap (f x)
 | .mm m x xs=>.mm m (f x) (xs.map f)
 | .assert t z ok x=>.assert t z ok (f x)
def Ag (f:O8->O8):OG->OG
 | .load s a=>.load s (f a)
 | .look k z o m x=>.look k z o (f m) (f x)
 | .lenM x=>.lenM (f x)
 | .bytesStr x=>.bytesStr (f x)
 | .entry x=>.entry (f x)
 | .slData x=>.slData (f x)
 | .toUns x=>.toUns (f x)
 | .fromUns l x=>.fromUns l (f x)
def aO (f:O8->O8):Sk->Sk
 | .alloc z=>.alloc z
 | .box x=>.box (f x)
 | .allocT t z=>.allocT t z
 | .boxT t k x=>.boxT t k (f x)
 | .buildSlice e l z ps=>.buildSlice e l z (ps.map λp=>(p.1,p.2.1,f p.2.2))
 | .mkMap=>.mkMap
 | .mkSlice e b z l c=>.mkSlice e b z (f l) (f c)
 | .strBytes x=>.strBytes (f x)
 | .sl e x a b=>.sl e (f x) (a.map f) (b.map f)
def tu (f:O8->O8):UA->UA
 | .store s a x=>.store s (f a) (f x)
 | .storeAp s a x b=>.storeAp s (f a) (f x) (f b)
 | .mapSet k a b c=>.mapSet k (f a) (f b) (f c)
 | .range x=>.range (f x)
 | .next x=>.next (f x)
 | .app e z zs b s x=>.app e z zs b (f s) (f x)
 | .copy e d s=>.copy e (f d) (f s)
 | .clear z x=>.clear z (f x)
 | .call g a=>.call g (a.map f)
 | .callv g a=>.callv (f g) (a.map f)
 | .defer g a=>.defer (f g) (a.map f)
 | .panic x=>.panic (f x)
 | .recover=>.recover
 | .bad=>.bad
 | .rangeS x=>.rangeS (f x)
 | .nextS x=>.nextS (f x)
 | .appB t s x=>.appB t (f s) (f x)
 | .ustr t p n=>.ustr t (f p) (f n)
def mapA (f:O8->O8):yI->yI
 | .p o=>.p (kN f o)
 | .r o=>.r (Ag f o)
 | .a o=>.a (aO f o)
 | .e o=>.e (tu f o)
def bump:O8->O8
 | .loc k=>.loc (k+1)
 | x=>x
def rn (r:List O8):O8->O8
 | .loc k=>r.getD k (.con .undef)
 | x=>x
def xB (j:Nat):List Inst->Bool
 | []=>false
 | i::l=>i.dst==some j||xB j l
def mO (r:List O8):List Inst->List Inst
 | []=>[]
 | i::l=>
  let keep:=⟨mapA (rn r) i.op,i.dst,i.guard.map λp=>(rn r p.1,p.2)⟩::mO (.loc 0::r.map bump) l
  match i.op,i.dst,i.guard with
  | .p (.mov x),none,none=>match rn r x with
   | .slot j=>bif xB j l then keep else mO (.slot j::r) l
   | y=>mO (y::r) l
  | _,_,_=>keep
def tC (f:d9->d9->Bool)(a:List d9):List d9->Bool:=
 List.rec (λb=>List.rec true (λ_ _ _=>false) b) (λx _ ih b=>List.rec false (λy ys _=>bi (f x y) (ih ys) false) b) a
def aB (n:Nat):d9->d9->Bool:=Nat.rec (λ_ _=>false) (λ_ ih x y=>match x,y with
  | .bool a,.bool b=>Dp a b
  | .int k a,.int k' b=>bi (YU k k') (bL a b) false
  | .str a,.str b=>strEq a b
  | .nilPtr,.nilPtr=>true
  | .ptr a b,.ptr c d=>bi (Nat.beq a c) (Nat.beq b d) false
  | .nilSlice,.nilSlice=>true
  | .slice a b c d,.slice a' b' c' d'=>bi (Nat.beq a a') (bi (Nat.beq b b') (bi (Nat.beq c c') (Nat.beq d d') false) false) false
  | .sliceU a b c d,.sliceU a' b' c' d'=>bi (Nat.beq a a') (bi (Nat.beq b b') (bi (Nat.beq c c') (Nat.beq d d') false) false) false
  | .nilMap,.nilMap=>true
  | .map a,.map b=>Nat.beq a b
  | .nilFunc,.nilFunc=>true
  | .func (.func f) a b,.func (.func g) c d=>bi (Nat.beq f g) (bi (tC ih a c) (tC ih b d) false) false
  | .func (.yield f) a b,.func (.yield g) c d=>bi (Nat.beq f g) (bi (tC ih a c) (tC ih b d) false) false
  | .nilIface,.nilIface=>true
  | .iface t a,.iface u b=>bi (Nat.beq t u) (ih a b) false
  | .agg a,.agg b=>tC ih a b
  | .tuple a,.tuple b=>tC ih a b
  | .undef,.undef=>true
  | _,_=>false) n
abbrev DC:=D7->Nat->List d9->T d9->Mem->List Mem->Option (List EM)
def stable (f:RF)(ls:List d9)(env:T d9)(v:d9)(n:Nat):List Mem->Bool:=
 Nat.rec (λ_=>true) (λ_ ih gs=>List.rec false (λm ms _=>bi (Option.rec false (λu=>aB 100 u v) (f ls env m)) (ih ms) false) gs) n
def tl (l:List Mem):List Mem:=List.rec [] (λ_ t _=>t) l
def pR:DC:=λ_ _ _ env m _=>some [⟨env,m,none,[]⟩]
def R9 (f:PF)(d:d9->T d9->T d9)(k:DC):DC:=λcf b ls env m gs=>ob (f ls env) λv=>k cf b (v::ls) (d v env) m gs
def hd (m:Mem)(gs:List Mem):Mem:=List.rec m (λg _ _=>g) gs
def isVoid (b:Option O6):Bool:=match b with
 | some .void=>true
 | _=>false
def lQ (i:Nat)(gs:List Mem):Bool:=List.rec true (λg _ ih=>bi (isVoid (g.get i)) ih false) gs
def OP (x:Option (List α))(f:α->Option β):Option β:=
 Option.rec none (λl=>List.rec none (λa t _=>List.rec (f a) (λ_ _ _=>none) t) l) x
def jT (f:RF)(c:Nat)(d:d9->T d9->T d9)(k:DC):DC:=λcf b ls env m gs=>ob (f ls env (hd m gs)) λv=>bi (stable f ls env v c (tl gs)) (k cf b (v::ls) (d v env) m gs) none
def isCells (b:Option O6):Bool:=match b with
 | some (.cells _ _ _)=>true
 | _=>false
def agR (x:OF)(c:Nat)(d:d9->T d9->T d9)(k:DC):DC:=λcf b ls env m gs=>match x ls env with
 | .slice id _ _ _=>bi (isVoid ((hd m gs).get id)) (bi (isCells (m.get id)) (ob (fT x ls env m) λv=>k cf b (v::ls) (d v env) m gs) none) (jT (fT x) c d k cf b ls env m gs)
 | _=>jT (fT x) c d k cf b ls env m gs
def ad6 (c:Nat)(o:OG)(d:Option Nat)(g:Option (O8×Bool))(k:DC):DC:=match o,g with
 | .bytesStr y,none=>agR (G6 y) c (bW d) k
 | o,g=>jT (xA g (rH o)) c (bW d) k
def Lh (m:Mem)(i:Nat)(b:Option O6):Mem:=Option.rec m (λb=>m.set i b) b
def dcL (f:LF)(c:Nat)(d:d9->T d9->T d9)(k:DC):DC:=λcf b ls env m gs=>ob (f ls env (Nat.add b c)) λr=>bi (isVoid (m.get (Nat.add b c))) (bi (lQ (Nat.add b c) gs) (k cf b (r.1::ls) (d r.1 env) (Lh m (Nat.add b c) r.2) gs) none) none
abbrev GF:=Nat->List d9->T d9->Mem->List Mem->List (T d9)->Option (List (T d9))
def dR:GF:=λ_ _ _ _ _ es=>some es
def Sq:GF:=λ_ _ _ _ _ _=>none
def jU (d:d9->T d9->T d9)(k:GF):GF:=λb ls env m gs es=>k b (.undef::ls) (d .undef env) m gs es
def xC (d:d9->T d9->T d9)(k:GF):GF:=λb ls env m gs es=>k b (.undef::ls) (d .undef env) m (m::gs) es
def ghA (f:LF)(c:Nat)(d:d9->T d9->T d9)(k:GF):GF:=λb ls env m gs es=>Option.rec (k b (.undef::ls) (d .undef env) m gs es) (λ_=>none) (f ls env (Nat.add b c))
def Vj (f:T d9->T d9)(l:List (T d9)):List (T d9):=List.rec [] (λx _ ih=>f x::ih) l
def UE (w:Bool)(f:T d9->T d9)(es:List (T d9)):List (T d9):=bi w (V8 es (Vj f es)) es
def Bq:d9->Bool
 | .int _ _ | .bool _ | .str _=>true
 | _=>false
def Sr (w:Bool)(v:d9):Bool:=bi w (Bq v) true
def bZ (f:PF)(w:Bool)(d:d9->T d9->T d9)(k:GF):GF:=λb ls env m gs es=>ob (f ls env) λv=>bi (Sr w v) (k b (v::ls) (d v env) m gs (UE w (d v) es)) none
def CR (f:RF)(c:Nat)(w:Bool)(d:d9->T d9->T d9)(k:GF):GF:=λb ls env m gs es=>ob (f ls env (hd m gs)) λv=>bi (stable f ls env v c (tl gs)) (bi (Sr w v) (k b (v::ls) (d v env) m gs (UE w (d v) es)) none) none
def ghL (f:LF)(c:Nat)(k:GF):GF:=λb ls env m gs es=>ob (f ls env (Nat.add b c)) λr=>bi (isVoid (m.get (Nat.add b c))) (bi (lQ (Nat.add b c) gs) (k b (r.1::ls) env (Lh m (Nat.add b c) r.2) gs es) none) none
def Vk (ds:List Bool):O8->Bool
 | .loc k=>ds.getD k false
 | _=>false
def uf (ds:List Bool)(i:Inst):Bool:=(Dl i.op).any (Vk ds)||(match i.guard with
 | some p=>Vk ds p.1
 | none=>false)
def ug:List (Nat×Inst)->List Bool->GF
 | [],_=>dR
 | x::l,ds=>match x.2.op with
  | .e _=>xC (bW x.2.dst) (ug l (true::ds))
  | .a o=>bif uf ds x.2 then ghA (Ck x.2.guard (wK o)) x.1 (bW x.2.dst) (ug l (true::ds)) else (match x.2.dst with
   | none=>ghL (Ck x.2.guard (wK o)) x.1 (ug l (false::ds))
   | some _=>Sq)
  | .r o=>bif uf ds x.2 then jU (bW x.2.dst) (ug l (true::ds)) else CR (xA x.2.guard (rH o)) x.1 x.2.dst.isSome (bW x.2.dst) (ug l (false::ds))
  | .p o=>bif uf ds x.2 then jU (bW x.2.dst) (ug l (true::ds)) else bZ (FP x.2.guard (nN o)) x.2.dst.isSome (bW x.2.dst) (ug l (false::ds))
def FQ:List (Nat×Inst)->List Bool->Bool
 | [],_=>true
 | x::l,ds=>match x.2.op with
  | .e _=>FQ l (true::ds)
  | .a _=>bif uf ds x.2 then FQ l (true::ds) else (x.2.dst.isNone&&FQ l (false::ds))
  | .r _=>FQ l (uf ds x.2::ds)
  | .p _=>FQ l (uf ds x.2::ds)
def Zd (o:yI)(l:List (Nat×Inst)):GF:=match o with
 | .e (.call _ _)=>bif FQ l [true] then ug l [true] else Sq
 | .e (.callv _ _)=>bif FQ l [true] then ug l [true] else Sq
 | .e (.panic _)=>bif FQ l [true] then ug l [true] else Sq
 | _=>Sq
def uh (m:Mem)(x:d9)(es:List (T d9)):List EM:=List.rec [] (λv _ ih=>⟨v,m,some x,[]⟩::ih) es
def vK (f:EF)(gh:GF)(d:d9->T d9->T d9)(k:DC):DC:=λcf b ls env m gs=>OP (f cf ls env m) λr=>bg r.v (λx=>ob (gh b (.undef::ls) (d .undef env) m (m::gs) [env]) λes=>some (uh r.m x es)) (k cf b (r.v::ls) (d r.v env) r.m (r.m::gs))
def ad7 (c:Nat)(o:yI)(d:Option Nat)(g:Option (O8×Bool))(gh:GF)(k:DC):DC:=match o with
 | .p o=>R9 (FP g (nN o)) (bW d) k
 | .r o=>ad6 c o d g k
 | .a o=>dcL (Ck g (wK o)) c (bW d) k
 | .e o=>vK (Je g (nO o)) gh (bW d) k
def uj:List (Nat×Inst)->DC
 | []=>pR
 | (c,i)::l=>ad7 c i.op i.dst i.guard (Zd i.op l) (uj l)
def reserve (n:Nat)(m:Mem):Mem:=Nat.rec (λm=>m) (λ_ ih m=>ih (m.new .void)) n m
structure Out where
 x:bI
 env:T d9
 m:Mem
 marks:List Mk
 pv:Option d9
abbrev SC:=D7->Nat->Option Nat->T d9->Mem->List Mk->Option (List Out)
def ou (x:bI)(env:T d9)(m:Mem)(k:List Mk):Option (List Out):=some [⟨x,env,m,k,none⟩]
def F9:SC:=λ_ _ _ env m k=>ou .normal env m k
def gU (k:List Mk)(e:EM):Option (List Out):=
 Option.rec (ou .normal e.env e.m (V8 e.mks k)) (λx=>some [⟨.ret,e.env,e.m,V8 e.mks k,some x⟩]) e.px
def j5 (r:RC):SC:=λcf _ _ env m k=>bnd (r cf [] env m) (gU k)
def Jf (r:RC):SC:=λcf _ ir env m k=>Option.rec (bnd (r cf [] env m) (gU k)) (λ_=>none) ir
def jo:List Inst->Bool
 | []=>false
 | i::l=>(pQ i).isSome||jo l
def bN (n:Nat)(r:DC):SC:=λcf _ _ env m k=>bnd (r cf m.nx [] env (reserve n m) [reserve n m]) (gU k)
def j4 (a b:SC):SC:=λcf fuel ir env m k=>bnd (a cf fuel ir env m k) λo=>bI.rec (b cf fuel ir o.env o.m o.marks) (λ_=>some [o]) (some [o]) o.x
def u7 (c:OF)(a b:SC):SC:=λcf fuel ir env m k=>pK (c [] env) λt=>bi t (a cf fuel ir env m k) (b cf fuel ir env m k)
def G8 (id:Nat)(a:SC):SC:=λcf fuel ir env m k=>bnd (a cf fuel ir env m k) λo=>bI.rec (some [o]) (λid'=>bi (Nat.beq id id') (ou .normal o.env o.m o.marks) (some [o])) (some [o]) o.x
def I4 (body:T d9->Mem->List Mk->Option (List Out))(n:Nat):T d9->Mem->List Mk->Option (List Out):=
 Nat.rec (λ_ _ _=>none) (λ_ ih env m k=>bnd (body env m k) λo=>bI.rec (ih o.env o.m o.marks) (λ_=>some [o]) (some [o]) o.x) n
def U3 (a:SC):SC:=λcf fuel ir env m k=>I4 (λenv m k=>a cf fuel ir env m k) fuel env m k
def rM (id:Nat):SC:=λ_ _ _ env m k=>ou (.exit id) env m k
def A9:SC:=λ_ _ _ env m k=>ou .ret env m k
def pU (b:Option O6)(f:LoopState->Option bI->T d9->List (Option Nat)->S9->S9->Option β):Option β:=match b with
 | some (.loop st pend env params assign body)=>f st pend env params assign body
 | _=>none
def Vl (cf:D7)(m:Mem)(args:List d9)(v:d9):eu:=La v λfn a b=>match fn with
 | .func f=>cf (.func f) (V8 a (V8 args b)) m
 | _=>none
def OQ (cf:D7)(f:d9)(params:List (Option Nat))(assign body:S9)(env:T d9)(m:Mem)(k:List Mk):Option (List Out):=
 bnd (Vl cf (m.new (.loop .ready none env params assign body)) [.func (.yield m.nx) [] []] f) λr=>bg r.v (λ_=>none) <|
  pU (r.m.get m.nx) λst pend _ _ _ _=>match st with
   | .busy=>none
   | _=>match pend with
    | none=>ou .normal env (r.m.set m.nx .dead) k
    | some x=>ou x env (r.m.set m.nx .dead) k
def Jg (f:OF)(params:List (Option Nat))(assign body:S9):SC:=λcf _ ir env m k=>
 Option.rec (OQ cf (f [] env) params assign body env (m.new .deferred) (.c m.nx::k))
  (λl=>pU (m.get l) λ_ _ _ _ _ _=>OQ cf (f [] env) params assign body env m k) ir
def Cm:S9->SC
 | .skip=>F9
 | .reg ops=>bif jo ops then Jf (bB ops) else j5 (bB (mO [] ops))
 | .dreg n ops=>bN n (uj ops)
 | .dreg2 n ops t=>j4 (bN n (uj ops)) (j5 (bB t))
 | .seq a b=>j4 (Cm a) (Cm b)
 | .cond c a b=>u7 (G6 c) (Cm a) (Cm b)
 | .block id a=>G8 id (Cm a)
 | .loop a=>U3 (Cm a)
 | .exit id=>rM id
 | .ret=>A9
 | .rangeFunc f params assign body=>Jg (G6 f) params assign body
def cO (js:List (Option Nat)):List d9->T d9->Option (T d9):=
 List.rec (λvs env=>List.rec (some env) (λ_ _ _=>none) vs) (λj _ ih vs env=>List.rec none (λv vs _=>ih vs (bW j v env)) vs) js
def results (rs:List pz)(env:T d9)(m:Mem):Option (List d9):=
 List.rec (some []) (λr _ ih=>ob (match r with
  | .tmp j=>T.get env j
  | .cell j size=>ob (T.get env j) λp=>gT p λid off=>Q6 (m.get id) λrs n rows=>match size with
   | none=>cell1 rs n rows off
   | some k=>ob (jR rs n rows off k) λl=>some (.agg l)) λv=>ob ih λl=>some (v::l)) rs
def result (l:List d9):d9:=List.rec (.tuple l) (λv t _=>List.rec v (λ_ _ _=>.tuple l) t) l
def Vm (b:Option O6)(k:Option β):Option β:=match b with
 | some .deferred=>k
 | _=>none
abbrev jV:=FuncId->List d9->Option d9->Mem->Option (List (Mem×Option d9))
def Vn (dcf:jV)(v:d9)(args:List d9)(md:Option d9)(m:Mem):Option (List (Mem×Option d9)):=La v λfn a b=>match fn with
 | .func f=>dcf f (V8 a (V8 args b)) md m
 | _=>none
def Dy (dcf:jV)(fin:Option d9->Mem->eu):List Mk->Option d9->Mem->eu:=
 List.rec (λmd m=>fin md m) (λx _ ih md m=>match x with
  | .c id=>Vm (m.get id) (ih md (m.set id .dead))
  | .d v args=>bnd (Vn dcf v args md m) λr=>ih r.2 r.1)
def xD (rs:List pz)(env:T d9)(md:Option d9)(m:Mem):eu:=
 Option.rec (ob (results rs env m) λl=>one (result l) m) (λx=>one (.mq x) m) md
def leave (dcf:jV)(rs:List pz)(o:Out):eu:=bI.rec (Dy dcf (xD rs o.env) o.marks none o.m) (λ_=>none) (Dy dcf (xD rs o.env) o.marks o.pv o.m) o.x
def roundEnd (l:Nat)(o:Out):eu:=match o.marks,o.pv with
 | _ :: _,_=>none
 | _,some _=>none
 | [],none=>pU (o.m.get l) λst pend env params assign body=>match st,pend with
  | .busy,none=>match o.x with
   | .normal=>one (.bool true) (o.m.set l (.loop .ready none env params assign body))
   | x=>one (.bool false) (o.m.set l (.loop .done (some x) env params assign body))
  | _,_=>none
mutual
def FT (lo:Nat):d9->List Nat
 | .ptr i _ | .slice i _ _ _ | .sliceU i _ _ _ | .map i=>bi (Nat.ble lo i) [i] []
 | .func _ a b=>tF lo a++tF lo b
 | .iface _ v=>FT lo v
 | .agg l=>tF lo l
 | .tuple l=>tF lo l
 | _=>[]
def tF (lo:Nat):List d9->List Nat
 | []=>[]
 | v::l=>FT lo v++tF lo l
end
inductive NB where
 | cells (rs:Nat) (rows:List (List d9))
 | map (es:List (d9×d9))
 | tail (p:Nat)
 | dead
 deriving Inhabited
def xE (b:O6):Option NB:=match b with
 | .cells rs n rows=>ob (rows.slice n 0) λl=>some (.cells rs l)
 | .map es=>some (.map es)
 | .tail p=>some (.tail p)
 | .dead=>some .dead
 | _=>none
def Li (lo:Nat):List (List d9)->List Nat
 | []=>[]
 | l::ls=>tF lo l++Li lo ls
def Vo (lo:Nat):List (d9×d9)->List Nat
 | []=>[]
 | e::es=>FT lo e.1++(FT lo e.2++Vo lo es)
def Lj (lo:Nat):NB->List Nat
 | .cells _ rows=>Li lo rows
 | .map es=>Vo lo es
 | .tail p=>bi (Nat.ble lo p) [p] []
 | .dead=>[]
def Gz (n:Nat)(l:List (Nat×NB)):Bool:=List.rec false (λx _ ih=>bi (Nat.beq x.1 n) true ih) l
def reach (m:Mem)(lo n:Nat):List Nat->List (Nat×NB)->Option (List (Nat×NB)):=
 Nat.rec (λ_ _=>none) (λ_ ih work seen=>List.rec (some seen.reverse) (λw ws _=>
  bi (Gz w seen) (ih ws seen) (ob (m.get w) λb=>ob (xE b) λnb=>ih (Lj lo nb++ws) ((w,nb)::seen))) work) n
def placeOf (i:Nat)(l:List Nat):Nat->Option Nat:=List.rec (λ_=>none) (λx _ ih k=>bi (Nat.beq x i) (some k) (ih (Nat.succ k))) l
mutual
def fA (r:Nat->Option Nat):d9->Option d9
 | .ptr i o=>ob (r i) λj=>some (.ptr j o)
 | .slice i o l c=>ob (r i) λj=>some (.slice j o l c)
 | .sliceU i o l c=>ob (r i) λj=>some (.sliceU j o l c)
 | .map i=>ob (r i) λj=>some (.map j)
 | .func fn a b=>match fn with
  | .yield _=>none
  | fn=>ob (kP r a) λx=>ob (kP r b) λy=>some (.func fn x y)
 | .iface t v=>ob (fA r v) λx=>some (.iface t x)
 | .agg l=>ob (kP r l) λx=>some (.agg x)
 | .tuple l=>ob (kP r l) λx=>some (.tuple x)
 | .mq _=>none
 | v=>some v
def kP (r:Nat->Option Nat):List d9->Option (List d9)
 | []=>some []
 | v::l=>ob (fA r v) λx=>ob (kP r l) λy=>some (x::y)
end
def ow (r:Nat->Option Nat):List (List d9)->Option (List (List d9))
 | []=>some []
 | l::ls=>ob (kP r l) λx=>ob (ow r ls) λy=>some (x::y)
def Cn (r:Nat->Option Nat):List (d9×d9)->Option (List (d9×d9))
 | []=>some []
 | e::es=>ob (fA r e.1) λx=>ob (fA r e.2) λy=>ob (Cn r es) λz=>some ((x,y)::z)
def pI (r:Nat->Option Nat):NB->Option NB
 | .cells rs rows=>ob (ow r rows) λx=>some (.cells rs x)
 | .map es=>ob (Cn r es) λx=>some (.map x)
 | .tail p=>ob (r p) λq=>some (.tail q)
 | .dead=>some .dead
def wM (r:Nat->Option Nat):List NB->Option (List NB)
 | []=>some []
 | p::l=>ob (pI r p) λx=>ob (wM r l) λy=>some (x::y)
structure CO where
 ids:List Nat
 vs:List d9
 bs:List NB
def wD (lo:Nat)(ids:List Nat)(i:Nat):Option Nat:=bi (Nat.ble lo i) (placeOf i ids lo) (some i)
def ji (lo:Nat)(vs:List d9)(m:Mem):Option CO:=
 ob (reach m lo 100000 (tF lo vs) []) λseen=>ob (kP (wD lo (seen.map (·.1))) vs) λxs=>ob (wM (wD lo (seen.map (·.1))) (seen.map (·.2))) λbs=>some ⟨seen.map (·.1),xs,bs⟩
def iU:NB->O6
 | .cells rs rows=>.cells rs (len' rows) (T.ofList rows)
 | .map es=>.map es
 | .tail p=>.tail p
 | .dead=>.dead
def layAll (bs:List NB):Mem->Mem:=List.rec (λm=>m) (λb _ ih m=>ih (m.new (iU b))) bs
def Ah:List (List d9)->List (List d9)->Bool
 | [],[]=>true
 | a::x,b::y=>bi (tC (aB 100) a b) (Ah x y) false
 | _,_=>false
def GA:List (d9×d9)->List (d9×d9)->Bool
 | [],[]=>true
 | a::x,b::y=>bi (aB 100 a.1 b.1) (bi (aB 100 a.2 b.2) (GA x y) false) false
 | _,_=>false
def Vp:NB->NB->Bool
 | .cells r a,.cells s b=>bi (Nat.beq r s) (Ah a b) false
 | .map a,.map b=>GA a b
 | .tail p,.tail q=>Nat.beq p q
 | .dead,.dead=>true
 | _,_=>false
def kZ:List NB->List NB->Bool
 | [],[]=>true
 | a::x,b::y=>bi (Vp a b) (kZ x y) false
 | _,_=>false
structure Br where
 v:d9
 bs:List NB
def Bt (lo:Nat)(r:VM):Option Br:=ob (ji lo [r.v] r.m) λc=>List.rec none (λv _ _=>some ⟨v,c.bs⟩) c.vs
def Jh (lo:Nat)(l:List VM):Option Br:=
 List.rec none (λr rs ih=>ob (Bt lo r) λa=>List.rec (some a) (λ_ _ _=>ob ih λb=>bi (aB 100 a.v b.v) (bi (kZ a.bs b.bs) (some a) none) none) rs) l
structure T9 where
 pure:Bool
 args:List (Option Nat)
 nslots:Nat
 results:List pz
 code:SC
 rcode:Option S9
structure Known where
 fns:FuncId->Option T9
 base:Mem
 sum:FuncId->List d9->List NB->Option Br
 eff:FuncId->List d9->Mem->eu
def lY (cf:D7)(dcf:jV)(fuel:Nat)(f:T9)(args:List d9)(m:Mem):eu:=
 ob (cO f.args args (T.rep .undef f.nslots .e 0)) λenv=>bnd (f.code cf fuel none env m []) (leave dcf f.results)
structure Ll where
 o:Out
 md:Option d9
def isRec (i:Inst):Bool:=match i.op,i.guard with
 | .e .recover,none=>true
 | _,_=>false
def OT:List Inst->Bool
 | []=>false
 | i::l=>isRec i||OT l
def wE:List Inst->D7->List d9->T d9->Mem->Option d9->Option (List (EM×Option d9))
 | [],_,_,env,m,md=>some [(⟨env,m,none,[]⟩,md)]
 | i::l,cf,ls,env,m,md=>match isRec i with
  | true=>match md with
   | some x=>wE l cf (x::ls) (bW i.dst x env) m none
   | none=>wE l cf (.nilIface::ls) (bW i.dst .nilIface env) m none
  | false=>match i.op with
   | .p o=>ob (FP i.guard (nN o) ls env) λv=>wE l cf (v::ls) (bW i.dst v env) m md
   | .r o=>ob (xA i.guard (rH o) ls env m) λv=>wE l cf (v::ls) (bW i.dst v env) m md
   | _=>none
def QK:S9->D7->Nat->T d9->Mem->Option d9->Option (List Ll)
 | .seq a b,cf,fuel,env,m,md=>bnd (QK a cf fuel env m md) λr=>match r.o.x with
  | .normal=>match r.o.marks with
   | []=>QK b cf fuel r.o.env r.o.m r.md
   | _=>none
  | _=>some [r]
 | .cond c a b,cf,fuel,env,m,md=>pK (G6 c [] env) λt=>bi t (QK a cf fuel env m md) (QK b cf fuel env m md)
 | .reg ops,cf,fuel,env,m,md=>match OT ops with
  | true=>bnd (wE ops cf [] env m md) λr=>some [⟨⟨.normal,r.1.env,r.1.m,[],none⟩,r.2⟩]
  | false=>bnd (Cm (.reg ops) cf fuel none env m []) λo=>some [⟨o,md⟩]
 | c,cf,fuel,env,m,md=>bnd (Cm c cf fuel none env m []) λo=>some [⟨o,md⟩]
def Vq (rs:List pz)(r:Ll):Option (List (Mem×Option d9)):=match r.o.x,r.o.marks,r.o.pv with
 | .exit _,_,_=>none
 | _,[],none=>ob (results rs r.o.env r.o.m) λ_=>some [(r.o.m,r.md)]
 | _,_,_=>none
def alR (cf:D7)(fuel:Nat)(f:T9)(args:List d9)(md:Option d9)(m:Mem):Option (List (Mem×Option d9)):=
 ob f.rcode λc=>ob (cO f.args args (T.rep .undef f.nslots .e 0)) λenv=>bnd (QK c cf fuel env m md) (Vq f.results)
def Mem.shut (m:Mem):Mem:=⟨m.t,m.nx,m.nx⟩
def sP (K:Known)(cf:D7)(fuel:Nat):jV:=λf args md m=>ob (K.fns f) λsf=>alR cf fuel sf args md m
def Bv (K:Known)(cf:D7)(fuel:Nat)(f:FuncId)(sf:T9)(args:List d9)(bs:List NB):Option Br:=
 Option.rec (ob (lY cf (sP K cf fuel) fuel sf args (layAll bs K.base).shut) λl=>Jh (layAll bs K.base).nx l) (λa=>some a) (K.sum f args bs)
def mU (g:Nat)(ids:List Nat)(next i:Nat):Option Nat:=
 bi (Nat.blt i g) (some i) (bi (Nat.blt (Nat.sub i g) (len' ids)) (pE (Nat.sub i g) ids) (some (Nat.add next (Nat.sub (Nat.sub i g) (len' ids)))))
def iW (K:Known)(cf:D7)(fuel:Nat)(f:FuncId)(sf:T9)(args:List d9)(m:Mem):eu:=
 ob (ji K.base.nx args m) λc=>ob (Bv K cf fuel f sf c.vs c.bs) λa=>ob (fA (mU K.base.nx c.ids m.nx) a.v) λv=>ob (wM (mU K.base.nx c.ids m.nx) a.bs) λbs=>one v (layAll bs m)
def Ji (cf:D7)(fuel l:Nat)(args:List d9)(m:Mem):eu:=
 bi (Nat.blt l m.lim) none (pU (m.get l) λst pend env params assign body=>match st,pend with
  | .ready,none=>ob (cO params args env) λenv1=>bnd (Cm assign cf fuel (some l) env1 m []) λo=>match o.x,o.marks with
   | .normal,[]=>pU (o.m.get l) λst2 pend2 env2 params2 assign2 body2=>match st2,pend2 with
    | .ready,none=>bnd (Cm body cf fuel (some l) o.env (o.m.set l (.loop .busy none env2 params2 assign2 body2)) []) (roundEnd l)
    | _,_=>none
   | _,_=>none
  | _,_=>none)
def j6 (K:Known)(fuel n:Nat):D7:=
 Nat.rec (λ_ _ _=>none) (λ_ ih fn args m=>match fn with
  | .func f=>Option.rec (ob (K.fns f) λsf=>bi sf.pure (iW K ih fuel f sf args m) (lY ih (sP K ih fuel) fuel sf args m)) (λl=>some l) (K.eff f args m)
  | .yield l=>Ji ih fuel l args m
  | _=>none) n
mutual
def ofValue:Value->Option d9
 | .bool b=>some (.bool b)
 | .int k n=>some (.int k n)
 | .string s=>some (.str s.data.toList)
 | .pointer none=>some .nilPtr
 | .slice none 0 0=>some .nilSlice
 | .map none=>some .nilMap
 | .func (.func f) ⟨[]⟩ ⟨[]⟩=>some (.func (.func f) [] [])
 | .nilFunc=>some .nilFunc
 | .nilIface=>some .nilIface
 | .agg ⟨l⟩=>match ofValues l with
  | some x=>some (.agg x)
  | none=>none
 | .tuple ⟨[]⟩=>some (.tuple [])
 | _=>none
def ofValues:List Value->Option (List d9)
 | []=>some []
 | v::l=>match ofValue v,ofValues l with
  | some x,some y=>some (x::y)
  | _,_=>none
end
section
variable (P:Program)
def aH (t:TypeId):Option Nat:=(P.info? t).map (·.size)
def fK (t:TypeId):Option Nat:=(P.info? t).map (·.bytes)
def wF (t:TypeId):Option Bool:=match P.underlying t with
 | some (.struct _) | some (.array _ _)=>some true
 | some _=>some false
 | none=>none
def partT (t:TypeId):Option (Option Nat):=match wF P t,aH P t with
 | some true,some n=>some (some n)
 | some false,some _=>some none
 | _,_=>none
def qG (t:TypeId):Option (List d9):=match (P.info? t).bind (·.zero) with
 | some z=>match ofValue z with
  | some a=>some a.cells
  | none=>none
 | none=>none
def zeroV (t:TypeId):Option d9:=match (P.info? t).bind (·.zero) with
 | some z=>ofValue z
 | none=>none
def oz (f:TypeId->Option (List PK)):List Field->Nat->Option (List PK)
 | [],_=>some []
 | fd::l,off=>if fd.name≠ "_"∧fd.offset=off then match f fd.type with
   | some ks=>match oz f l (off+ks.length) with
    | some r=>some (ks++r)
    | none=>none
   | none=>none
  else none
def fB:Nat->TypeId->Option (List PK)
 | 0,_=>none
 | d+1,t=>match P.underlying t with
  | some .bool=>if aH P t=some 1 then some [.b] else none
  | some (.int _)=>if aH P t=some 1 then some [.i] else none
  | some .string=>if aH P t=some 1 then some [.s] else none
  | some (.struct fs)=>match oz (fB d) fs.toList 0 with
   | some ks=>if P.stoodInHeld t=false∧aH P t=some ks.length then some ks else none
   | none=>none
  | _=>none
def Vr (cst:Bool)(t:TypeId):Option Aa:=match P.underlying t with
 | some .bool=>some (.prim .b)
 | some (.int _)=>some (.prim .i)
 | some .string=>some (.prim .s)
 | some (.struct _)=>match fB P 10 t with
  | some k=>if P.eqGuardType P.depth t=false then some (.flat k) else none
  | none=>none
 | some (.pointer e)=>match aH P e with
  | some _=>some .ptr
  | none=>none
 | some (.slice _)=>some .slice
 | some (.map _ _)=>some .map
 | some (.func ..)=>some .func
 | some (.interface _)=>if cst then some .iface else none
 | _=>none
def Ze (t:TypeId):Option Aa:=match P.underlying t with
 | some (.array n e)=>match P.underlying e with
  | some (.int _)=>if aH P e=some 1∧P.eqGuardType P.depth t=false then some (.flat (List.replicate n .i)) else none
  | _=>none
 | _=>none
def Vs (cst:Bool)(t:TypeId):Option Aa:=match Vr P cst t with
 | some k=>some k
 | none=>Ze P t
def Co (t:TypeId):Option (List d9):=match qG P t,aH P t with
 | some z,some k=>if z.length=k then some z else none
 | _,_=>none
def abO (t:TypeId):Bool:=match P.info? t with
 | some {desc:=.named n _,..}=>n == "strings.Builder"
 | _=>false
def OU (t:TypeId):Bool:=abO P t||(match P.underlying t with
 | some (.struct fs)=>fs.toList.any λf=>abO P f.type
 | _=>false)
def Lm (u:TypeId):List (Nat×Nat):=(List.range P.types.size).flatMap λty=>if OU P ty&&P.cellsOf ty != 0 then
 ((if liesAt P P.depth ty 1 0 u 1 then [(ty,0)] else [])++(match P.underlying ty with
  | some (.struct fs)=>fs.toList.flatMap λf=>if f.offset≠0∧liesAt P P.depth ty 1 f.offset u 1 then [(ty,f.offset)] else []
  | _=>[])) else []
def Bw (e:TypeId):Bool:=(match P.underlying e with
 | some (.int .u8)=>true
 | _=>false)&&aH P e==some 1&&fK P e==some 1&&(Co P e).isSome
def tH (t:TypeId):Option Aa:=match Vr P false t with
 | some (.prim j)=>some (.prim j)
 | some (.flat ks)=>some (.flat ks)
 | _=>none
end
def idxOf (t:Nat):List Nat->Nat->Option Nat
 | [],_=>none
 | x::l,i=>bif Nat.beq x t then some i else idxOf t l (i+1)
def iP (t:Nat):List (Option Nat)->Nat->Option Nat
 | [],_=>none
 | some x::l,i=>bif Nat.beq x t then some i else iP t l (i+1)
 | none::l,i=>iP t l (i+1)
section
variable (P:Program)(slots:List Nat)(done:List (Option Nat))
def K7:Operand->Option O8
 | .tmp t=>match iP t done 0 with
  | some k=>some (.loc k)
  | none=>match idxOf t slots 0 with
   | some j=>some (.slot j)
   | none=>none
 | .const v=>match ofValue v with
  | some a=>some (.con a)
  | none=>none
 | .global g=>if g<P.globals.size then some (.con (.ptr g 0)) else none
 | .func f=>some (.con (.func (.func f) [] []))
def jF:List Operand->Option (List O8)
 | []=>some []
 | x::l=>match K7 P slots done x,jF l with
  | some a,some b=>some (a::b)
  | _,_=>none
def cOpt:Option Operand->Option (Option O8)
 | none=>some none
 | some x=>match K7 P slots done x with
  | some a=>some (some a)
  | none=>none
def wN:Operand->Bool
 | .const _=>true
 | _=>false
def um (place:Nat->Option (Nat×Nat)):List (Nat×Operand)->Option (List (Nat×Nat×O8))
 | []=>some []
 | p::l=>match place p.1,K7 P slots done p.2,um place l with
  | some (o,s),some x,some r=>some ((o,s,x)::r)
  | _,_,_=>none
def placesOf:List Field->Option (List (Nat×Nat))
 | []=>some []
 | f::l=>match aH P f.type,placesOf l with
  | some s,some r=>some ((f.offset,s)::r)
  | _,_=>none
def xG (t:TypeId)(parts:List (Nat×Operand)):Option yI:=
 match qG P t,P.underlying t with
 | some zero,some (.struct fields)=>match placesOf P fields.toList with
  | some pl=>match um P slots done (λi=>pl[i]?) parts with
   | some ps=>some (.p (.build zero ps))
   | none=>none
  | none=>none
 | some zero,some (.array _ elem)=>match aH P elem with
  | some s=>match um P slots done (λi=>some (i*s,s)) parts with
   | some ps=>some (.p (.build zero ps))
   | none=>none
  | none=>none
 | _,_=>none
def ad8:TypeDesc->Bool
 | .string=>true
 | _=>false
def uo (b:Builtin)(ts:List TypeId)(args:List Operand):Option yI:=do
 match b,ts,args with
 | .len,[t],[x]=>match ← P.underlying t with
  | .string=>do pure (.p (.dU (← K7 P slots done x)))
  | .slice _=>do pure (.p (.len (← K7 P slots done x)))
  | .array n _=>pure (.p (.mov (.con (.int .i64 n))))
  | .map _ _=>do pure (.r (.lenM (← K7 P slots done x)))
  | _=>none
 | .cap,[t],[x]=>match ← P.underlying t with
  | .slice _=>do pure (.p (.cap (← K7 P slots done x)))
  | _=>none
 | .append,[t,u],[s,x]=>match ← P.underlying t with
  | .slice e=>do
   let d ← P.underlying u
   let zs:=match d with | .int _=>true | _=>false
   if ad8 d&&Bw P e then pure (.e (.appB e (← K7 P slots done s) (← K7 P slots done x)))
   else pure (.e (.app (← aH P e) zs (← Co P e) (← fK P e) (← K7 P slots done s) (← K7 P slots done x)))
  | _=>none
 | .copy,[t,_],[d,s]=>match ← P.underlying t with
  | .slice e=>do pure (.e (.copy (← aH P e) (← K7 P slots done d) (← K7 P slots done s)))
  | _=>none
 | .clear,[t],[x]=>match ← P.underlying t with
  | .slice e=>do pure (.e (.clear (← qG P e) (← K7 P slots done x)))
  | _=>none
 | .max,_,x::xs=>do pure (.p (.mm true (← K7 P slots done x) (← jF P slots done xs)))
 | .min,_,x::xs=>do pure (.p (.mm false (← K7 P slots done x) (← jF P slots done xs)))
 | .recover,[],[]=>pure (.e .recover)
 | .unsafeSliceData,[t],[x]=>match ← P.underlying t with
  | .slice _=>do pure (.r (.slData (← K7 P slots done x)))
  | _=>none
 | .unsafeString,[t,_],[p,n]=>match ← P.underlying t with
  | .pointer e=>do if Bw P e then pure (.e (.ustr e (← K7 P slots done p) (← K7 P slots done n))) else none
  | _=>none
 | _,_,_=>none
def fV (o:Op):Option yI:=do
 let r:=K7 P slots done
 match o with
 | .move x | .assign x=>pure (.p (.mov (← r x)))
 | .pick c a b=>pure (.p (.pick (← r c) (← r a) (← r b)))
 | .alloc t=>if OU P t then do pure (.a (.allocT t (← Co P t))) else do pure (.a (.alloc (← qG P t)))
 | .box t x=>if OU P t then do pure (.a (.boxT t (← aH P t) (← r x))) else do pure (.a (.box (← r x)))
 | .build t parts=>xG P slots done t parts.toList
 | .buildSlice t len parts=>match ← P.underlying t with
  | .slice e=>do
   let es ← aH P e
   let ps ← um P slots done (λi=>some (i*es,es)) parts.toList
   if len*es<=16777216 then pure (.a (.buildSlice es len (← qG P e) ps)) else none
  | _=>none
 | .load t a=>pure (.r (.load (← partT P t) (← r a)))
 | .store t a x=>pure (.e (.store (← aH P t) (← r a) (← r x)))
 | .nilCheck x=>pure (.p (.nilCheck (← r x)))
 | .binOp op t x y _=>match op with
  | .eql | .neq=>do
   let k ← Vs P (wN x||wN y) t
   let neg:=match op with | .neq=>true | _=>false
   match k with
   | .prim .i=>pure (.p (.ib op (← r x) (← r y)))
   | .prim .s=>pure (.p (.ib op (← r x) (← r y)))
   | k=>pure (.p (.eq neg k (← r x) (← r y)))
  | _=>pure (.p (.ib op (← r x) (← r y)))
 | .unOp op _ x=>match op with
  | .not=>do pure (.p (.not (← r x)))
  | .neg=>do pure (.p (.neg (← r x)))
  | .xor=>do pure (.p (.inv (← r x)))
  | _=>none
 | .convert s d x=>match ← P.underlying s,← P.underlying d with
  | .int _,.int k=>do pure (.p (.conv k (← r x)))
  | .string,.slice e=>match ← P.underlying e with
   | .int .u8=>do pure (.a (.strBytes (← r x)))
   | _=>none
  | .slice e,.string=>match ← P.underlying e with
   | .int .u8=>do pure (.r (.bytesStr (← r x)))
   | _=>none
  | .pointer t,.unsafePointer=>match ← aH P t with
   | 0=>none
   | _=>do pure (.r (.toUns (← r x)))
  | .unsafePointer,.pointer u=>match ← aH P u with
   | 0=>none
   | _=>do pure (.r (.fromUns (Lm P u) (← r x)))
  | _,_=>none
 | .makeInterface t x=>match ← P.underlying t with
  | .interface _=>none
  | _=>do pure (.p (.mkIface t (← r x)))
 | .makeFunc fn a b=>match fn with
  | .func f=>do pure (.p (.mkFunc (.func f) (← jF P slots done a.toList) (← jF P slots done b.toList)))
  | _=>none
 | .makeMap t res=>match res with
  | none=>pure (.a .mkMap)
  | some (.const (.int _ _))=>match P.underlying t with
   | some (.map _ _)=>pure (.a .mkMap)
   | _=>none
  | _=>none
 | .makeSlice t l c=>match ← P.underlying t with
  | .slice e=>do pure (.a (.mkSlice (← aH P e) (← fK P e) (← Co P e) (← r l) (← r c)))
  | _=>none
 | .slice t x lo hi none=>match ← P.underlying t with
  | .string=>do pure (.p (.slStr (← r x) (← cOpt P slots done lo) (← cOpt P slots done hi)))
  | .slice e=>do pure (.a (.sl (← aH P e) (← r x) (← cOpt P slots done lo) (← cOpt P slots done hi)))
  | .array n e=>do pure (.p (.slArr (← aH P e) n (← r x) (← cOpt P slots done lo) (← cOpt P slots done hi)))
  | _=>none
 | .fieldAddr s x f=>match ← P.underlying s with
  | .struct fs=>do
   let fd ← fs[f]?
   let sz ← aH P fd.type
   if sz=0 then none else pure (.p (.fAddr fd.offset (← r x)))
  | _=>none
 | .field s x f=>match ← P.underlying s with
  | .struct fs=>do
   let fd ← fs[f]?
   pure (.p (.fld fd.offset (← partT P fd.type) (← r x)))
  | _=>none
 | .indexAddr t x i=>match ← P.underlying t with
  | .slice e=>do pure (.p (.iAddr (← aH P e) (← r x) (← r i)))
  | .array n e=>do pure (.p (.iAddrArr (← aH P e) n (← r x) (← r i)))
  | _=>none
 | .index t x i=>match ← P.underlying t with
  | .string=>do pure (.p (.iStr (← r x) (← r i)))
  | .array n e=>do pure (.p (.iArr (← aH P e) n (← partT P e) (← r x) (← r i)))
  | _=>none
 | .lookup t x k ok=>match ← P.underlying t with
  | .map kt e=>do pure (.r (.look (← tH P kt) (← zeroV P e) ok (← r x) (← r k)))
  | _=>none
 | .mapUpdate t m k x | .insert t m k x=>match ← P.underlying t with
  | .map kt _=>do pure (.e (.mapSet (← tH P kt) (← r m) (← r k) (← r x)))
  | _=>none
 | .range t x=>match ← P.underlying t with
  | .map _ _=>do pure (.e (.range (← r x)))
  | .string=>do pure (.e (.rangeS (← r x)))
  | _=>none
 | .next it false=>pure (.e (.next (← r it)))
 | .next it true=>pure (.e (.nextS (← r it)))
 | .entry it=>pure (.r (.entry (← r it)))
 | .extract x i=>pure (.p (.ext (← r x) i))
 | .typeAssert x _ t ok=>match ← P.underlying t with
  | .interface _=>none
  | _=>do pure (.p (.assert t (← zeroV P t) ok (← r x)))
 | .panic x=>pure (.e (.panic (← r x)))
 | .defer c=>match c.callee with
  | .value f=>do pure (.e (.defer (← r f) (← jF P slots done c.args.toList)))
  | _=>none
 | .call c=>match c.callee with
  | .builtin b=>uo P slots done b c.argTypes.toList c.args.toList
  | .value (.func f)=>do
   let fn ← P.funcs[f]?
   if fn.body.isSome&&fn.name != "runtime.NumGoroutine" then pure (.e (.call f (← jF P slots done c.args.toList)))
   else if fn.body.isNone&&fn.name == "internal/abi.NoEscape" && (Extern.findNext fn).isNone then match c.args.toList with
    | [x]=>do pure (.p (.mov (← r x)))
    | _=>none
   else none
  | .value f=>do pure (.e (.callv (← r f) (← jF P slots done c.args.toList)))
  | _=>none
 | _=>none
def FU:Option Tmp->Option Nat
 | none=>none
 | some t=>idxOf t slots 0
def kQ (o:Op):yI:=match fV P slots done o with
 | some a=>a
 | none=>.e .bad
def pV (ops:Array Oper)(i:Nat):Option (Inst×Option Nat):=do
 let o ← ops[i]?
 let a:=kQ P slots done o.op
 let g ← match o.guard with
  | none=>pure none
  | some (j,w)=>do
   let og ← ops[j]?
   let d ← og.dst
   let k ← iP d done 0
   pure (some (O8.loc k,w))
 pure (⟨a,FU slots o.dst,g⟩,o.dst)
end
def jW (P:Program)(slots:List Nat)(ops:Array Oper):List (Option Nat)->List Nat->Option (List Inst)
 | _,[]=>some []
 | done,i::rest=>match pV P slots done ops i with
  | some (x,d)=>match jW P slots ops (d::done) rest with
   | some l=>some (x::l)
   | none=>none
  | none=>none
def bitsOf (e:Array Edge)(acc:List Nat):Nat:=
 e.toList.foldl (λs x=>if Region.binds .any x then s ||| (1 <<< x.on) ||| (acc.getD x.on 0) else s) 0
def masks (ops:List Oper):List Nat:=ops.foldl (λacc o=>acc ++ [bitsOf o.after acc]) []
def OV (ms:List Nat)(i j:Nat):Bool:=Nat.testBit (ms.getD i 0) j
def agS:Op->Bool
 | .store .. | .mapUpdate .. | .insert .. | .range .. | .next .. | .mapEntry .. | .entryStore .. | .panic _ | .defer _ | .typeAssert ..=>true
 | .call {callee:=.builtin b,..}=>match b with
  | .append | .copy | .clear | .delete | .unsafeString=>true
  | _=>false
 | .call _=>true
 | _=>false
def Dz (ops:Array Oper)(i:Nat):Bool:=
 match ops[i]? with
 | some o=>agS o.op
 | none=>false
def canon (eff:Nat->Bool)(ms:List Nat)(n:Nat):List Nat:=
 let effs:=(List.range n).filter eff
 let step (acc:List Nat) (e:Nat):List Nat:=acc++(List.range n).filter (λi=>!acc.contains i&&OV ms e i) ++ [e]
 let acc:=effs.foldl (λacc e=>if acc.contains e then acc else step acc e) []
 acc++(List.range n).filter (λi=>!acc.contains i)
def R3 (x:Inst):Bool:=match x.op with
 | .e _=>true
 | _=>false
def isA (x:Inst):Bool:=match x.op with
 | .a _=>true
 | _=>false
def isR (x:Inst):Bool:=match x.op with
 | .r _=>true
 | _=>false
def ad9 (ms:List Nat)(i:Nat)(x:Inst)(effs:List Nat)(nal:Nat):Nat:=
 if isR x then (effs.takeWhile λe=>!OV ms i e).length else nal
def numbered (ms:List Nat):List (Nat×Inst)->List Nat->Nat->List (Nat×Inst)
 | [],_,_=>[]
 | (i,x)::rest,effs,nal=>(ad9 ms i x effs nal,x)::numbered ms rest (if R3 x then i::effs else effs) (if isA x then nal+1 else nal)
def xH (ops:Array Oper)(o:Oper):List Nat:=
 (o.op.operands.toList.filterMap fun | .tmp t=>some t | _=>none) ++
 (match o.guard with
  | some (g,_)=>((ops[g]?).bind (·.dst)).toList
  | none=>[])
def Lr:List Nat->Bool
 | []=>true
 | x::l=>!l.contains x&&Lr l
def Jj:List Inst->Nat
 | []=>0
 | x::l=>(if isA x then 1 else 0)+Jj l
def QL (ms:List Nat)(i:Nat)(before:List (Nat×Inst)):O8->Bool
 | .loc k=>match before[k]? with
  | some y=>OV ms i y.1
  | none=>false
 | .slot j=>before.all λy=>y.2.dst != some j
 | .con _=>true
def uq (ms:List Nat)(ops:Array Oper)(i:Nat)(x:Inst)(before:List (Nat×Inst)):Bool:=
 (match x.op with
  | .e _=>before.all λy=>OV ms i y.1
  | _=>true) &&
 (match ops[i]? with
  | some o=>(o.after.toList.all λe=>!Region.binds .any e||before.any λy=>y.1==e.on) &&
   ((xH ops o).all λt=>(List.range ops.size).all λq=>q==i||(match ops[q]? with
    | some oq=>oq.dst != some t
    | none=>true)||OV ms i q||OV ms q i)
  | none=>false) &&
 ((Dl x.op).all λy=>QL ms i before y) &&
 (match x.guard with
  | some (y,_)=>QL ms i before y
  | none=>true)
def vL (ms:List Nat)(ops:Array Oper):List (Nat×Inst)->List (Nat×Inst)->Bool
 | [],_=>true
 | y::rest,before=>uq ms ops y.1 y.2 before&&vL ms ops rest (y::before)
def Vt (ms:List Nat)(ops:Array Oper)(ord:List Nat)(insts:List Inst):Bool:=
 Lr ord&&(ord.all λi=>Nat.blt i ops.size)&&((List.range ops.size).all λi=>ord.contains i)&&Lr (ops.toList.filterMap (·.dst))&&vL ms ops (ord.zip insts) []
def yO (P:Program)(slots:List Nat)(ops:Array Oper):Option S9:=
 match jW P slots ops [] (canon (Dz ops) (masks ops.toList) ops.size) with
 | none=>none
 | some insts=>
  if Vt (masks ops.toList) ops (canon (Dz ops) (masks ops.toList) ops.size) insts then
   some (.dreg (Jj insts) (numbered (masks ops.toList) ((canon (Dz ops) (masks ops.toList) ops.size).zip insts) [] 0))
  else none
def Ls:O8->Bool
 | .loc _=>false
 | _=>true
def Jk (ms:List Nat)(ops:Array Oper):Bool:=
 Nat.ble 3 ops.size &&
 ((List.range ops.size).all λi=>match ops[i]? with
  | some o=>(o.after.toList.all λe=>!Region.binds .any e||Nat.blt e.on i)&&o.guard.isNone
  | none=>false) &&
 ((List.range (ops.size-3)).all λj=>OV ms (ops.size-3) j&&OV ms (ops.size-2) j&&OV ms (ops.size-1) j) &&
 OV ms (ops.size-2) (ops.size-3)
def CS (x y z:Option (Inst×Option Nat))(n:Nat)(l:List (Nat×Inst)):Option S9:=
 match x,y,z with
 | some (⟨.p po,none,none⟩,_),some (⟨.e (.store s (.loc 0) v),none,none⟩,none),some (⟨.e (.store s' a' v'),none,none⟩,none)=>if Ls a'&&Ls v' then some (.dreg2 n l [⟨.p po,none,none⟩,⟨.e (.store s (.loc 0) v),none,none⟩,⟨.e (.storeAp s' a' v' (.loc 1)),none,none⟩]) else none
 | _,_,_=>none
def QM:Option Oper->Bool
 | some o=>match o.op with
  | .store ..=>true
  | _=>false
 | none=>false
def splits (ops:Array Oper):Bool:=QM ops[ops.size-1]? && QM ops[ops.size-2]? && !OV (masks ops.toList) (ops.size-1) (ops.size-2)
def DF (P:Program)(slots:List Nat)(ops:Array Oper):Option S9:=
 match yO P slots (ops.extract 0 (ops.size-3)) with
 | some (.dreg n l)=>
  if Jk (masks ops.toList) ops then
   CS (pV P slots [] ops (ops.size-3)) (pV P slots [(ops[ops.size-3]?).bind (·.dst)] ops (ops.size-2)) (pV P slots [] ops (ops.size-1)) n l
  else none
 | _=>none
def Q0 (P:Program)(slots:List Nat):Code->Option S9
 | .skip=>some .skip
 | .region _ ops false=>match jW P slots ops [] (List.range ops.size) with
  | some l=>some (.reg l)
  | none=>none
 | .region _ ops true=>if splits ops then DF P slots ops else yO P slots ops
 | .seq a b=>match Q0 P slots a,Q0 P slots b with
  | some x,some y=>some (.seq x y)
  | _,_=>none
 | .cond c a b=>match K7 P slots [] c,Q0 P slots a,Q0 P slots b with
  | some z,some x,some y=>some (.cond z x y)
  | _,_,_=>none
 | .block id a=>match Q0 P slots a with
  | some x=>some (.block id x)
  | none=>none
 | .loop a=>match Q0 P slots a with
  | some x=>some (.loop x)
  | none=>none
 | .exit id=>some (.exit id)
 | .ret=>some .ret
 | .rangeFunc f ps a b=>match K7 P slots [] f,Q0 P slots a,Q0 P slots b with
  | some z,some x,some y=>some (.rangeFunc z (ps.toList.map λt=>idxOf t slots 0) x y)
  | _,_,_=>none
 | .refuse _=>some (.reg [⟨.e .bad,none,none⟩])
 | _=>none
def tmpsIn (nt:Nat):Code->Bool
 | .region _ ops _=>ops.toList.all λo=>match o.dst with
  | some t=>Nat.blt t nt
  | none=>true
 | .seq a b=>tmpsIn nt a&&tmpsIn nt b
 | .cond _ a b=>tmpsIn nt a&&tmpsIn nt b
 | .block _ a=>tmpsIn nt a
 | .loop a=>tmpsIn nt a
 | .rangeFunc _ _ a b=>tmpsIn nt a&&tmpsIn nt b
 | _=>true
def Cq (P:Program)(slots:List Nat):List ResultVar->Option (List pz)
 | []=>some []
 | .tmp t::l=>match idxOf t slots 0,Cq P slots l with
  | some j,some r=>some (.tmp j::r)
  | _,_=>none
 | .cell t ty::l=>match idxOf t slots 0,partT P ty,Cq P slots l with
  | some j,some s,some r=>some (.cell j s::r)
  | _,_,_=>none
def OW (P:Program)(slots:List Nat)(f:FuncId):Option AFn:=
 match P.funcs[f]? with
 | none=>none
 | some fn=>match fn.body with
  | none=>none
  | some c=>match Q0 P slots c,Cq P slots fn.results.toList with
   | some b,some r=>
    if tmpsIn fn.ntmps c&&(slots.all λt=>Nat.blt t fn.ntmps)&&Nat.blt slots.length 1152921504606846976&&fn.name != "runtime.NumGoroutine" then
     some ⟨fn.params.size+fn.nfree,(List.range (fn.params.size+fn.nfree)).map λt=>idxOf t slots 0,slots.length,r,b⟩
    else none
   | _,_=>none
section
variable {α β γ:Type}
@[simp] theorem K4 (a:α)(k:α->Option β):ob (some a) k=k a:=rfl
@[simp] theorem akh (k:α->Option β):ob none k=none:=rfl
theorem u6 {o:Option α}{k:α->Option β}{b:β}(h:ob o k=some b):∃a,o=some a∧k a=some b:=by
 cases o with
 | none=>simp at h
 | some a=>exact⟨a,rfl,h⟩
@[simp] theorem R4 (x y:α):bi true x y=x:=rfl
@[simp] theorem O9 (x y:α):bi false x y=y:=rfl
theorem C8 {b:Bool}{x:Option α}{a:α}(h:bi b x none=some a):b=true∧x=some a:=by
 cases b with
 | true=>exact⟨rfl,h⟩
 | false=>simp at h
theorem jX {b:Bool}{x:Option α}{a:α}(h:bi b none x=some a):b=false∧x=some a:=by
 cases b with
 | true=>simp at h
 | false=>exact⟨rfl,h⟩
end
namespace T
variable {α:Type}
@[simp] theorem apN (i:Nat):(T.e:T α).get i=none:=rfl
@[simp] theorem agT (l:T α)(x:α)(r:T α):(T.nd l x r).get 0=some x:=rfl
theorem dB (l:T α)(x:α)(r:T α)(i:Nat):(T.nd l x r).get (i+1)=if i%2=0 then l.get (i / 2) else r.get (i / 2):=by show (Nat.rec (l.get (Nat.div i 2)) (λ_ _=>r.get (Nat.div i 2)) (Nat.mod i 2):Option α)=_;have h:Nat.mod i 2=i%2:=rfl;rcases aaY i with h0 | h1;rw [h,h0];rfl;rw [h,h1];rfl
@[simp] theorem agU (i:Nat)(x:α):(T.e:T α).put i x=.nd .e x .e:=rfl
@[simp] theorem Lu (l:T α)(y:α)(r:T α)(x:α):(T.nd l y r).put 0 x=.nd l x r:=rfl
theorem V3 (l:T α)(y:α)(r:T α)(i:Nat)(x:α):(T.nd l y r).put (i+1) x=if i%2=0 then .nd (l.put (i / 2) x) y r else .nd l y (r.put (i / 2) x):=by show (Nat.rec (T.nd (l.put (Nat.div i 2) x) y r) (λ_ _=>T.nd l y (r.put (Nat.div i 2) x)) (Nat.mod i 2):T α)=_;have h:Nat.mod i 2=i%2:=rfl;rcases aaY i with h0 | h1;rw [h,h0];rfl;rw [h,h1];rfl
inductive Ok:T α->Nat->Prop
 | e:Ok .e 0
 | nd {l r:T α} {x:α} {n:Nat} (hl:Ok l ((n+1) / 2)) (hr:Ok r (n / 2)):Ok (.nd l x r) (n+1)
theorem Ok.get {t:T α}{n:Nat}(h:Ok t n):∀i,(∃x,t.get i=some x)↔i<n:=by
 induction h with
 | e=>intro i;simp
 | @nd l r x n hl hr ihl ihr=>
  intro i;cases i with
  | zero=>simp
  | succ i=>rw [dB];split;rw [ihl];omega;rw [ihr];omega
theorem Ok.put {t:T α}{n:Nat}(h:Ok t n):∀i (x:α),i<n->Ok (t.put i x) n:=by
 induction h with
 | e=>intro i x a;omega
 | @nd l r y n hl hr ihl ihr=>
  intro i x a;cases i with
  | zero=>exact .nd hl hr
  | succ i=>rw [V3];split;exact .nd (ihl _ _ (by omega)) hr;exact .nd hl (ihr _ _ (by omega))
theorem Ok.push {t:T α}{n:Nat}(h:Ok t n):∀(x:α),Ok (t.put n x) (n+1):=by
 induction h with
 | e=>intro x;exact .nd .e .e
 | @nd l r y n hl hr ihl ihr=>intro x;rw [V3];split;rename_i a;refine .nd ?_ ?_;have:=ihl x;rw [show (n+1) / 2=n / 2 from by omega] at this;rw [show (n+1+1) / 2=n / 2+1 from by omega];exact this;rw [show (n+1) / 2=n / 2 from by omega];exact hr;rename_i a;refine .nd ?_ ?_;rw [show (n+1+1) / 2=(n+1) / 2 from by omega];exact hl;have:=ihr x;rw [show (n+1) / 2=n / 2+1 from by omega];exact this
theorem aT {t:T α}{n:Nat}(h:Ok t n):∀i (x:α),i<=n->(t.put i x).get i=some x:=by
 induction h with
 | e=>intro i x b;obtain rfl:i=0:=by omega
      rfl
 | @nd l r y n hl hr ihl ihr=>
  intro i x b;cases i with
  | zero=>rfl
  | succ i=>rw [V3];split;rename_i a;rw [dB,if_pos a];exact ihl _ _ (by omega);rename_i a;rw [dB,if_neg a];exact ihr _ _ (by omega)
theorem bA {t:T α}{n:Nat}(h:Ok t n):∀i j (x:α),i<=n->i≠j->(t.put i x).get j=t.get j:=by
 induction h with
 | e=>
  intro i j x b d;obtain rfl:i=0:=by omega
  cases j with
  | zero=>omega
  | succ j=>rw [agU,dB];simp
 | @nd l r y n hl hr ihl ihr=>
  intro i j x b c;cases i with
  | zero=>
   cases j with
   | zero=>omega
   | succ j=>rw [Lu,dB,dB]
  | succ i=>
   rw [V3];cases j with
   | zero=>split<;>rfl
   | succ j=>split;rename_i a;rw [dB,dB];split;exact ihl _ _ _ (by omega) (by omega);rfl;rename_i a;rw [dB,dB];split;rfl;exact ihr _ _ _ (by omega) (by omega)
theorem sQ (x:α)(l:List α)(t:T α)(i:Nat):nX (x::l) t i=nX l (t.put i x) (i+1):=rfl
theorem FV (l:List α):∀(t:T α) (i:Nat),Ok t i->Ok (nX l t i) (i+l.length):=by
 induction l with
 | nil=>intro t i h;exact h
 | cons x l ih=>intro t i h;rw [sQ,Y1,show i+(l.length+1)=i+1+l.length from by omega];exact ih _ _ (h.push x)
theorem DI (l:List α):∀(t:T α) (i:Nat),Ok t i->∀j,(nX l t i).get j=if j<i then t.get j else l[j-i]?:=by
 induction l with
 | nil=>
  intro t i h j;show t.get j=_;split;rfl;rename_i a;cases hg:t.get j with
  | none=>simp
  | some x=>exact absurd ((h.get j).1 ⟨x,hg⟩) a
 | cons x l ih=>intro t i h j;rw [sQ,ih _ _ (h.push x)];by_cases h1:j<i;rw [if_pos (by omega),if_pos h1,bA h _ _ _ (J2 _) (by omega)];by_cases h2:j=i;subst h2;rw [if_pos (by omega),aT h _ _ (J2 _)];simp;rw [if_neg (by omega),if_neg h1,show j-i=(j-(i+1))+1 from by omega];simp
theorem aC (l:List α)(j:Nat):(ofList l).get j=l[j]?:=by have:=DI l .e 0 .e j;simpa [ofList] using this
theorem eB (l:List α):Ok (ofList l) l.length:=by have:=FV l .e 0 .e;simpa [ofList] using this
theorem DJ (x:α)(n:Nat)(t:T α)(i:Nat):rep x (n+1) t i=rep x n (t.put i x) (i+1):=rfl
theorem OX (x:α)(n:Nat):∀(t:T α) (i:Nat),Ok t i->Ok (rep x n t i) (i+n):=by
 induction n with
 | zero=>intro t i h;exact h
 | succ n ih=>intro t i h;rw [DJ,show i+(n+1)=i+1+n from by omega];exact ih _ _ (h.push x)
theorem QN (x:α)(n:Nat):∀(t:T α) (i:Nat),Ok t i->∀j,(rep x n t i).get j=if j<i then t.get j else if j<i+n then some x else none:=by
 induction n with
 | zero=>
  intro t i h j;show t.get j=_;split;rfl;rename_i a;rw [if_neg (by omega)];cases hg:t.get j with
  | none=>rfl
  | some y=>exact absurd ((h.get j).1 ⟨y,hg⟩) a
 | succ n ih=>intro t i h j;rw [DJ,ih _ _ (h.push x)];by_cases h1:j<i;rw [if_pos (by omega),if_pos h1,bA h _ _ _ (J2 _) (by omega)];by_cases h2:j=i;subst h2;rw [if_pos (by omega),aT h _ _ (J2 _),if_neg h1,if_pos (by omega)];rw [if_neg (by omega),if_neg h1];by_cases h3:j<i+1+n;rw [if_pos h3,if_pos (by omega)];rw [if_neg h3,if_neg (by omega)]
theorem DK (t:T α)(i:Nat):t.slice 0 i=some []:=rfl
theorem xI (t:T α)(n i:Nat):t.slice (n+1) i=ob (t.get i) λx=>ob (t.slice n (i+1)) λxs=>some (x::xs):=rfl
theorem OY (t:T α)(n:Nat):∀i l,t.slice n i=some l->l.length=n∧∀j,j<n->t.get (i+j)=l[j]?:=by
 induction n with
 | zero=>intro i l h;rw [DK] at h;cases h;simp
 | succ n ih=>
  intro i l h;rw [xI] at h;obtain⟨x,d,h⟩:=u6 h;obtain⟨f,a,h⟩:=u6 h;cases h;obtain⟨c,b⟩:=ih _ _ a;refine⟨by simp [c],λj e=>?_⟩;cases j with
  | zero=>simpa using d
  | succ j=>rw [show i+(j+1)=i+1+j from by omega,b j (by omega)];simp
end T
section
variable {α:Type}
@[simp] theorem I5 (l:List α):len' l=l.length:=by
 induction l with
 | nil=>rfl
 | cons x l ih=>show Nat.succ (len' l)=_;rw [ih];rfl
@[simp] theorem Q9 (l m:List α):V8 l m=l++m:=by
 induction l with
 | nil=>rfl
 | cons x l ih=>show x::V8 l m=_;rw [ih];rfl
@[simp] theorem lZ (n:Nat):∀l:List α,lX n l=l.drop n:=by
 induction n with
 | zero=>intro l;rfl
 | succ n ih=>
  intro l;cases l with
  | nil=>rfl
  | cons x l=>exact ih l
@[simp] theorem jk (n:Nat):∀l:List α,pE n l=l[n]?:=by
 induction n with
 | zero=>intro l;cases l<;>rfl
 | succ n ih=>
  intro l;cases l with
  | nil=>rfl
  | cons x l=>show pE n l=_;rw [ih];rfl
@[simp] theorem Vu (n:Nat):∀l:List d9,nth n l=l[n]?.getD .undef:=by
 induction n with
 | zero=>intro l;cases l<;>rfl
 | succ n ih=>
  intro l;cases l with
  | nil=>rfl
  | cons x l=>show nth n l=_;rw [ih];rfl
theorem lg (n:Nat):∀(l r:List α),takeN n l=some r->r=l.take n∧n<=l.length:=by
 induction n with
 | zero=>intro l r h;cases h;simp
 | succ n ih=>
  intro l r h;cases l with
  | nil=>cases h
  | cons x l=>
   change ob (takeN n l) (λr=>some (x::r))=some r at h
   obtain⟨d,b,h⟩:=u6 h;cases h;obtain⟨a,c⟩:=ih _ _ b;exact⟨by simp [a],by simp;omega⟩
theorem oD (n:Nat):∀(l:List α),n<=l.length->takeN n l=some (l.take n):=by
 induction n with
 | zero=>intro l _;rfl
 | succ n ih=>
  intro l h;cases l with
  | nil=>simp at h
  | cons x l=>
   change ob (takeN n l) (λr=>some (x::r))=_
   rw [ih l (by simpa using h)];rfl
theorem jY (n:Nat)(a:List α):∀(l:List α),n<=l.length->kU n a l=l.take n++(a++l.drop (n+a.length)):=by
 induction n with
 | zero=>intro l _;show V8 a (lX (len' a) l)=_;simp
 | succ n ih=>
  intro l h;cases l with
  | nil=>simp at h
  | cons x l=>show x::kU n a l=_;rw [ih l (by simpa using h),show n+1+a.length=(n+a.length)+1 from by omega];simp
theorem yP (n:Nat)(a l:List α)(h:n+a.length<=l.length):(kU n a l).length=l.length:=by rw [jY n a l (by omega)];simp;omega
theorem Sv (n:Nat)(a l:List α)(h:n+a.length<=l.length)(j:Nat):
  (kU n a l)[j]?=if n<=j∧j<n+a.length then a[j-n]? else l[j]?:=by
 rw [jY n a l (by omega)];rw [List.getElem?_append];simp only [ags,show min n l.length=n from by omega];split;rw [if_neg (by omega),aed,if_pos (by omega)];rw [List.getElem?_append];split;rw [if_pos (by omega)];rw [if_neg (by omega),aee];congr 1;omega
end
structure Loc where
 b:Nat
 base:Nat
 cap:Nat
 spot:Option Nat
abbrev J5:=Nat->Loc
def J5.at (ι:J5)(i o:Nat):Addr:=⟨(ι i).b,(ι i).base+o,if o=0 then (ι i).spot else none⟩
theorem J5.yQ {ι:J5}{i:Nat}(h:(ι i).spot=none)(o:Nat):ι.at i o=⟨(ι i).b,(ι i).base+o,none⟩:=by simp [J5.at,h]
def jq (ι:J5):Fn->Fn
 | .yield l=>.yield (ι l).b
 | f=>f
mutual
def l9 (ι:J5):d9->Value
 | .undef=>.tuple #[]
 | .bool b=>.bool b
 | .int k n=>.int k n
 | .str s=>.string ⟨s.toArray⟩
 | .nilPtr=>.pointer none
 | .ptr i o=>.pointer (some (ι.at i o))
 | .nilSlice=>.slice none 0 0
 | .slice i o l c=>.slice (some (ι.at i o)) l c
 | .sliceU i o l es=>.slice (some (ι.at i o)) l (((ι i).cap-o) / es)
 | .nilMap=>.map none
 | .map i=>.map (some (ι i).b)
 | .nilFunc=>.nilFunc
 | .func fn a b=>.func (jq ι fn) (o9 ι a).toArray (o9 ι b).toArray
 | .nilIface=>.nilIface
 | .iface t v=>.iface t (l9 ι v)
 | .agg l=>.agg (o9 ι l).toArray
 | .tuple l=>.tuple (o9 ι l).toArray
 | .mq v=>.tuple #[l9 ι v]
def o9 (ι:J5):List d9->List Value
 | []=>[]
 | v::l=>l9 ι v::o9 ι l
end
structure Nm where
 has:Nat->Prop
 cap:Nat->Nat
instance:CoeFun Nm (λ_=>Nat->Prop):=⟨Nm.has⟩
def Nm.le (n m:Nm):Prop:=∀i,n i->m i∧m.cap i=n.cap i
theorem Nm.le_refl (n:Nm):n.le n:=λ_ h=>⟨h,rfl⟩
theorem Nm.le_trans {a b c:Nm}(h:a.le b)(k:b.le c):a.le c:=λi d=>⟨(k i (h i d).1).1,(k i (h i d).1).2.trans (h i d).2⟩
def Zf (n:Nm):Fn->Prop
 | .yield l=>n l
 | _=>True
mutual
def d9.lt (n:Nm):d9->Prop
 | .ptr i _=>n i
 | .slice i _ _ _=>n i
 | .sliceU i o l es=>n i∧1<=es∧o+l*es<=n.cap i
 | .map i=>n i
 | .func fn a b=>Zf n fn∧aM n a∧aM n b
 | .iface _ v=>v.lt n
 | .agg l=>aM n l
 | .tuple l=>aM n l
 | .mq _=>False
 | _=>True
def aM (n:Nm):List d9->Prop
 | []=>True
 | v::l=>v.lt n∧aM n l
end
theorem aU (ι:J5)(l:List d9):o9 ι l=l.map (l9 ι):=by
 induction l with
 | nil=>simp [o9]
 | cons v l ih=>simp [o9,ih]
theorem bQ {n:Nm}{l:List d9}:aM n l↔∀v∈l,v.lt n:=by
 induction l with
 | nil=>simp [aM]
 | cons v l ih=>simp [aM,ih]
@[simp] theorem U0 (ι:J5)(l:List d9):(o9 ι l).length=l.length:=by simp [aU]
theorem aG (ι:J5)(l:List d9)(i:Nat):(o9 ι l)[i]?=l[i]?.map (l9 ι):=by simp [aU]
mutual
theorem P8 {n:Nm}{ι ι':J5}(h:∀i,n i->ι' i=ι i):∀v:d9,v.lt n->l9 ι' v=l9 ι v
 | .undef,_ | .bool _,_ | .int _ _,_ | .str _,_ | .nilPtr,_ | .nilSlice,_ | .nilMap,_ | .nilFunc,_ | .nilIface,_=>by simp [l9]
 | .ptr i o,hv=>by simp only [d9.lt] at hv;simp [l9,J5.at,h i hv]
 | .slice i o l c,hv=>by simp only [d9.lt] at hv;simp [l9,J5.at,h i hv]
 | .sliceU i o l c,hv=>by simp only [d9.lt] at hv;simp [l9,J5.at,h i hv.1]
 | .map i,hv=>by simp only [d9.lt] at hv;simp [l9,h i hv]
 | .func fn a b,hv=>by
  simp only [d9.lt] at hv;obtain⟨hf,ha,hb⟩:=hv;have e:jq ι' fn=jq ι fn:=by cases fn<;>simp_all [jq,Zf]
  simp [l9,e,eP h a ha,eP h b hb]
 | .iface t v,hv=>by simp only [d9.lt] at hv;simp [l9,P8 h v hv]
 | .agg l,hv=>by simp only [d9.lt] at hv;simp [l9,eP h l hv]
 | .tuple l,hv=>by simp only [d9.lt] at hv;simp [l9,eP h l hv]
 | .mq v,hv=>by simp only [d9.lt] at hv
theorem eP {n:Nm}{ι ι':J5}(h:∀i,n i->ι' i=ι i):∀l:List d9,aM n l->o9 ι' l=o9 ι l
 | [],_=>by simp [o9]
 | v::l,hl=>by simp only [aM] at hl;simp [o9,P8 h v hl.1,eP h l hl.2]
end
mutual
theorem d9.L6 {n m:Nm}(h:n.le m):∀v:d9,v.lt n->v.lt m
 | .undef,_ | .bool _,_ | .int _ _,_ | .str _,_ | .nilPtr,_ | .nilSlice,_ | .nilMap,_ | .nilFunc,_ | .nilIface,_=>by simp [d9.lt]
 | .ptr i o,hv=>by simp only [d9.lt] at *;exact (h _ hv).1
 | .slice i o l c,hv=>by simp only [d9.lt] at *;exact (h _ hv).1
 | .sliceU i o l c,hv=>by simp only [d9.lt] at *;exact⟨(h _ hv.1).1,hv.2.1,by rw [(h _ hv.1).2];exact hv.2.2⟩
 | .map i,hv=>by simp only [d9.lt] at *;exact (h _ hv).1
 | .func fn a b,hv=>by simp only [d9.lt] at *;exact⟨by cases fn<;>first | trivial | exact (h _ hv.1).1,dD h a hv.2.1,dD h b hv.2.2⟩
 | .iface t v,hv=>by simp only [d9.lt] at *;exact d9.L6 h v hv
 | .agg l,hv=>by simp only [d9.lt] at *;exact dD h l hv
 | .tuple l,hv=>by simp only [d9.lt] at *;exact dD h l hv
 | .mq v,hv=>by simp only [d9.lt] at hv
theorem dD {n m:Nm}(h:n.le m):∀l:List d9,aM n l->aM m l
 | [],_=>by simp [aM]
 | v::l,hl=>by simp only [aM] at *;exact⟨d9.L6 h v hl.1,dD h l hl.2⟩
end
theorem lD (ι:J5)(v:d9):(l9 ι v).cells=(o9 ι v.cells).toArray:=by cases v<;>simp [l9,Value.cells,d9.cells,o9]
theorem uw {n:Nm}{v:d9}(h:v.lt n):aM n v.cells:=by cases v<;>simp_all [d9.lt,d9.cells,aM]
mutual
theorem nA (ι:J5):∀(v:Value) (a:d9),ofValue v=some a->l9 ι a=v∧∀n,a.lt n
 | .bool b,a,h=>by simp only [ofValue,J3] at h;subst h;simp [l9,d9.lt]
 | .int k n,a,h=>by simp only [ofValue,J3] at h;subst h;simp [l9,d9.lt]
 | .string s,a,h=>by simp only [ofValue,J3] at h;subst h;simp [l9,d9.lt]
 | .pointer none,a,h=>by simp only [ofValue,J3] at h;subst h;simp [l9,d9.lt]
 | .pointer (some _),a,h=>by simp [ofValue] at h
 | .slice none 0 0,a,h=>by simp only [ofValue,J3] at h;subst h;simp [l9,d9.lt]
 | .slice (some _) _ _,a,h=>by simp [ofValue] at h
 | .slice none (_+1) _,a,h=>by simp [ofValue] at h
 | .slice none 0 (_+1),a,h=>by simp [ofValue] at h
 | .map none,a,h=>by simp only [ofValue,J3] at h;subst h;simp [l9,d9.lt]
 | .map (some _),a,h=>by simp [ofValue] at h
 | .nilFunc,a,h=>by simp only [ofValue,J3] at h;subst h;simp [l9,d9.lt]
 | .nilIface,a,h=>by simp only [ofValue,J3] at h;subst h;simp [l9,d9.lt]
 | .func (.func f) ⟨[]⟩ ⟨[]⟩,a,h=>by simp only [ofValue,J3] at h;subst h;simp [l9,d9.lt,jq,o9,Zf,aM]
 | .func (.func f) ⟨_ :: _⟩ _,a,h=>by simp [ofValue] at h
 | .func (.func f) ⟨[]⟩ ⟨_ :: _⟩,a,h=>by simp [ofValue] at h
 | .func (.method _) _ _,a,h=>by simp [ofValue] at h
 | .func (.methodOf _ _) _ _,a,h=>by simp [ofValue] at h
 | .func (.via _ _ _ _) _ _,a,h=>by simp [ofValue] at h
 | .func (.yield _) _ _,a,h=>by simp [ofValue] at h
 | .agg ⟨l⟩,a,h=>by
  simp only [ofValue] at h;cases hx:ofValues l with
  | none=>simp [hx] at h
  | some x=>simp only [hx,J3] at h;subst h;obtain⟨h1,h2⟩:=uy ι l x hx;simp [l9,d9.lt,h1];exact h2
 | .tuple ⟨[]⟩,a,h=>by simp only [ofValue,J3] at h;subst h;simp [l9,d9.lt,o9,aM]
 | .tuple ⟨_ :: _⟩,a,h=>by simp [ofValue] at h
 | .float _ _,a,h=>by simp [ofValue] at h
 | .complex _ _ _,a,h=>by simp [ofValue] at h
 | .chan _,a,h=>by simp [ofValue] at h
 | .iface _ _,a,h=>by simp [ofValue] at h
theorem uy (ι:J5):∀(l:List Value) (x:List d9),ofValues l=some x->o9 ι x=l∧∀n,aM n x
 | [],x,h=>by simp only [ofValues,J3] at h;subst h;simp [o9,aM]
 | v::l,x,h=>by
  simp only [ofValues] at h;cases hv:ofValue v with
  | none=>simp [hv] at h
  | some a=>
   cases hl:ofValues l with
   | none=>simp [hv,hl] at h
   | some y=>simp only [hv,hl,J3] at h;subst h;obtain⟨h1,h2⟩:=nA ι v a hv;obtain⟨h3,h4⟩:=uy ι l y hl;simp [o9,aM,h1,h3];exact λn=>⟨h2 n,h4 n⟩
end
theorem ada:∀(n j:Nat) (t:T d9),j+1<2^n->way n j t=(t.get j).getD .undef:=by
 intro n;induction n with
 | zero=>intro j t h;simp at h
 | succ n ih=>
  intro j t h;cases j with
  | zero=>cases t<;>rfl
  | succ j=>
   have a:j / 2+1<2^n:=by rw [ai8] at h;omega
   rcases aaY j with h0 | h0;simp only [way,h0];cases t with
   | e=>rfl
   | nd l x r=>rw [T.dB,if_pos h0];exact ih _ l a
   simp only [way,h0];cases t with
   | e=>rfl
   | nd l x r=>rw [T.dB,if_neg (by omega)];exact ih _ r a
theorem Zg (v:d9):∀(n j:Nat) (t:T d9) (x:d9),j+1<2^n->t.get j=some x->tZ n j v t=t.put j v:=by
 intro n;induction n with
 | zero=>intro j t x h;simp at h
 | succ n ih=>
  intro j t x h a;cases t with
  | e=>simp at a
  | nd l y r=>
   cases j with
   | zero=>rfl
   | succ j=>have b:j / 2+1<2^n:=(by rw [ai8] at h;omega);rw [T.dB] at a;rcases aaY j with h0 | h0;rw [if_pos h0] at a;simp only [tZ,h0];rw [T.V3,if_pos h0];show T.nd (tZ n (j / 2) v l) y r=_;rw [ih _ l x b a];rw [if_neg (by omega)] at a;simp only [tZ,h0];rw [T.V3,if_neg (by omega)];show T.nd l y (tZ n (j / 2) v r)=_;rw [ih _ r x b a]
theorem uz {t:Nat}{l:List Nat}{i j:Nat}(h:idxOf t l i=some j):i<=j∧j<i+l.length∧l[j-i]?=some t:=by
 induction l generalizing i with
 | nil=>simp [idxOf] at h
 | cons x l ih=>
  simp only [idxOf] at h;cases hx:Nat.beq x t with
  | true=>simp only [hx,cond_true,J3] at h;subst h;have:=gI hx;simp [this]
  | false=>simp only [hx,cond_false] at h;obtain⟨b,c,a⟩:=ih h;refine⟨by omega,by simp;omega,?_⟩;rw [show j-i=(j-(i+1))+1 from by omega];simpa using a
theorem Sw {t u:Nat}{l:List Nat}{i j:Nat}(h:idxOf t l i=some j)(h':idxOf u l i=some j):t=u:=by have a:=(uz h).2.2;have b:=(uz h').2.2;rw [a] at b;exact Y4 b
structure R7 (ι:J5)(n:Nm)(slots:List Nat)(env:T d9)(tmps:Array Value):Prop where
 ok:T.Ok env slots.length
 small:slots.length<2^60
 val:∀t j,idxOf t slots 0=some j->t<tmps.size∧∃v,env.get j=some v∧v.lt n∧tmps.getD t undef=l9 ι v
theorem R7.mono {ι ι':J5}{n c:Nm}{a:List Nat}{env:T d9}{tmps:Array Value}(h:R7 ι n a env tmps)
  (g:∀i,n i->ι' i=ι i) (k:n.le c):R7 ι' c a env tmps:=
 ⟨h.ok,h.small,λt j l=>by
  obtain⟨d,v,e,b,f⟩:=h.val t j l;exact⟨d,v,e,v.L6 k b,by rw [f,P8 g v b]⟩⟩
theorem aQ (a:Array Value)(i j:Nat)(v:Value)(b:i<a.size):
  (a.setIfInBounds i v).getD j undef=if i=j then v else a.getD j undef:=by
 rw [Q5,Q5];by_cases h:i=j;subst h;rw [if_pos rfl,Y5 b];rfl;rw [if_neg h,Y2 h]
theorem R7.put {ι:J5}{n:Nm}{a:List Nat}{env:T d9}{tmps:Array Value}(h:R7 ι n a env tmps)(d:Option Tmp){v:d9}(w:v.lt n):
  R7 ι n a (bW (FU a d) v env) (match d with | some t=>tmps.setIfInBounds t (l9 ι v) | none=>tmps):=by
 cases d with
 | none=>exact h
 | some t=>
  simp only [FU];cases ht:idxOf t a 0 with
  | none=>
   refine⟨h.ok,h.small,λu j b=>?_⟩;obtain⟨f,l,g,s,m⟩:=h.val u j b;refine⟨by simpa using f,l,g,s,?_⟩;have i:t≠u:=λe=>by subst e;rw [ht] at b;cases b
   by_cases hts:t<tmps.size;rw [aQ _ _ _ _ hts,if_neg i];exact m;rw [show tmps.setIfInBounds t (l9 ι v)=tmps from agM (adK hts)];exact m
  | some k=>
   obtain⟨f,x,g,_,_⟩:=h.val t k ht;have y:=(uz ht).2.1
   have c:bW (some k) v env=env.put k v:=Zg v 64 k env x (by have:=h.small;have:(2:Nat)^60<2^64:=by decide
                                                             omega) g
   rw [c];refine⟨h.ok.put _ _ (by omega),h.small,λu j b=>?_⟩;obtain⟨o,l,p,q,r⟩:=h.val u j b;refine⟨by simpa using o,?_⟩;rw [aQ _ _ _ _ f];by_cases he:t=u;subst he;rw [ht] at b;cases b;exact⟨v,T.aT h.ok _ _ (by omega),w,by simp⟩;refine⟨l,?_,q,by rw [if_neg he];exact r⟩;rw [T.bA h.ok _ _ _ (by omega) (λe=>he (by subst e;exact Sw ht b))];exact p
def R8:O6->Bool
 | .cells .. | .map _ | .iter .. | .loop .. | .deferred | .siter .. | .buf .. | .mapU _=>true
 | _=>false
def exitCode:bI->Code
 | .normal=>.skip
 | .exit id=>.exit id
 | .ret=>.ret
section
variable (P:Program)
structure xJ (ι:J5)(n:Nm)(L:Loop)(st:LoopState)(pend:Option bI)(env:T d9)(params:List (Option Nat))(assign body:S9):Prop where
 state:L.state=st
 pending:L.pending=pend.map exitCode
 code:∃slots,R7 ι n slots env L.tmps∧params=L.params.toList.map (λt=>idxOf t slots 0)∧Q0 P slots L.assign=some assign∧Q0 P slots L.body=some body∧
  ∃nt,nt<=L.tmps.size∧tmpsIn nt L.assign=true∧tmpsIn nt L.body=true
def I6 (ι:J5):List (d9×d9)->Nat->List MapEntry
 | [],_=>[]
 | e::es,i=>{key:=l9 ι e.1,val:=l9 ι e.2,born:=i}::I6 ι es (i+1)
def Vv (P:Program)(l:Loc)(e:TypeId)(sz k:Nat)(rows:T (List d9)):Prop:=∀ty,k=1->Dm rows=some ty->e=ty∧l.base=0∧sz=P.cellsOf ty
theorem xK {P:Program}{l:Loc}{e:TypeId}{c k:Nat}{rows:T (List d9)}(h:k=1->rows.get 1=none):Vv P l e c k rows:=λd b a=>by unfold Dm at a;rw [h b] at a;cases a
theorem uD {P:Program}{l:Loc}{e:TypeId}{b k:Nat}{rows:T (List d9)}(h:T.Ok rows k):Vv P l e b k rows:=xK λa=>by
 subst a;cases hg:rows.get 1 with
 | none=>rfl
 | some x=>exact absurd ((h.get 1).1 ⟨x,hg⟩) (by omega)
theorem Sy {rows:T (List d9)}{N i:Nat}(h:T.Ok rows N)(b:i<=N)(a:i≠1)(r:List d9):Dm (rows.put i r)=Dm rows:=by unfold Dm;rw [T.bA h _ _ _ b a]
def UOk (ι:J5)(es:List (d9×d9))(L:List MapEntry):Prop:=
 (L.map λx=>(x.key,x.val)).Perm (es.map λe=>(l9 ι e.1,l9 ι e.2))∧(∀e∈es,∃s,e.1=.str s)∧(es.map (·.1)).Nodup
def dF (ι:J5)(n:Nm)(h:Array Obj)(l:Loc):O6->Prop
 | .void=>True
 | .dead=>True
 | .cells rs k rows=>∃c e fz,h[l.b]?=some (.cells c e fz)∧l.base+l.cap<=c.size∧(k*rs<=l.cap∧∃N,k<=N∧T.Ok rows N∧Vv P l e c.size k rows)∧
   ∀i,i<k->∃row,rows.get i=some row∧row.length=rs∧aM n row∧∀j,j<rs->c[l.base+(i*rs+j)]?=(row[j]?).map (l9 ι)
 | .map es=>h[l.b]?=some (.map (I6 ι es 0).toArray es.length)∧∀e∈es,e.1.lt n∧e.2.lt n
 | .iter mp since seen=>l.base=0∧(∀x,mp=some x->n x)∧∃sn st,h[l.b]?=some (.mapIter (mp.map λx=>(ι x).b) since sn st)∧sn.toList.reverse=seen∧(mp≠none->st=since)
 | .tail p=>n p∧(l.cap=0∨(l.b=(ι p).b∧l.base+l.cap<=(ι p).base+(ι p).cap∧((ι p).spot=none->l.spot=none)))
 | .loop st pend env params assign body=>∃L,h[l.b]?=some (.loop L)∧xJ P ι n L st pend env params assign body
 | .deferred=>h[l.b]?=some (.deferred (some []))
 | .siter s pos=>l.base=0∧h[l.b]?=some (.stringIter ⟨s.toArray⟩ pos)
 | .buf ty s=>l.base=0∧∃c fz,h[l.b]?=some (.cells c ty fz)∧s.length<=l.cap∧l.cap<=c.size∧∀(j:Nat) (b:UInt8),s[j]?=some b->c[j]?=some (Value.int .u8 (b.toNat:Int))
 | .mapU es=>∃L ck,h[l.b]?=some (.map L.toArray ck)∧UOk ι es L∧∀e∈es,e.1.lt n∧e.2.lt n
structure alS (ι:J5)(m:Mem)(h:Array Obj)(i:Nat):Prop where
 alone:∀j b,j≠i->m.get j=some b->R8 b=true->(ι j).b≠(ι i).b
 free:∀c e fz,h[(ι i).b]?=some (.cells c e fz)->∀k,k<c.size->¬ (fz.1<=k∧k<fz.2)
def bV:O6->Bool
 | .void=>true
 | _=>false
def Mem.has (m:Mem)(i:Nat):Prop:=∃b,m.get i=some b∧bV b=false
def Mem.nm (m:Mem)(ι:J5):Nm:=⟨m.has,λi=>(ι i).cap⟩
theorem Mem.V7 {m m':Mem}{ι ι':J5}(h:∀i,m.has i->m'.has i)(b:∀i,m.has i->ι' i=ι i):(m.nm ι).le (m'.nm ι'):=
 λi a=>⟨h i a,congrArg Loc.cap (b i a)⟩
def GSz (P:Program)(G:Mem)(h:Array Obj):Prop:=∀i rs k rows,i<P.globals.size->G.get i=some (.cells rs k rows)->∃c e fz,h[i]?=some (.cells c e fz)∧c.size=k*rs
structure RM (G:Mem)(ι:J5)(m:Mem)(h:Array Obj):Prop where
 ok:T.Ok m.t m.nx
 blk:∀i b,m.get i=some b->dF P ι (m.nm ι) h (ι i) b
 own:∀i b,m.lim<=i->m.get i=some b->R8 b=true->alS ι m h i
 glim:G.nx<=m.lim
 limn:m.lim<=m.nx
 gle:P.globals.size<=G.nx
 base:∀i,i<G.nx->m.get i=G.get i
 ghas:∀i,i<P.globals.size->m.has i
 glob:∀i,i<P.globals.size->(ι i).b=i∧(ι i).base=0∧(ι i).spot=none
 spot:∀i b,m.get i=some b->R8 b=true->(ι i).spot=none
 gsz:GSz P G h
end
def Lv (ι:J5)(m:Mem)(b:Nat):Prop:=∃i x,m.lim<=i∧m.get i=some x∧R8 x=true∧(ι i).b=b
theorem RM.Lx {P:Program}{G:Mem}{ι:J5}{m:Mem}{h h':Array Obj}(d:RM P G ι m h)(u:∀b,b<h.size->¬ Lv ι m b->h'[b]?=h[b]?):GSz P G h':=by
 intro i r k a g q;obtain⟨c,e,s,p,t⟩:=d.gsz i r k a g q;have l:i<h.size:=(K9.1 p).1;have f:i<G.nx:=gq g d.gle;have n:m.get i=some (.cells r k a):=(d.base i f).trans q;refine⟨c,e,s,?_,t⟩;rw [u i l];exact p;rintro⟨j,x,hj,hx,hlx,hb⟩;have o:i≠j:=by have:=d.glim;omega
 exact (d.own j x hj hx hlx).alone i _ o n rfl (by rw [(d.glob i g).1,hb])
structure Step (P:Program)(G:Mem)(ι:J5)(m:Mem)(w:World)(ι':J5)(m':Mem)(w':World):Prop where
 rm:RM P G ι' m' w'.heap
 ext:∀i,m.has i->ι' i=ι i
 has:∀i,m.has i->m'.has i
 nx:m.nx<=m'.nx
 lim:m'.lim=m.lim
 old:∀i,i<m.lim->m'.get i=m.get i
 size:w.heap.size<=w'.heap.size
 frame:∀b,b<w.heap.size->¬ Lv ι m b->w'.heap[b]?=w.heap[b]?
 own:∀b,Lv ι' m' b->Lv ι m b∨w.heap.size<=b
 os:w'.os=w.os
 out:w'.output=w.output
 tape:w'.tape=w.tape
theorem Step.refl {P:Program}{G:Mem}{ι:J5}{m:Mem}{w:World}(h:RM P G ι m w.heap):Step P G ι m w ι m w:=
 ⟨h,λ_ _=>rfl,λ_ h=>h,J2 _,rfl,λ_ _=>rfl,J2 _,λ_ _ _=>rfl,λ_ h=>.inl h,rfl,rfl,rfl⟩
theorem Step.drew {P:Program}{G:Mem}{ι:J5}{m:Mem}{w:World}(h:RM P G ι m w.heap)(n:Nat):Step P G ι m w ι m {w with drawn:=n}:=
 ⟨h,λ_ _=>rfl,λ_ h=>h,J2 _,rfl,λ_ _=>rfl,J2 _,λ_ _ _=>rfl,λ_ h=>.inl h,rfl,rfl,rfl⟩
theorem Step.trans {P:Program}{G:Mem}{c d e:J5}{f g j:Mem}{k l m:World}(a:Step P G c f k d g l)(b:Step P G d g l e j m):
  Step P G c f k e j m where
 rm:=b.rm
 ext i hi:=(b.ext i (a.has i hi)).trans (a.ext i hi)
 has i hi:=b.has i (a.has i hi)
 nx:=aP a.nx b.nx
 lim:=b.lim.trans a.lim
 old i hi:=(b.old i (by rw [a.lim];exact hi)).trans (a.old i hi)
 size:=aP a.size b.size
 frame x hx ho:=by refine (b.frame x (gq hx a.size) λh=>?_).trans (a.frame x hx ho);rcases a.own x h with h | h;exact ho h;omega
 own x h:=by rcases b.own x h with h | h;exact a.own x h;exact .inr (aP a.size h)
 os:=b.os.trans a.os
 out:=b.out.trans a.out
 tape:=b.tape.trans a.tape
theorem Step.l9 {P:Program}{G:Mem}{ι ι':J5}{m m':Mem}{w w':World}(a:Step P G ι m w ι' m' w'){v:d9}(h:v.lt (m.nm ι)):AM.l9 ι' v=AM.l9 ι v:=
 P8 (n:=m.nm ι) a.ext v h
theorem Step.env {P:Program}{G:Mem}{ι ι':J5}{m m':Mem}{w w':World}(a:Step P G ι m w ι' m' w'){b:List Nat}{env:T d9}{tmps:Array Value}
  (h:R7 ι (m.nm ι) b env tmps):R7 ι' (m'.nm ι') b env tmps:=h.mono (n:=m.nm ι) a.ext (Mem.V7 a.has a.ext)
theorem xJ.mono {P:Program}{ι ι':J5}{n e:Nm}{L:Loop}{f:LoopState}{c:Option bI}{env:T d9}{b:List (Option Nat)}{a body:S9}
  (h:xJ P ι n L f c env b a body) (m:∀i,n i->ι' i=ι i) (o:n.le e):xJ P ι' e L f c env b a body:=by
 obtain⟨g,j,d,k,l⟩:=h;exact⟨g,j,d,k.mono m o,l⟩
theorem wO {ι ι':J5}{n:Nm}(hi:∀i,n i->ι' i=ι i):∀(es:List (d9×d9)) (i:Nat),(∀e∈es,e.1.lt n∧e.2.lt n)->I6 ι' es i=I6 ι es i
 | [],_,_=>rfl
 | e::es,i,h=>by simp only [I6];rw [P8 hi _ (h e (by simp)).1,P8 hi _ (h e (by simp)).2,wO hi es (i+1) (λe he=>h e (by simp [he]))]
@[simp] theorem DL (ι:J5):∀(es:List (d9×d9)) (i:Nat),(I6 ι es i).length=es.length
 | [],_=>rfl
 | e::es,i=>by simp [I6,DL ι es]
theorem mg (ι:J5):∀(es:List (d9×d9)) (i j:Nat),(I6 ι es i)[j]?=(es[j]?).map λe=>{key:=l9 ι e.1,val:=l9 ι e.2,born:=i+j}
 | [],_,_=>by simp [I6]
 | e::es,i,0=>by simp [I6]
 | e::es,i,j+1=>by simp [I6,mg ι es,show i+1+j=i+(j+1) from by omega]
theorem dF.mono {P:Program}{ι ι':J5}{n A:Nm}{h h':Array Obj}{l:Loc}{b:O6}(hb:dF P ι n h l b)
  (o:∀i,n i->ι' i=ι i) (m:n.le A) (g:R8 b=true->h'[l.b]?=h[l.b]?):dF P ι' A h' l b:=by
 cases b with
 | void=>trivial
 | dead=>trivial
 | cells rs k rows=>
  obtain⟨c,e,w,a,d,r,t⟩:=hb;refine⟨c,e,w,by rw [g rfl];exact a,d,r,λi H=>?_⟩;obtain⟨q,D,E,z,F⟩:=t i H;refine⟨q,D,E,dD m q z,λj G=>?_⟩;rw [F j G];cases hr:q[j]? with
  | none=>rfl
  | some v=>simp [P8 o v (bQ.1 z v (Xl hr))]
 | map es=>obtain⟨a,d⟩:=hb;refine⟨?_,λe f=>⟨e.1.L6 m (d e f).1,e.2.L6 m (d e f).2⟩⟩;rw [g rfl,a,wO o es 0 d]
 | iter mp since seen=>
  obtain⟨y,a,J,B,d,r,t⟩:=hb;refine⟨y,λx I=>(m x (a x I)).1,J,B,?_,r,t⟩;rw [g rfl,d];cases mp with
  | none=>rfl
  | some x=>simp [o x (a x rfl)]
 | tail p=>obtain⟨a,d⟩:=hb;exact⟨(m p a).1,by rw [o p a];exact d⟩
 | loop B pend env params assign body=>obtain⟨L,a,d⟩:=hb;exact⟨L,by rw [g rfl];exact a,d.mono o m⟩
 | deferred=>exact (g rfl).trans hb
 | siter s pos=>exact⟨hb.1,(g rfl).trans hb.2⟩
 | buf ty s=>obtain⟨y,c,w,a,d⟩:=hb;exact⟨y,c,w,(g rfl).trans a,d⟩
 | mapU es=>
  obtain⟨L,C,a,⟨d,r,t⟩,u⟩:=hb;refine⟨L,C,(g rfl).trans a,⟨?_,r,t⟩,λe f=>⟨e.1.L6 m (u e f).1,e.2.L6 m (u e f).2⟩⟩;have:es.map (λe=>(l9 ι' e.1,l9 ι' e.2))=es.map λe=>(l9 ι e.1,l9 ι e.2):=ahT λe f=>by rw [P8 o _ (u e f).1,P8 o _ (u e f).2]
  rw [this];exact d
theorem Mem.J8 {m:Mem}(h:T.Ok m.t m.nx)(b:O6)(i:Nat):(m.new b).get i=if i=m.nx then some b else m.get i:=by show (m.t.put m.nx b).get i=_;split;rename_i e;subst e;exact T.aT h _ _ (J2 _);rename_i e;exact T.bA h _ _ _ (J2 _) (λh=>e h.symm)
theorem Mem.U7 {m:Mem}(h:T.Ok m.t m.nx){j:Nat}(a:j<m.nx)(b:O6)(i:Nat):(m.set j b).get i=if i=j then some b else m.get i:=by show (m.t.put j b).get i=_;split;rename_i e;subst e;exact T.aT h _ _ (afz a);rename_i e;exact T.bA h _ _ _ (afz a) (λh=>e h.symm)
theorem Mem.H9 {m:Mem}(h:T.Ok m.t m.nx){i:Nat}{b:O6}(a:m.get i=some b):i<m.nx:=(h.get i).1 ⟨b,a⟩
@[simp] theorem Mem.LA (m:Mem)(b:O6):(m.new b).nx=m.nx+1:=rfl
@[simp] theorem Mem.Zh (m:Mem)(b:O6):(m.new b).lim=m.lim:=rfl
@[simp] theorem Mem.agV (m:Mem)(i:Nat)(b:O6):(m.set i b).nx=m.nx:=rfl
@[simp] theorem Mem.aki (m:Mem)(i:Nat)(b:O6):(m.set i b).lim=m.lim:=rfl
def J5.upd (ι:J5)(i:Nat)(l:Loc):J5:=λj=>if j=i then l else ι j
@[simp] theorem J5.V4 (ι:J5)(i:Nat)(l:Loc):ι.upd i l i=l:=by simp [J5.upd]
theorem J5.upd_ne (ι:J5){i j:Nat}(l:Loc)(h:j≠i):ι.upd i l j=ι j:=by simp [J5.upd,h]
theorem eD {P:Program}{ι:J5}{n:Nm}{h:Array Obj}{l:Loc}{b:O6}(hb:dF P ι n h l b)(d:R8 b=true):l.b<h.size:=by
 cases b with
 | void=>cases d
 | dead=>cases d
 | tail=>cases d
 | cells rs k rows=>obtain⟨c,e,f,a,_⟩:=hb;exact (K9.1 a).1
 | map es=>obtain⟨a,_⟩:=hb;exact (K9.1 a).1
 | iter mp since seen=>obtain⟨_,_,i,j,a,_⟩:=hb;exact (K9.1 a).1
 | loop=>obtain⟨L,a,_⟩:=hb;exact (K9.1 a).1
 | deferred=>exact (K9.1 hb).1
 | siter s pos=>exact (K9.1 hb.2).1
 | buf ty s=>obtain⟨_,c,f,a,_⟩:=hb;exact (K9.1 a).1
 | mapU es=>obtain⟨L,g,a,_⟩:=hb;exact (K9.1 a).1
structure Laid (m m':Mem)(nid:Nat)(b:O6):Prop where
 ok:T.Ok m'.t m'.nx
 get:∀i,m'.get i=if i=nid then some b else m.get i
 lim:m'.lim=m.lim
 nx:m.nx<=m'.nx
 le:m.lim<=nid
 free:¬ m.has nid
 live:bV b=false
theorem Laid.new {m:Mem}(h:T.Ok m.t m.nx)(a:m.lim<=m.nx)(b:O6)(hb:bV b=false):Laid m (m.new b) m.nx b:=
 ⟨h.push b,Mem.J8 h b,rfl,alb _,a,λ⟨_,h1,_⟩=>agt _ (Mem.H9 h h1),hb⟩
theorem Laid.set {m:Mem}(h:T.Ok m.t m.nx){i:Nat}(a:m.get i=some .void)(c:m.lim<=i)(b:O6)(hb:bV b=false):Laid m (m.set i b) i b:=
 ⟨h.put i b (Mem.H9 h a),Mem.U7 h (Mem.H9 h a) b,rfl,J2 _,c,λ⟨_,h1,h2⟩=>(by rw [a] at h1;cases h1;cases h2),hb⟩
theorem Laid.has {m m':Mem}{nid:Nat}{b:O6}(h:Laid m m' nid b)(i:Nat)(c:m.has i):m'.has i:=by have a:i≠nid:=λe=>h.free (e▸c);obtain⟨x,d,f⟩:=c;exact⟨x,by rw [h.get,if_neg a];exact d,f⟩
theorem Laid.self {m m':Mem}{nid:Nat}{b:O6}(h:Laid m m' nid b):m'.has nid:=⟨b,by rw [h.get,if_pos rfl],h.live⟩
theorem qH {m:Mem}{i:Nat}{b:O6}(h:m.get i=some b)(a:R8 b=true):m.has i:=⟨b,h,by cases b<;>first | rfl | cases a⟩
structure Vw (w w':World)(o:Obj):Prop where
 heap:w'.heap=w.heap.push o
 os:w'.os=w.os
 out:w'.output=w.output
 tape:w'.tape=w.tape
theorem Step.lay {P:Program}{G:Mem}{ι:J5}{m m':Mem}{w w':World}(h:RM P G ι m w.heap){s:Nat}{b:O6}(a:Laid m m' s b){o:Obj}(z:Vw w w' o){l:Loc}
  (D:l.b=w.heap.size) (hs:l.spot=none)
  (hb:dF P (ι.upd s l) (m'.nm (ι.upd s l)) (w.heap.push o) l b)
  (J:∀c e fz,o=.cells c e fz->∀k,k<c.size->¬ (fz.1<=k∧k<fz.2)):
  Step P G ι m w (ι.upd s l) m' w':=by
 have r:∀i x,m.get i=some x->R8 x=true->(ι i).b<w.heap.size:=λi x f d=>eD (h.blk i x f) d;have g:∀k,k<w.heap.size->w'.heap[k]?=w.heap[k]?:=λk C=>by rw [z.heap];exact agI C |>.trans (aaf C).symm
 have p:∀j,m.has j->ι.upd s l j=ι j:=λj B=>ι.upd_ne l λe=>a.free (e▸B);refine⟨⟨a.ok,?_,?_,by rw [a.lim];exact h.glim,by rw [a.lim];exact aP h.limn a.nx,h.gle,λi q=>by rw [a.get,if_neg (by have:=a.le;have:=h.glim;omega)];exact h.base i q,λi q=>a.has i (h.ghas i q),?_,?_,h.Lx λk C _=>g k C⟩,p,a.has,a.nx,a.lim,?_,by rw [z.heap];simp,?_,?_,z.os,z.out,z.tape⟩;intro i x f;rw [a.get] at f;split at f;rename_i e;subst e;cases f;rw [z.heap];simpa using hb;rename_i e;rw [ι.upd_ne l e];exact (h.blk i x f).mono (n:=m.nm ι) p (Mem.V7 a.has p) (λd=>g _ (r i x f d));intro i x q f d;rw [a.lim] at q;rw [a.get] at f;split at f;rename_i e;subst e;cases f;refine⟨λj y B A v=>?_,λc e fz u=>?_⟩;rw [a.get,if_neg B] at A;rw [ι.upd_ne l B,ι.V4,D];have:=r j y A v;omega;rw [ι.V4,D,z.heap] at u;simp at u;exact J c e fz u;rename_i e;have H:=h.own i x q f d;have t:=r i x f d;refine⟨λj y B A v=>?_,λc I fz u=>?_⟩;rw [ι.upd_ne l e];rw [a.get] at A;split at A;rename_i E;subst E;cases A;rw [ι.V4,D];omega;rename_i E;rw [ι.upd_ne l E];exact H.alone j y B A v;rw [ι.upd_ne l e] at u;rw [g _ t] at u;exact H.free c I fz u;intro i q;rw [p i (h.ghas i q)];exact h.glob i q;intro i x f d;rw [a.get] at f;split at f;rename_i e;subst e;rw [ι.V4];exact hs;rename_i e;rw [ι.upd_ne l e];exact h.spot i x f d;intro i q;rw [a.get,if_neg (by have:=a.le;omega)];intro F t _;exact g F t;rintro F ⟨i,x,q,f,d,rfl⟩;rw [a.lim] at q;rw [a.get] at f;split at f;rename_i e;subst e;right;rw [ι.V4,D];exact J2 _;rename_i e;left;rw [ι.upd_ne l e];exact⟨i,x,q,f,d,rfl⟩
theorem Step.name {P:Program}{G:Mem}{ι:J5}{m m':Mem}{w:World}(h:RM P G ι m w.heap){o:Nat}{b:O6}(d:Laid m m' o b)(D:R8 b=false){l:Loc}
  (hb:dF P (ι.upd o l) (m'.nm (ι.upd o l)) w.heap l b):Step P G ι m w (ι.upd o l) m' w:=by
 have g:∀j,m.has j->ι.upd o l j=ι j:=λj t=>ι.upd_ne l λe=>d.free (e▸t);have p:∀i x,m'.get i=some x->R8 x=true->i≠o∧m.get i=some x:=λi x f a=>by rw [d.get] at f;split at f;cases f;rw [D] at a;cases a;exact⟨by assumption,f⟩
 refine⟨⟨d.ok,?_,?_,by rw [d.lim];exact h.glim,by rw [d.lim];exact aP h.limn d.nx,h.gle,λi k=>by rw [d.get,if_neg (by have:=d.le;have:=h.glim;omega)];exact h.base i k,λi k=>d.has i (h.ghas i k),?_,?_,h.gsz⟩,g,d.has,d.nx,d.lim,?_,J2 _,λ_ _ _=>rfl,?_,rfl,rfl,rfl⟩;intro i x f;rw [d.get] at f;split at f;rename_i e;subst e;cases f;simpa using hb;rename_i e;rw [ι.upd_ne l e];exact (h.blk i x f).mono (n:=m.nm ι) g (Mem.V7 d.has g) (λ_=>rfl);intro i x k f a;rw [d.lim] at k;obtain⟨q,r⟩:=p i x f a;have v:=h.own i x k r a;refine⟨λj y t E s=>?_,λc z A u=>?_⟩;obtain⟨B,C⟩:=p j y E s;rw [ι.upd_ne l q,ι.upd_ne l B];exact v.alone j y t C s;rw [ι.upd_ne l q] at u;exact v.free c z A u;intro i k;rw [g i (h.ghas i k)];exact h.glob i k;intro i x f a;obtain⟨q,r⟩:=p i x f a;rw [ι.upd_ne l q];exact h.spot i x r a;intro i k;rw [d.get,if_neg (by have:=d.le;omega)];rintro b' ⟨i,x,k,f,a,rfl⟩;rw [d.lim] at k;obtain⟨q,r⟩:=p i x f a;rw [ι.upd_ne l q];exact .inl ⟨i,x,k,r,a,rfl⟩
def alT (ι:J5)(n:Nm)(done:List (Option Nat))(ls:List d9)(tmps:Array Value):Prop:=
 ∀t k,iP t done 0=some k->∃v,ls[k]?=some v∧v.lt n∧tmps.getD t undef=l9 ι v
structure St (P:Program)(ι:J5)(n:Nm)(slots:List Nat)(done:List (Option Nat))(ls:List d9)(env:T d9)(tmps:Array Value):Prop where
 ls:alT ι n done ls tmps
 env:R7 ι n slots env tmps
 glob:∀i,i<P.globals.size->(ι i).b=i∧(ι i).base=0∧(ι i).spot=none
 gn:∀g,g<P.globals.size->n g
section
variable {P:Program}{G:Mem}{ι:J5}{n:Nm}{slots:List Nat}{done:List (Option Nat)}{ls:List d9}{env:T d9}{a:Act}
theorem DN (k:Nat):∀(ls:List d9) (env:T d9),G6 (.loc k) ls env=ls[k]?.getD .undef:=by
 intro ls env;match k with
 | 0=>cases ls<;>rfl
 | 1=>match ls with | [] | [_] | _ :: _ :: _=>rfl
 | 2=>match ls with | [] | [_] | [_,_] | _ :: _ :: _ :: _=>rfl
 | 3=>match ls with | [] | [_] | [_,_] | [_,_,_] | _ :: _ :: _ :: _ :: _=>rfl
 | k+4=>show nth (k+4) ls=_;exact Vu _ _
theorem Vx (j:Nat)(h:j<2^60)(ls:List d9)(env:T d9):G6 (.slot j) ls env=(env.get j).getD .undef:=by
 show way 64 j env=_
 exact ada 64 j env (by have:(2:Nat)^60+1<2^64:=by decide
                        omega)
theorem r9 (s:St P ι n slots done ls env a.tmps){x:Operand}{o:O8}(h:K7 P slots done x=some o):
  a.eval x=l9 ι (G6 o ls env)∧(G6 o ls env).lt n:=by
 cases x with
 | tmp t=>
  simp only [K7] at h;cases hk:iP t done 0 with
  | some k=>simp only [hk,J3] at h;subst h;obtain⟨v,b,d,e⟩:=s.ls t k hk;rw [DN,b];exact⟨e,d⟩
  | none=>
   simp only [hk] at h;cases hj:idxOf t slots 0 with
   | none=>simp [hj] at h
   | some j=>simp only [hj,J3] at h;subst h;obtain⟨_,v,b,d,e⟩:=s.env.val t j hj;rw [Vx j (by have:=(uz hj).2.1;have:=s.env.small;omega),b];exact⟨e,d⟩
 | const v=>
  simp only [K7] at h;cases hv:ofValue v with
  | none=>simp [hv] at h
  | some c=>simp only [hv,J3] at h;subst h;obtain⟨b,d⟩:=nA ι v c hv;exact⟨b.symm,d n⟩
 | global g=>simp only [K7] at h;split at h;rename_i i;cases h;obtain⟨b,d,e⟩:=s.glob g i;refine⟨?_,?_⟩;show Value.pointer (some ⟨g,0,none⟩)=.pointer (some (ι.at g 0));rw [J5.yQ e,b,d];exact s.gn g i;cases h
 | func f=>simp only [K7,J3] at h;subst h;exact⟨by simp [Act.eval,G6,C9,l9,jq,o9],by simp [G6,C9,d9.lt,Zf,aM]⟩
theorem lF (s:St P ι n slots done ls env a.tmps):∀{l:List Operand} {os:List O8},jF P slots done l=some os->
  l.map a.eval=o9 ι (evs (fJ os) ls env)∧aM n (evs (fJ os) ls env)
 | [],os,h=>by simp only [jF,J3] at h;subst h;simp [fJ,evs,o9,aM]
 | x::l,os,h=>by
  simp only [jF] at h;cases hx:K7 P slots done x with
  | none=>simp [hx] at h
  | some o=>
   cases hl:jF P slots done l with
   | none=>simp [hx,hl] at h
   | some r=>simp only [hx,hl,J3] at h;subst h;obtain⟨h1,h2⟩:=r9 s hx;obtain⟨h3,h4⟩:=lF s hl;refine⟨?_,?_⟩;show a.eval x::l.map a.eval=l9 ι (G6 o ls env)::o9 ι (evs (fJ r) ls env);rw [h1,h3];exact⟨h2,h4⟩
end
section
variable {P:Program}{G:Mem}{w:World}
theorem run_underlying {t:TypeId}{d:TypeDesc}(h:P.underlying t=some d):(underlying t).run P w=.ok d w:=by simp [underlying,h]
theorem run_sizeOf {t:TypeId}{k:Nat}(h:aH P t=some k):(sizeOf t).run P w=.ok k w:=by simp only [aH,abh] at h;obtain⟨i,a,b⟩:=h;simp [sizeOf,typeInfo,a,b]
theorem vM {t:TypeId}{k:Nat}(h:fK P t=some k):∃i,(typeInfo t).run P w=.ok i w∧i.bytes=k:=by simp only [fK,abh] at h;obtain⟨i,a,b⟩:=h;exact⟨i,by simp [typeInfo,a],b⟩
theorem qI {t:TypeId}{b:Bool}(h:wF P t=some b):(isAgg t).run P w=.ok b w:=by
 simp only [wF] at h;cases hu:P.underlying t with
 | none=>simp [hu] at h
 | some d=>simp only [isAgg,Xb,run_underlying hu,J4];cases d<;>simp_all
theorem DR {t:TypeId}{s:Option Nat}(h:partT P t=some s):(s=none∧wF P t=some false∧∃k,aH P t=some k)∨(∃k,s=some k∧wF P t=some true∧aH P t=some k):=by simp only [partT] at h;split at h;rename_i k a b;cases h;exact .inr ⟨k,rfl,a,b⟩;rename_i k a b;cases h;exact .inl ⟨rfl,a,k,b⟩;cases h
theorem cZ {t:TypeId}{z:List d9}(h:qG P t=some z)(ι:J5):∃v,(zeroValue t).run P w=.ok v w∧v.cells=(o9 ι z).toArray∧∀n,aM n z:=by
 simp only [qG] at h;cases hi:P.info? t with
 | none=>simp [hi] at h
 | some i=>
  cases hz:i.zero with
  | none=>simp [hi,hz] at h
  | some v=>
   cases ha:ofValue v with
   | none=>simp [hi,hz,ha] at h
   | some a=>simp only [hi,hz,ha,acX,J3] at h;subst h;obtain⟨b,c⟩:=nA ι v a ha;exact⟨v,by simp [zeroValue,typeInfo,hi,hz],by rw [← b,lD],λn=>uw (c n)⟩
theorem nQ {t:TypeId}{z:d9}(h:zeroV P t=some z)(ι:J5):(zeroValue t).run P w=.ok (l9 ι z) w∧∀n,z.lt n:=by
 simp only [zeroV] at h;cases hi:P.info? t with
 | none=>simp [hi] at h
 | some i=>
  cases hz:i.zero with
  | none=>simp [hi,hz] at h
  | some v=>simp only [hi,hz,acX] at h;obtain⟨a,b⟩:=nA ι v z h;exact⟨by simp [zeroValue,typeInfo,hi,hz,a],b⟩
end
theorem yR (n:Int)(h:-9223372036854775808<=n∧n<9223372036854775808):IntKind.i64.wrap n=n:=by
 have a:((2:Int)^IntKind.i64.bits)=18446744073709551616:=rfl;have b:((2:Int)^(IntKind.i64.bits-1))=9223372036854775808:=rfl;unfold IntKind.wrap;rw [a,b];show (if (true&&decide (n%18446744073709551616≥9223372036854775808))=true then n%18446744073709551616-18446744073709551616 else n%18446744073709551616)=n;obtain⟨c,d⟩:=h;by_cases hn:0<=n;have:n%18446744073709551616=n:=Int.emod_eq_of_lt hn (by omega);rw [this,if_neg (by simp only [aea,decide_eq_true_eq];omega)];have:n%18446744073709551616=n+18446744073709551616:=by rw [← Int.add_emod_right];exact Int.emod_eq_of_lt (by omega) (by omega)
 rw [this,if_pos (by simp only [aea,decide_eq_true_eq];omega)];omega
theorem adb (n:Int):mK n=IntKind.i64.wrap n:=by
 cases n with
 | ofNat m=>
  simp only [mK];cases h:Nat.blt m 9223372036854775808 with
  | true=>
   have:m<9223372036854775808:=(Eq.mp X8 h)
   have a:=yR (Int.ofNat m) ⟨by have:(0:Int)<=Int.ofNat m:=Int.natCast_nonneg m
                                omega,by have:Int.ofNat m=(m:Int):=rfl
                                         omega⟩
   exact (R4 _ _).trans a.symm
  | false=>exact O9 _ _
 | negSucc m=>
  simp only [mK];cases h:Nat.blt m 9223372036854775808 with
  | true=>have:m<9223372036854775808:=(Eq.mp X8 h);have e:=agC m;have a:=yR (Int.negSucc m) ⟨by omega,by omega⟩;exact (R4 _ _).trans a.symm
  | false=>exact O9 _ _
theorem uE (k:IntKind)(n:Int):nY k n=k.wrap n:=by cases k<;>first | exact adb n | rfl
theorem fO (a b:Int):bL a b=(a==b):=by
 cases a with
 | ofNat a=>
  cases b with
  | ofNat b=>show Nat.beq a b=_;by_cases h:a=b;subst h;simp [aah];rw [show Nat.beq a b=false from ab1.2 λe=>h (gI e)];exact (beq_eq_false_iff_ne.2 (λe=>h (Int.ofNat.inj e))).symm
  | negSucc b=>exact (beq_eq_false_iff_ne.2 (λe=>by cases e)).symm
 | negSucc a=>
  cases b with
  | ofNat b=>exact (beq_eq_false_iff_ne.2 (λe=>by cases e)).symm
  | negSucc b=>show Nat.beq a b=_;by_cases h:a=b;subst h;simp [aah];rw [show Nat.beq a b=false from ab1.2 λe=>h (gI e)];exact (beq_eq_false_iff_ne.2 (λe=>h (Int.negSucc.inj e))).symm
theorem blt_eq (a b:Nat):Nat.blt a b=decide (a<b):=by by_cases h:a<b;rw [decide_eq_true h];exact (Eq.mpr X8 h);rw [decide_eq_false h];exact ab1.2 λe=>h (Eq.mp X8 e)
theorem iX (a b:Int):pO a b=decide (a<b):=by
 cases a with
 | ofNat a=>
  cases b with
  | ofNat b=>exact (blt_eq a b).trans (decide_eq_decide.2 (by show a<b↔(a:Int)<(b:Int);omega))
  | negSucc b=>exact (decide_eq_false (by rw [agC];show ¬ (a:Int) < _;omega)).symm
 | negSucc a=>
  cases b with
  | ofNat b=>exact (decide_eq_true (by rw [agC];show _<(b:Int);omega)).symm
  | negSucc b=>exact (blt_eq b a).trans (decide_eq_decide.2 (by rw [agC,agC];omega))
theorem OZ (a b:IntKind):YU a b=decide (a=b):=by cases a<;>cases b<;>rfl
theorem gV:∀a b:List UInt8,strEq a b=(a==b)
 | [],[]=>rfl
 | [],_ :: _=>rfl
 | _ :: _,[]=>rfl
 | x::a,y::b=>by
  show bi (Nat.beq x.toNat y.toNat) (strEq a b) false=_;rw [gV a b];by_cases h:x=y;subst h;simp [aah];have:Nat.beq x.toNat y.toNat=false:=by rw [ab1];intro e;exact h (ala.1 (gI e))
  rw [this];simp [h]
theorem DT:∀a b:List UInt8,rD a b=Op.bytesLess a b
 | _,[]=>by cases ‹List UInt8› <;> rfl
 | [],_ :: _=>rfl
 | x::a,y::b=>by simp [rD,Op.bytesLess,DT a b]
theorem J5.oF (ι:J5)(i o k:Nat):(ι.at i o).add k=ι.at i (o+k):=by
 unfold Addr.add J5.at
 split;rename_i h;subst h;rfl;rename_i h;have:¬ (o+k=0):=by omega
 simp [aeo,this];intro _ a;exact absurd a h
section
variable {β:Type}{v:d9}{r:β}
theorem dW {k:Nat->Nat->Option β}(h:gT v k=some r):∃i o,v=.ptr i o∧k i o=some r:=by cases v<;>first | exact⟨_,_,rfl,h⟩ | (simp [gT] at h)
theorem jZ {k:IntKind->Int->Option β}(h:rA v k=some r):∃i n,v=.int i n∧k i n=some r:=by cases v<;>first | exact⟨_,_,rfl,h⟩ | (simp [rA] at h)
theorem qJ {k:Bool->Option β}(h:pK v k=some r):∃b,v=.bool b∧k b=some r:=by cases v<;>first | exact⟨_,rfl,h⟩ | (simp [pK] at h)
theorem iC {k:List UInt8->Option β}(h:pF v k=some r):∃s,v=.str s∧k s=some r:=by cases v<;>first | exact⟨_,rfl,h⟩ | (simp [pF] at h)
theorem dX {k:List d9->Option β}(h:tX v k=some r):∃l,v=.agg l∧k l=some r:=by cases v<;>first | exact⟨_,rfl,h⟩ | (simp [tX] at h)
theorem Zi {k:List d9->Option β}(h:KZ v k=some r):∃l,v=.tuple l∧k l=some r:=by cases v<;>first | exact⟨_,rfl,h⟩ | (simp [KZ] at h)
theorem vN {a:Option β}{k:Nat->Option β}(h:tY v a k=some r):(v=.nilMap∧a=some r)∨∃i,v=.map i∧k i=some r:=by cases v<;>first | exact .inl ⟨rfl,h⟩ | exact .inr ⟨_,rfl,h⟩ | (simp [tY] at h)
theorem rO {e:Option β}{k u:Nat->Nat->Nat->Nat->Option β}(h:qD v e k u=some r):
  (v=.nilSlice∧e=some r)∨(∃a b c d,v=.slice a b c d∧k a b c d=some r)∨∃a b c d,v=.sliceU a b c d∧u a b c d=some r:=by
 cases v<;>first | exact .inl ⟨rfl,h⟩ | exact .inr (.inl ⟨_,_,_,_,rfl,h⟩) | exact .inr (.inr ⟨_,_,_,_,rfl,h⟩) | (simp [qD] at h)
theorem Jl {k:Fn->List d9->List d9->Option β}(h:La v k=some r):∃f a b,v=.func f a b∧k f a b=some r:=by cases v<;>first | exact⟨_,_,_,rfl,h⟩ | (simp [La] at h)
theorem Zj {n:Int}{k:Nat->Option β}(h:Lb n k=some r):∃m:Nat,n=(m:Int)∧k m=some r:=by
 cases n with
 | ofNat m=>exact⟨m,rfl,h⟩
 | negSucc m=>simp [Lb] at h
theorem fC {k:Nat->Option β}(h:jQ v k=some r):∃i,∃m:Nat,v=.int i (m:Int)∧k m=some r:=by obtain⟨i,n,rfl,h⟩:=jZ h;obtain⟨m,rfl,h⟩:=Zj h;exact⟨i,m,rfl,h⟩
theorem idx_eq {len:Nat}{k:Nat->Option β}(h:idx len v k=some r):∃i,∃m:Nat,v=.int i (m:Int)∧m<len∧k m=some r:=by obtain⟨i,m,rfl,h⟩:=fC h;obtain⟨a,b⟩:=C8 h;exact⟨i,m,rfl,Eq.mp X8 a,b⟩
end
section
variable {P:Program}{G:Mem}{ι:J5}{n:Nm}
theorem rP {c:BinOp}{t:TypeId}{x y:Operand}{a b:Value}{w:World}
  (h:∀p q,a≠.agg p∨b≠.agg q) (h':a≠.nilIface∨b≠.nilIface∨wN x=true∨wN y=true):(eqGuard c t x y a b).run P w=.ok () w:=by
 unfold eqGuard;cases c<;>simp<;>(
  split;rename_i d e;rcases h' with h' | h' | h' | h';exact absurd rfl h';exact absurd rfl h';cases x<;>simp_all [wN]
  cases y<;>simp_all [wN]
  rename_i p q;rcases h p q with h | h<;>exact absurd rfl h
  rfl)
theorem Jm {c:BinOp}(e:c≠.shl)(f:c≠.shr){k:IntKind}{a b:Int}{v:d9}(h:IY c k a b=some v)(t:TypeId)(w:World):
  (binOp c t (.int k a) (.int k b)).run P w=.ok (l9 ι v) w∧v.lt n:=by
 cases c<;>first
  | exact absurd rfl e
  | exact absurd rfl f
  | (simp only [IY,bM,Dn,UR,gD,Ot,IX,QF,Ou,Sn,agO,iOr,agP,QE,J3] at h
     subst h;simp [binOp,Op.intArith,Op.intCmp,Op.intBits,l9,d9.lt,uE,fO,iX,yK,bne]
     done)
  | (simp only [IY,Lc,YV,Sl] at h
     have d:b≠0:=(by rintro rfl;simp at h);split at h;exact absurd rfl d;cases h;simp [binOp,Op.intDiv,d,l9,d9.lt,uE])
  | (simp only [IY,QF,Sn,J3] at h
     subst h;simp [binOp,Op.intCmp,l9,d9.lt,iX];rw [adX];simp)
theorem oG (s:List UInt8):(⟨s.toArray⟩:ByteArray).size=s.length:=by simp [ByteArray.size]
theorem Jo {c:BinOp}{a b:List UInt8}{v:d9}(h:IZ c a b=some v)(t:TypeId)(w:World):
  (binOp c t (.string ⟨a.toArray⟩) (.string ⟨b.toArray⟩)).run P w=.ok (l9 ι v) w∧v.lt n:=by
 cases c<;>first
  | (simp only [IZ,qE] at h;cases h;done)
  | (simp only [IZ,gF,Ov,KR,UC,OH,UU,J3] at h
     subst h;simp [binOp,Op.stringOp,l9,d9.lt,gV,DT]
     done)
  | (simp only [IZ,P6] at h
     obtain⟨d,e⟩:=C8 h;cases e;have f:len' a+len' b<9223372036854775808:=Eq.mp X8 d;simp only [I5] at f;simp [binOp,Op.stringOp,oG,l9,d9.lt];rw [if_neg (by omega)];congr 3)
theorem rQ {c:BinOp}(e:c≠.shl)(f:c≠.shr){x y v:d9}(h:Cj (IY c) (IZ c) x y=some v)(t:TypeId)(w:World):
  (binOp c t (l9 ι x) (l9 ι y)).run P w=.ok (l9 ι v) w∧v.lt n:=by
 cases x<;>try (simp [Cj] at h;done)
 rename_i k a;simp only [Cj] at h;obtain⟨i,b,rfl,h⟩:=jZ h;obtain⟨d,g⟩:=C8 h;rw [OZ,decide_eq_true_eq] at d;subst d;exact Jm e f g t w;rename_i a;simp only [Cj] at h;obtain⟨b,rfl,h⟩:=iC h;exact Jo h t w
theorem Sz {b:BinOp}{x y v:d9}(h:Cj (IY b) (IZ b) x y=some v):
  (∃k a,x=.int k a)∨∃a,x=.str a:=by
 cases x<;>first | exact .inl ⟨_,_,rfl⟩ | exact .inr ⟨_,rfl⟩ | (simp [Cj] at h;done)
theorem GD {x y v:d9}(h:YW x y=some v)(t:TypeId)(w:World):(binOp .shl t (l9 ι x) (l9 ι y)).run P w=.ok (l9 ι v) w∧v.lt n:=by simp only [YW] at h;obtain⟨k,a,rfl,h⟩:=jZ h;obtain⟨i,m,rfl,h⟩:=fC h;cases h;simp [binOp,Op.shift,l9,d9.lt,uE,show ¬ ((m:Int)<0) from by omega]
theorem GH {x y v:d9}(h:YX x y=some v)(t:TypeId)(w:World):(binOp .shr t (l9 ι x) (l9 ι y)).run P w=.ok (l9 ι v) w∧v.lt n:=by simp only [YX] at h;obtain⟨k,a,rfl,h⟩:=jZ h;obtain⟨i,m,rfl,h⟩:=fC h;cases h;simp [binOp,Op.shift,l9,d9.lt,show ¬ ((m:Int)<0) from by omega]
theorem Ai (a b:Bool):Dp a b=(a==b):=by cases a<;>cases b<;>rfl
theorem oH {x y:d9}{r:Bool}(h:K8 x y=some r):∃k a b,x=.int k a∧y=.int k b∧r=(a==b):=by obtain⟨k,a,d,e⟩:=jZ h;obtain⟨j,b,f,g⟩:=jZ e;obtain⟨c,i⟩:=C8 g;rw [OZ,decide_eq_true_eq] at c;subst c;cases i;exact⟨_,_,_,d,f,fO _ _⟩
theorem gW {x y:d9}{r:Bool}(h:nZ x y=some r):∃a b,x=.bool a∧y=.bool b∧r=(a==b):=by obtain⟨a,c,d⟩:=qJ h;obtain⟨b,e,f⟩:=qJ d;cases f;exact⟨_,_,c,e,Ai _ _⟩
theorem jr {x y:d9}{r:Bool}(h:eqStr x y=some r):∃a b,x=.str a∧y=.str b∧r=(a==b):=by obtain⟨a,c,d⟩:=iC h;obtain⟨b,e,f⟩:=iC d;cases f;exact⟨_,_,c,e,gV _ _⟩
end
section
variable {P:Program}{G:Mem}{ι:J5}{n:Nm}
theorem lG (a b:List d9):bF [] a b=some true:=rfl
theorem jG (k:PK)(c:List PK)(x y:d9)(a b:List d9):bF (k::c) (x::a) (y::b)=ob (FN k x y) λr=>bi r (bF c a b) (some false):=rfl
theorem jH {k:PK}{c:List PK}{a b:List d9}{r:Bool}(h:bF (k::c) a b=some r):
  ∃x xs y ys s,a=x::xs∧b=y::ys∧FN k x y=some s∧bi s (bF c xs ys) (some false)=some r:=by
 cases a with
 | nil=>cases h
 | cons x xs=>
  cases b with
  | nil=>cases h
  | cons y ys=>rw [jG] at h;obtain⟨s,d,e⟩:=u6 h;exact⟨x,xs,y,ys,s,rfl,rfl,d,e⟩
theorem Pb (c e:List PK):∀(a b:List d9) (r:Bool),bF (c++e) a b=some r->
  (bF c a b=some false∧r=false)∨(bF c a b=some true∧bF e (a.drop c.length) (b.drop c.length)=some r):=by
 induction c with
 | nil=>intro a b r h;right;exact⟨rfl,by simpa using h⟩
 | cons k c ih=>
  intro a b r h;obtain⟨x,g,y,i,s,rfl,rfl,f,d⟩:=jH h;rw [jG,f];cases s with
  | false=>left;cases d;exact⟨rfl,rfl⟩
  | true=>simpa using ih g i r d
theorem Bz (c:List PK):∀(m:Nat) (a b:List d9),c.length<=m->bF c (a.take m) (b.take m)=bF c a b:=by
 induction c with
 | nil=>intro m a b _;rfl
 | cons k c ih=>
  intro m a b h;obtain⟨m,rfl⟩:∃m',m=m'+1:=⟨m-1,by simp at h;omega⟩;cases a with
  | nil=>rfl
  | cons x xs=>
   cases b with
   | nil=>rfl
   | cons y ys=>rw [ahS,ahS,jG,jG,ih m xs ys (by simpa using h)]
def mkV (ι:J5)(agg:Bool)(l:List d9):Value:=if agg then .agg (o9 ι l).toArray else l9 ι (l.headD .undef)
theorem Jp (ι:J5)(l:List d9)(o k:Nat):((o9 ι l).toArray.extract o (o+k))=(o9 ι ((l.drop o).take k)).toArray:=by rw [List.extract_toArray];congr 1;rw [aU,aU,agx,ajs];simp [aln,alo]
theorem uF {t:TypeId}{a:Bool}{k:Nat}(b:wF P t=some a)(hs:aH P t=some k)(l:List d9)(o:Nat)(c:a=false->o<l.length∧k=1)(w:World):
  (part t (o9 ι l).toArray o).run P w=.ok (mkV ι a ((l.drop o).take k)) w:=by
 simp only [part,Xb,qI b,J4];cases a with
 | true=>simp only [if_true,Xb,run_sizeOf hs,J4,Z7,Jp];rfl
 | false=>
  obtain⟨h,rfl⟩:=c rfl;have:(o9 ι l).toArray[o]?=some (l9 ι l[o]):=by simp [aG,q9 h]
  simp only [aa9,if_false,this,mkV,Z7];congr 2;rw [Y8 h];rfl
theorem DU {t:TypeId}{k:IntKind}(h:P.underlying t=some (.int k)):wF P t=some false:=by simp [wF,h]
theorem SA {t:TypeId}(h:P.underlying t=some .bool):wF P t=some false:=by simp [wF,h]
theorem LB {t:TypeId}(h:P.underlying t=some .string):wF P t=some false:=by simp [wF,h]
theorem pW {t:TypeId}{a:Array Field}(h:P.underlying t=some (.struct a)):wF P t=some true:=by simp [wF,h]
theorem uG {t:TypeId}{k:IntKind}(h:P.underlying t=some (.int k)){x y:d9}{r:Bool}(c:K8 x y=some r)(d:Nat)(w:World):
  (Op.equalIn (d+1) t (l9 ι x) (l9 ι y)).run P w=.ok r w:=by
 obtain⟨k,a,b,rfl,rfl,rfl⟩:=oH c;simp [Op.equalIn,run_underlying h,l9]
theorem yS {t:TypeId}(h:P.underlying t=some .bool){x y:d9}{r:Bool}(c:nZ x y=some r)(d:Nat)(w:World):
  (Op.equalIn (d+1) t (l9 ι x) (l9 ι y)).run P w=.ok r w:=by
 obtain⟨a,b,rfl,rfl,rfl⟩:=gW c;simp [Op.equalIn,run_underlying h,l9]
theorem lS (a b:List UInt8):((⟨a.toArray⟩:ByteArray)==⟨b.toArray⟩)=(a==b):=by show ByteArray.beq _ _=_;simp [ByteArray.beq]
theorem BA {t:TypeId}(h:P.underlying t=some .string){x y:d9}{r:Bool}(c:eqStr x y=some r)(d:Nat)(w:World):
  (Op.equalIn (d+1) t (l9 ι x) (l9 ι y)).run P w=.ok r w:=by
 obtain⟨a,b,rfl,rfl,rfl⟩:=jr c;simp [Op.equalIn,run_underlying h,l9,lS]
def jI (d:Nat)(X Y:Array Value):List Field->Sem Bool
 | []=>pure true
 | f::l=>do
  if f.name≠ "_" then
   if !(← Op.equalIn d f.type (← part f.type X f.offset) (← part f.type Y f.offset)) then return false
  jI d X Y l
theorem Jq (d:Nat)(X Y:Array Value)(l:List Field):
  (do
   let s ← forIn l ((none,()):Option Bool×Unit) λf _=>
    if f.name≠ "_" then do
     let a ← part f.type X f.offset
     let b ← part f.type Y f.offset
     let e ← Op.equalIn d f.type a b
     if (!e)=true then pure (ForInStep.done (some false,())) else pure (ForInStep.yield (none,()))
    else pure (ForInStep.yield (none,()))
   match s.fst with
   | some r=>pure r
   | none=>pure true:Sem Bool)=jI d X Y l:=by
 induction l with
 | nil=>simp [jI]
 | cons f l ih=>rw [ahO];simp only [jI];rw [← ih];by_cases hf:f.name= "_";simp [hf];simp only [ne_eq,hf,not_false_eq_true,if_true,bind_assoc];congr 1;funext a;congr 1;funext b;congr 1;funext e;cases e<;>simp
theorem DV {t:TypeId}{b:Array Field}(h:P.underlying t=some (.struct b))(hs:P.stoodInHeld t=false)(X Y:Array Value)(d:Nat)(w:World):
  (Op.equalIn (d+1) t (.agg X) (.agg Y)).run P w=(jI d X Y b.toList).run P w:=by
 simp only [Op.equalIn,Xb,run_underlying h,J4,run_program,hs];rw [← ahW,← Jq];simp;congr 1;funext a w';obtain⟨o,u⟩:=a;cases o<;>rfl
theorem GI:∀(d:Nat) (t:TypeId) (ks:List PK),fB P d t=some ks->∃agg,wF P t=some agg∧aH P t=some ks.length∧(agg=false->ks.length=1)∧
  ∀D,d<=D->∀(a b:List d9) (r:Bool),bF ks a b=some r->∀w,(Op.equalIn D t (mkV ι agg a) (mkV ι agg b)).run P w=.ok r w:=by
 intro d;induction d with
 | zero=>intro t ks h;simp [fB] at h
 | succ d ih=>
  intro t ks h;simp only [fB] at h;cases hu:P.underlying t with
  | none=>simp [hu] at h
  | some u=>
   rw [hu] at h;cases u<;>try (simp at h;done)
   ·
    simp only at h;split at h;rename_i k;cases h;refine⟨false,SA hu,k,λ_=>rfl,λD F a b r n w=>?_⟩;obtain⟨x,I,y,J,s,rfl,rfl,m,q⟩:=jH n;obtain⟨D,rfl⟩:∃D',D=D'+1:=⟨D-1,by omega⟩;have:s=r:=by cases s<;>simpa [lG] using q
    subst this;exact yS hu m D w;cases h
   simp only at h;split at h;rename_i k;cases h;refine⟨false,DU hu,k,λ_=>rfl,λD F a b r n w=>?_⟩;obtain⟨x,I,y,J,s,rfl,rfl,m,q⟩:=jH n;obtain⟨D,rfl⟩:∃D',D=D'+1:=⟨D-1,by omega⟩;have:s=r:=by cases s<;>simpa [lG] using q
   subst this;exact uG hu m D w;cases h;simp only at h;split at h;rename_i k;cases h;refine⟨false,LB hu,k,λ_=>rfl,λD F a b r n w=>?_⟩;obtain⟨x,I,y,J,s,rfl,rfl,m,q⟩:=jH n;obtain⟨D,rfl⟩:∃D',D=D'+1:=⟨D-1,by omega⟩;have:s=r:=by cases s<;>simpa [lG] using q
   subst this;exact BA hu m D w;cases h;rename_i K;simp only at h;cases hf:oz (fB P d) K.toList 0 with
   | none=>simp [hf] at h
   | some ks'=>
    simp only [hf] at h;split at h;rename_i k;cases h;refine⟨true,pW hu,k.2,(λh=>by cases h),λD F a b r n w=>?_⟩;obtain⟨D,rfl⟩:∃D',D=D'+1:=⟨D-1,by omega⟩;simp only [mkV,if_true];rw [DV hu k.1];have H:∀(l:List Field) (g:Nat) (e:List PK) (j:List PK),ks=j++e->j.length=g->oz (fB P d) l g=some e->
      ∀r,bF e (a.drop g) (b.drop g)=some r->(jI D (o9 ι a).toArray (o9 ι b).toArray l).run P w=.ok r w:=by
     intro l;induction l with
     | nil=>intro g e j _ _ i r B;simp only [oz,J3] at i;subst i;rw [lG] at B;cases B;simp [jI]
     | cons f l ihl=>
      intro g e j G A i r B;simp only [oz] at i;split at i;rename_i N;cases hk:fB P d f.type with
      | none=>simp [hk] at i
      | some kf=>
       simp only [hk] at i;cases hrest:oz (fB P d) l (g+kf.length) with
       | none=>simp [hrest] at i
       | some kr=>
        simp only [hrest,J3] at i;subst i;obtain⟨agg,M,C,m,L⟩:=ih f.type kf hk;have z:∀(c:List d9),(a=c∨b=c)->agg=false->g<c.length∧kf.length=1:=by
         intro c O v;have p:=m v;refine⟨?_,p⟩;cases kf with
         | nil=>simp at p
         | cons k0 kf=>obtain⟨x,I,y,J,s,o,E,_,_⟩:=jH B;rcases O with rfl | rfl;have:=congrArg List.length o;simp at this;omega;have:=congrArg List.length E;simp at this;omega
        simp only [jI,if_pos N.1,Xb];rw [N.2,uF M C _ _ (z a (.inl rfl)),J4,uF M C _ _ (z b (.inr rfl)),J4];rcases Pb kf kr _ _ r B with⟨o,rfl⟩ | ⟨o,E⟩;rw [L D (by omega) _ _ _ ((Bz kf _ _ _ (J2 _)).trans o) w];simp;rw [L D (by omega) _ _ _ ((Bz kf _ _ _ (J2 _)).trans o) w];simp only [J4,ahY,aa9,if_false];refine ihl (g+kf.length) kr (j++kf) (by rw [G];simp) (by simp [A]) hrest r ?_;simpa [ahV] using E
      cases i
    exact H K.toList 0 ks [] rfl rfl hf r (by simpa using n);cases h
end
section
variable {P:Program}{G:Mem}{ι:J5}{n:Nm}
theorem Vy {t:TypeId}{x y:d9}{r:Bool}(d:(∀k a,x≠.int k a)∧∀s,x≠.str s)(h:∀w,(Op.equal t (l9 ι x) (l9 ι y)).run P w=.ok r w)(w:World):
  (binOp .eql t (l9 ι x) (l9 ι y)).run P w=.ok (.bool r) w∧(binOp .neq t (l9 ι x) (l9 ι y)).run P w=.ok (.bool (!r)) w:=by
 have b:binOp .eql t (l9 ι x) (l9 ι y)=(do pure (.bool (← Op.equal t (l9 ι x) (l9 ι y)))):=by cases x<;>simp_all [l9,binOp]
 have c:binOp .neq t (l9 ι x) (l9 ι y)=(do pure (.bool (!(← Op.equal t (l9 ι x) (l9 ι y))))):=by cases x<;>simp_all [l9,binOp]
 rw [b,c];simp [h]
theorem LC {t e:TypeId}(g:P.underlying t=some (.pointer e)){j:Nat}(hs:aH P e=some j){x y:d9}{r:Bool}(f:iL x y=some r)(d:Nat)(w:World):
  (Op.equalIn (d+1) t (l9 ι x) (l9 ι y)).run P w=.ok r w:=by
 cases x<;>cases y<;>simp only [iL,J3,reduceCtorEq] at f
 case ptr.ptr a b c d'=>obtain⟨h,f⟩:=C8 f;obtain⟨i,f⟩:=C8 f;cases f;obtain rfl:=gI h;obtain rfl:=gI i;simp only [Op.equalIn,Xb,run_underlying g,l9,J4,run_sizeOf hs];split<;>simp [sameAddr]
 all_goals (subst f;simp [Op.equalIn,run_underlying g,l9])
theorem FW {t e:TypeId}(b:P.underlying t=some (.slice e)){x y:d9}{r:Bool}(a:yL x y=some r)(d:Nat)(w:World):
  (Op.equalIn (d+1) t (l9 ι x) (l9 ι y)).run P w=.ok r w:=by
 cases x<;>cases y<;>simp only [yL,J3,reduceCtorEq] at a<;>subst a<;>simp [Op.equalIn,run_underlying b,l9]
theorem LD {t k e:TypeId}(b:P.underlying t=some (.map k e)){x y:d9}{r:Bool}(a:Ld x y=some r)(d:Nat)(w:World):
  (Op.equalIn (d+1) t (l9 ι x) (l9 ι y)).run P w=.ok r w:=by
 cases x<;>cases y<;>simp only [Ld,J3,reduceCtorEq] at a<;>subst a<;>simp [Op.equalIn,run_underlying b,l9]
theorem Jr {t:TypeId}{a b:Array TypeId}{c:Bool}(f:P.underlying t=some (.func a b c)){x y:d9}{r:Bool}(e:Dq x y=some r)(d:Nat)(w:World):
  (Op.equalIn (d+1) t (l9 ι x) (l9 ι y)).run P w=.ok r w:=by
 cases x<;>cases y<;>simp only [Dq,J3,reduceCtorEq] at e<;>subst e<;>simp [Op.equalIn,run_underlying f,l9]
theorem FX {t:TypeId}{c:Array (String×TypeId)}(b:P.underlying t=some (.interface c)){x y:d9}{r:Bool}(a:nk x y=some r)(d:Nat)(w:World):
  (Op.equalIn (d+1) t (l9 ι x) (l9 ι y)).run P w=.ok r w:=by
 cases x<;>cases y<;>simp only [nk,J3,reduceCtorEq] at a<;>subst a<;>simp [Op.equalIn,run_underlying b,l9]
theorem Js {c:Bool}{t:TypeId}{k:Aa}(a:Vr P c t=some k){x y:d9}{r:Bool}(b:mM k x y=some r)(d:Nat)(n:10<=d+1)(w:World):
  (Op.equalIn (d+1) t (l9 ι x) (l9 ι y)).run P w=.ok r w:=by
 simp only [Vr] at a;cases hu:P.underlying t with
 | none=>simp [hu] at a
 | some u=>
  rw [hu] at a;cases u<;>try (simp at a;done)
  simp only [J3] at a;subst a;exact yS hu b d w;simp only [J3] at a;subst a;exact uG hu b d w;simp only [J3] at a;subst a;exact BA hu b d w;rename_i e;simp only at a;cases hs:aH P e with
  | none=>rw [hs] at a;cases a
  | some sz=>rw [hs] at a;cases a;exact LC hu hs b d w
  simp only [J3] at a;subst a;exact FW hu b d w;simp only [J3] at a;subst a;exact LD hu b d w;rename_i p;simp only at a;cases hf:fB P 10 t with
  | none=>simp [hf] at a
  | some ks=>simp only [hf] at a;split at a;cases a;obtain⟨l,rfl,h⟩:=dX b;obtain⟨m,rfl,i⟩:=dX h;obtain⟨g,f,o,q,j⟩:=GI (P:=P) (ι:=ι) 10 t ks hf;rw [pW hu] at f;cases f;have:=j (d+1) n l m r i w;simpa [mkV,l9] using this;cases a
  simp only [J3] at a;subst a;exact Jr hu b d w;simp only at a;split at a;cases a;exact FX hu b d w;cases a
theorem BD {c:Bool}{t:TypeId}{k:Aa}(b:Vr P c t=some k){x y:d9}{r:Bool}(a:mM k x y=some r)(w:World):
  (Op.equal t (l9 ι x) (l9 ι y)).run P w=.ok r w:=Js b a 9999 (by omega) w
theorem Vz {c:Bool}{t:TypeId}{k:Aa}(g:Vr P c t=some k)(e:k≠.prim .i)(f:k≠.prim .s){x y:d9}{r:Bool}(d:mM k x y=some r)(w:World):
  (binOp .eql t (l9 ι x) (l9 ι y)).run P w=.ok (.bool r) w∧(binOp .neq t (l9 ι x) (l9 ι y)).run P w=.ok (.bool (!r)) w:=by
 refine Vy ?_ (λw=>BD g d w) w;cases k<;>first
  | (rename_i p;cases p<;>first
    | exact absurd rfl e
    | exact absurd rfl f
    | (obtain⟨a,b,rfl,rfl,rfl⟩:=gW d;simp))
  | (obtain⟨l,rfl,_⟩:=dX d;simp)
  | (cases x<;>cases y<;>simp [mM,iL,yL,Ld,Dq,nk] at d ⊢)
def pX (d:Nat)(e:TypeId)(X Y:Array Value):List Nat->Sem Bool
 | []=>pure true
 | i::l=>do
  if !(← Op.equalIn d e (← part e X (i*1)) (← part e Y (i*1))) then return false
  pX d e X Y l
theorem Pd (d:Nat)(e:TypeId)(X Y:Array Value)(l:List Nat):
  (do
   let s ← forIn l ((none,()):Option Bool×Unit) λi _=>do
       let a ← part e X (i*1)
       let b ← part e Y (i*1)
       let r ← Op.equalIn d e a b
       if (!r)=true then pure (ForInStep.done (some false,())) else pure (ForInStep.yield (none,()))
   match s.fst with
   | some r=>pure r
   | none=>pure true:Sem Bool)=pX d e X Y l:=by
 induction l with
 | nil=>simp [pX]
 | cons f l ih=>rw [ahO];simp only [pX];rw [← ih];simp only [bind_assoc];congr 1;funext a;congr 1;funext b;congr 1;funext r;cases r<;>simp
theorem FY {t e:TypeId}{k:Nat}(h:P.underlying t=some (.array k e))(hs:aH P e=some 1)(X Y:Array Value)(d:Nat)(w:World):
  (Op.equalIn (d+1) t (.agg X) (.agg Y)).run P w=(pX d e X Y (List.range k)).run P w:=by
 simp only [Op.equalIn,Xb,run_underlying h,J4,run_sizeOf hs];rw [Std.Legacy.Range.forIn_eq_forIn_range'];rw [← Pd,ahQ];simp;congr 1;funext a w';obtain⟨o,u⟩:=a;cases o<;>rfl
theorem SE {e:TypeId}{kk:IntKind}(m:P.underlying e=some (.int kk))(hs:aH P e=some 1)(a b:List d9)(d:Nat)(w:World):∀(j off:Nat) (r:Bool),
  bF (List.replicate j .i) (a.drop off) (b.drop off)=some r->(pX (d+1) e (o9 ι a).toArray (o9 ι b).toArray (List.range' off j)).run P w=.ok r w:=by
 intro j;induction j with
 | zero=>intro off r h;rw [List.replicate_zero,lG] at h;cases h;simp [pX]
 | succ j ih=>
  intro off r h;rw [List.replicate_succ] at h;obtain⟨x,xs,y,ys,s,k,l,p,c⟩:=jH h;have t:off<a.length:=by have:=congrArg List.length k;simp at this;omega
  have u:off<b.length:=by have:=congrArg List.length l;simp at this;omega
  have f:=uF (P:=P) (ι:=ι) (DU m) hs a off (λ_=>⟨t,rfl⟩) w;have g:=uF (P:=P) (ι:=ι) (DU m) hs b off (λ_=>⟨u,rfl⟩) w;rw [k] at f;rw [l] at g;have f:(part e (o9 ι a).toArray off).run P w=.ok (l9 ι x) w:=f;have g:(part e (o9 ι b).toArray off).run P w=.ok (l9 ι y) w:=g;have q:=uG (ι:=ι) m p d w;rw [List.range'_succ];simp only [pX,ald,Xb,f,g,q,J4];cases s with
  | false=>have c:some false=some r:=c;cases c;simp
  | true=>
   have c:bF (List.replicate j .i) xs ys=some r:=c;simp only [ahY,aa9,if_false];refine ih (off+1) r ?_;have n:a.drop (off+1)=xs:=by rw [← ahV,k];rfl
   have o:b.drop (off+1)=ys:=by rw [← ahV,l];rfl
   rw [n,o];exact c
theorem Aj {t:TypeId}{k:Aa}(h:Ze P t=some k):∃n e kk,P.underlying t=some (.array n e)∧P.underlying e=some (.int kk)∧aH P e=some 1∧P.eqGuardType P.depth t=false∧k=.flat (List.replicate n .i):=by unfold Ze at h;split at h;rename_i n e c;split at h;rename_i kk b;split at h;rename_i a;cases h;exact⟨n,e,kk,c,b,a.1,a.2,rfl⟩;cases h;cases h;cases h
theorem xL {c:Bool}{t:TypeId}{k:Aa}(h:Vs P c t=some k):Vr P c t=some k∨Ze P t=some k:=by unfold Vs at h;split at h;rename_i b a;cases h;exact .inl a;exact .inr h
theorem SF {c:Bool}{t:TypeId}{k:Aa}(a:Vs P c t=some k)(b:k≠.prim .i)(d:k≠.prim .s){x y:d9}{r:Bool}(g:mM k x y=some r)(w:World):
  (binOp .eql t (l9 ι x) (l9 ι y)).run P w=.ok (.bool r) w∧(binOp .neq t (l9 ι x) (l9 ι y)).run P w=.ok (.bool (!r)) w:=by
 rcases xL a with a | a;exact Vz a b d g w;obtain⟨n,e,q,p,f,h,_,rfl⟩:=Aj a;obtain⟨l,rfl,j⟩:=dX g;obtain⟨m,rfl,o⟩:=dX j;refine Vy (by simp) (λw=>?_) w;have:Op.equal t (l9 ι (.agg l)) (l9 ι (.agg m))=Op.equalIn (9999+1) t (.agg (o9 ι l).toArray) (.agg (o9 ι m).toArray):=by simp [l9,Op.equal,Op.maxDepth]
 rw [this,FY p h,ahQ];exact SE f h l m 9998 w n 0 r (by simpa using o)
end
section
variable {P:Program}{G:Mem}{ι:J5}{n:Nm}{slots:List Nat}{done:List (Option Nat)}{ls:List d9}{env:T d9}{a:Act}
def Gives (P:Program)(ρ:Operand->Value)(op:Op)(v:Value):Prop:=
 ∀(o:Oper),o.op=op->∀w,(execOp ρ o).run P w=.ok (.value v) w
theorem mV {a:BinOp}(b:a≠.eql)(c:a≠.neq){t:TypeId}{x y:Operand}{u v:Value}{w:World}:(eqGuard a t x y u v).run P w=.ok () w:=by unfold eqGuard;cases a<;>first | exact absurd rfl b | exact absurd rfl c | simp
theorem LG {a:BinOp}{t:TypeId}{x y:Operand}{u v:Array Value}{w:World}(h:P.eqGuardType P.depth t=false):(eqGuard a t x y (.agg u) (.agg v)).run P w=.ok () w:=by unfold eqGuard;cases a<;>simp [h]
theorem qK {b:BinOp}{t:TypeId}{x y:Operand}{e:TypeId}{a:Operand->Value}{v:Value}
  (c:∀w,(eqGuard b t x y (a x) (a y)).run P w=.ok () w) (h:∀w,(binOp b t (a x) (a y)).run P w=.ok v w):Gives P a (.binOp b t x y e) v:=by
 intro o d w;simp [execOp,d,c,h]
theorem bind_eq {α β:Type}{o:Option α}{f:α->Option β}{b:β}(h:(o >>= f)=some b):∃a,o=some a∧f a=some b:=by
 cases o with
 | none=>cases h
 | some a=>exact⟨a,rfl,h⟩
theorem VA (p:Nat×Nat×OF)(ps:List (Nat×Nat×OF))(ls:List d9)(env:T d9)(cs:List d9):
  lay (p::ps) ls env cs=bi (Nat.beq (len' (p.2.2 ls env).cells) p.2.1) (bi (Nat.ble (Nat.add p.1 p.2.1) (len' cs)) (lay ps ls env (kU p.1 (p.2.2 ls env).cells cs)) none) none:=rfl
theorem Ak (a:List Value):∀(A:Array Value) (off i:Nat),off+i+a.length<=A.size->
  ((a.zipIdx i).foldl (λcs (p:Value×Nat)=>cs.setIfInBounds (off+p.2) p.1) A).toList=A.toList.take (off+i)++(a++A.toList.drop (off+i+a.length)):=by
 induction a with
 | nil=>intro A off i h;simp
 | cons v a ih=>
  intro A off i h;simp only [List.zipIdx_cons,ak7,Y1] at h ⊢;rw [ih _ _ _ (by simp;omega)];simp only [Array.toList_setIfInBounds];have b:off+i<A.toList.length:=by simp;omega
  rw [List.take_set,show off+(i+1)=off+i+1 from by omega];rw [List.drop_set_of_lt (by omega)];rw [aa1 b,List.set_append_right _ _ (by simp;omega)];simp [show min (off+i) A.size=off+i from by simp at b;omega];congr 1;omega
theorem Al (s:St P ι n slots done ls env a.tmps)(d:Nat->Option (Nat×Nat)):∀(parts:List (Nat×Operand)) (ps:List (Nat×Nat×O8)),
  um P slots done d parts=some ps->∀(cs r:List d9),aM n cs->lay (Ae ps) ls env cs=some r->
   Instr.fill d (o9 ι cs).toArray (parts.map λp=>(p.1,a.eval p.2))=some (o9 ι r).toArray∧aM n r∧r.length=cs.length:=by
 intro parts;induction parts with
 | nil=>intro ps h cs r c f;simp only [um,J3] at h;subst h;cases f;exact⟨rfl,c,rfl⟩
 | cons p parts ih=>
  intro ps h cs r c f;simp only [um] at h;split at h;rename_i b k x j C D g;cases h;simp only [Ae,VA] at f;obtain⟨o,f⟩:=C8 f;obtain⟨q,f⟩:=C8 f;obtain⟨t,u⟩:=r9 s D;simp only [I5] at o q;have l:=gI o;have A:b+k<=cs.length:=Xd q;have i:b+((G6 x ls env).cells).length<=cs.length:=by omega
  have m:=yP b ((G6 x ls env).cells) cs i;obtain⟨w,y,z⟩:=ih j g _ r (by
   rw [bQ] at c ⊢;intro v e;rw [jY b _ cs (by omega)] at e;simp only [aae] at e;rcases e with e | e | e;exact c v (ae0 e);exact bQ.1 (uw u) v e;exact c v (adZ e)) f
  refine⟨?_,y,by rw [z,m]⟩;simp only [Z6,Instr.fill,C];rw [t,lD];simp only [ad5,U0];rw [if_neg (by simp [l];omega)];rw [← w];congr 1;have B:=Ak (o9 ι (G6 x ls env).cells) (o9 ι cs).toArray b 0 (by simp;omega);apply ai2.1;rw [← Array.foldl_toList];simp only [Array.toList_zipIdx];refine B.trans ?_;simp only [aU,jY b _ cs (show b<=cs.length by omega),abK,aln,alo,acp,Y6];cases h
theorem FZ:∀(fs:List Field) (pl:List (Nat×Nat)),placesOf P fs=some pl->∀w,
  ((fs.mapM λf=>do pure (f.offset,← sizeOf f.type):Sem (List (Nat×Nat)))).run P w=.ok pl w:=by
 intro fs;induction fs with
 | nil=>intro pl h w;simp only [placesOf,J3] at h;subst h;simp
 | cons f fs ih=>intro pl h w;simp only [placesOf] at h;split at h;rename_i s r b c;cases h;have a:=ih r c w;simp only [bind_pure_comp] at a;simp [alg,run_sizeOf b,a];cases h
theorem LH (s:St P ι n slots done ls env a.tmps){t:TypeId}{b:Array (Nat×Operand)}{o:yI}(h:xG P slots done t b.toList=some o):
  ∃zero ps,o=.p (.build zero ps)∧∀v,nN (.build zero ps) ls env=some v->v.lt n∧Gives P a.eval (.build t b) (l9 ι v):=by
 simp only [xG] at h;have j:(b.map λp=>(p.1,a.eval p.2)).toList=b.toList.map λp=>(p.1,a.eval p.2):=by simp
 split at h;rename_i zero c q G;split at h;rename_i I E;split at h;rename_i ps l;cases h;refine⟨zero,ps,rfl,λv H=>?_⟩;obtain⟨r,A,B⟩:=u6 H;cases B;obtain⟨z,d,e,g⟩:=cZ (P:=P) (w:=default) q ι;obtain⟨u,y,_⟩:=Al s _ b.toList ps l zero r (g n) A;refine⟨y,λo D w=>?_⟩;obtain⟨z,d,e,g⟩:=cZ (P:=P) (w:=w) q ι;simp only [execOp,D,Instr.build,Xb,d,J4,run_underlying G,e];have K:=FZ (P:=P) c.toList I E w;have C:(c.mapM λf=>do pure (f.offset,← sizeOf f.type):Sem (Array (Nat×Nat)))=Functor.map List.toArray (c.toList.mapM λf=>do pure (f.offset,← sizeOf f.type):Sem (List (Nat×Nat))):=by rw [← List.mapM_toArray]
 rw [C];simp only [Sem.run_map,K,J4,j];have m:(λx:Nat=>I.toArray[x]?)=λi:Nat=>I[i]?:=by funext i;simp
 rw [m,u];simp [l9];cases h;cases h;rename_i zero k J q G;split at h;rename_i L F;split at h;rename_i ps l;cases h;refine⟨zero,ps,rfl,λv H=>?_⟩;obtain⟨r,A,B⟩:=u6 H;cases B;obtain⟨z,d,e,g⟩:=cZ (P:=P) (w:=default) q ι;obtain⟨u,y,_⟩:=Al s _ b.toList ps l zero r (g n) A;refine⟨y,λo D w=>?_⟩;obtain⟨z,d,e,g⟩:=cZ (P:=P) (w:=w) q ι;simp only [execOp,D,Instr.build,Xb,d,J4,run_underlying G,e,run_sizeOf F,j];rw [u];simp [l9];cases h;cases h;cases h
end
section
variable {P:Program}{G:Mem}{ι:J5}{n:Nm}{slots:List Nat}{done:List (Option Nat)}{ls:List d9}{env:T d9}{a:Act}
theorem uH {α:Type}(p q:Nat)(x y:α):bi (Nat.beq p q) x y=if p=q then x else y:=by by_cases h:p=q;subst h;rw [aah,if_pos rfl];rfl;rw [show Nat.beq p q=false from ab1.2 λe=>h (gI e),if_neg h];rfl
theorem N8 {l:List d9}{v:d9}(h:aM n l)(a:v∈l):v.lt n:=bQ.1 h v a
def yT (sz:Option Nat)(l:List d9)(o:Nat):Option d9:=match sz with
 | none=>l[o]?
 | some k=>ob (takeN k (l.drop o)) λr=>some (.agg r)
theorem DW {t:TypeId}{c:Option Nat}(f:partT P t=some c){l:List d9}(b:aM n l)(o:Nat){v:d9}
  (a:yT c l o=some v):
  v.lt n∧∀w,(part t (o9 ι l).toArray o).run P w=.ok (l9 ι v) w:=by
 rcases DR f with⟨rfl,ha,k,hk⟩ | ⟨k,rfl,ha,hk⟩;simp only [yT] at a;refine⟨N8 b (Xl a),λw=>?_⟩;simp [part,qI ha,aG,a];simp only [yT] at a;obtain⟨r,d,e⟩:=u6 a;cases e;obtain⟨rfl,_⟩:=lg _ _ _ d;refine⟨bQ.2 λv a=>N8 b (adZ (ae0 a)),λw=>?_⟩;simp [part,qI ha,run_sizeOf hk,l9,aU,aln,alo]
theorem GJ (s:St P ι n slots done ls env a.tmps){x:Option Operand}{o:Option O8}(h:cOpt P slots done x=some o):
  (x=none∧o=none)∨∃y z,x=some y∧o=some z∧a.eval y=l9 ι (G6 z ls env):=by
 cases x with
 | none=>simp only [cOpt,J3] at h;exact .inl ⟨rfl,h.symm⟩
 | some y=>
  simp only [cOpt] at h;cases hy:K7 P slots done y with
  | none=>simp [hy] at h
  | some z=>simp only [hy,J3] at h;exact .inr ⟨y,z,rfl,h.symm,(r9 s hy).1⟩
theorem rR (s:St P ι n slots done ls env a.tmps){lo u:Option Operand}{p j:Option O8}(v:cOpt P slots done lo=some p)(t:cOpt P slots done u=some j)
  {β:Type} {k:Nat->Nat->Option β} {d:Nat} {r:β} (h:eX (kX p) 0 ls env (λl=>eX (kX j) d ls env λh=>k l h)=some r):
  ∃l h,k l h=some r∧(u=none->h=d)∧(lo=none->l=0)∧
   (∀(isSlice:Bool) (len cap:Nat) (w:World),len=d->l<=h->h<=cap->(Instr.sliceBounds isSlice len cap (lo.map a.eval) (u.map a.eval) none).run P w=.ok (l,h,cap) w):=by
 rcases GJ s v with⟨rfl,rfl⟩ | ⟨y,z,rfl,rfl,hy⟩<;>rcases GJ s t with⟨rfl,rfl⟩ | ⟨y',z',rfl,rfl,hy'⟩
 exact⟨0,d,h,λ_=>rfl,λ_=>rfl,λo len cap w g _ _=>by subst g;simp [Instr.sliceBounds]⟩;obtain⟨i,m,b,f⟩:=fC h;refine⟨0,m,f,(by simp),(by simp),λo len cap w g c e=>?_⟩;have b:G6 z' ls env=.int i (m:Int):=b;simp only [abe,ae9,hy',b,l9,Instr.sliceBounds,Instr.sliceBound,asIntOf];cases o<;>simp [e]
 obtain⟨i,m,b,f⟩:=fC h;refine⟨m,d,f,(by simp),(by simp),λo len cap w g c e=>?_⟩;have b:G6 z ls env=.int i (m:Int):=b;subst g;simp only [abe,ae9,hy,b,l9,Instr.sliceBounds,Instr.sliceBound,asIntOf];simp [c];obtain⟨i,m,b,f⟩:=fC h;obtain⟨B,x,q,A⟩:=fC f;refine⟨m,x,A,(by simp),(by simp),λo len cap w g c e=>?_⟩;have b:G6 z ls env=.int i (m:Int):=b;have q:G6 z' ls env=.int B (x:Int):=q;simp only [abe,hy,b,hy',q,l9,Instr.sliceBounds,Instr.sliceBound,asIntOf];cases o<;>simp [c,e]
theorem wP {t e:TypeId}{es:Nat}(c:P.underlying t=some (.slice e))(hs:aH P e=some es)(a:Addr)(len cap:Nat)(k:IntKind)(i:Nat)(b:i<len)(w:World):
  (Instr.indexAt t (.slice (some a) len cap) (.int k (i:Int))).run P w=.ok (.pointer (some (a.add (i*es)))) w:=by
 simp [Instr.indexAt,asIntOf,run_underlying c,run_sizeOf hs,b]
theorem Ga {t e:TypeId}{es len:Nat}(c:P.underlying t=some (.array len e))(hs:aH P e=some es)(a:Addr)(k:IntKind)(i:Nat)(b:i<len)(w:World):
  (Instr.indexAt t (.pointer (some a)) (.int k (i:Int))).run P w=.ok (.pointer (some (a.add (i*es)))) w:=by
 simp [Instr.indexAt,asIntOf,run_underlying c,run_sizeOf hs,b,Instr.sureAddr]
theorem LJ (a:Bool):∀(ys:List d9) (x v:d9),aM n ys->x.lt n->Dr a ys x=some v->v.lt n∧
  ∀w,((o9 ι ys).foldlM (if a then Builtin.max2 else Builtin.min2) (l9 ι x)).run P w=.ok (l9 ι v) w:=by
 intro ys;induction ys with
 | nil=>intro x v _ d h;cases h;exact⟨d,λw=>by simp [o9]⟩
 | cons y ys ih=>
  intro x v c d h;have h:ob (mm2 a x y) (λz=>Dr a ys z)=some v:=h;obtain⟨z,b,j⟩:=u6 h;simp only [mm2] at b;obtain⟨k,p,e,b⟩:=jZ b;obtain⟨l,q,f,b⟩:=jZ b;cases b;obtain⟨g,i⟩:=ih _ v c.2 (by simp [d9.lt]) j;refine⟨g,λw=>?_⟩;subst e;subst f;simp only [o9,List.foldlM_cons,Xb,l9];have:((if a=true then Builtin.max2 else Builtin.min2) (.int k p) (.int l q)).run P w=.ok (.int k (bi a (bi (pO p q) q p) (bi (pO q p) q p))) w:=by cases a;simp only [aa9,if_false,Builtin.min2,Z7,O9,iX];by_cases hlt:q<p;simp [hlt];simp [hlt];simp only [if_true,Builtin.max2,Z7,R4,iX];by_cases hlt:p<q;simp [hlt];simp [hlt]
  rw [this];exact i w
end
section
variable {P:Program}{G:Mem}{ι:J5}{n:Nm}{slots:List Nat}{done:List (Option Nat)}{ls:List d9}{env:T d9}{a:Act}
theorem aK {x y:Uz}(h:(pure (yI.p x):Option yI)=some (.p y)):x=y:=by cases h;rfl
theorem SG {f:FuncId}{a:Func}(h:P.funcs[f]?=some a)(hb:a.body.isNone=true)(b:a.name= "internal/abi.NoEscape")(i:(Extern.findNext a).isNone=true)(v:Value)(w:World):
  (callFunc f #[v]).run P w=.ok (.value v) w:=by
 have c:Extern.allGenericRows.lookup "internal/abi.NoEscape"=none:=by kernel_rfl
 have d:Extern.allTypedRows.lookup "internal/abi.NoEscape"=none:=by kernel_rfl
 have e:Extern.allRows.lookup "internal/abi.NoEscape"=some Extern.AbiNoEscape.same:=by kernel_rfl
 have g:Extern.find a=some Extern.AbiNoEscape.same:=by unfold Extern.find;simp only [b,c,d,e];rfl
 rw [run_callFunc_extern h (by rw [b];decide) hb (by simpa using i) g];rfl
set_option maxHeartbeats 1000000 in
theorem rT (s:St P ι n slots done ls env a.tmps){I:Op}{S:Uz}(h:fV P slots done I=some (.p S)){v:d9}(F:nN S ls env=some v):
  v.lt n∧Gives P a.eval I (l9 ι v):=by
 cases I with
 | move x=>obtain⟨x',A,h⟩:=bind_eq h;obtain rfl:=aK h;cases F;obtain⟨B,E⟩:=r9 s A;exact⟨E,λo C w=>by simp [execOp,C,B]⟩
 | assign x=>obtain⟨x',A,h⟩:=bind_eq h;obtain rfl:=aK h;cases F;obtain⟨B,E⟩:=r9 s A;exact⟨E,λo C w=>by simp [execOp,C,B]⟩
 | pick c x y=>
  obtain⟨c',hc,h⟩:=bind_eq h;obtain⟨x',A,h⟩:=bind_eq h;obtain⟨y',hy,h⟩:=bind_eq h;obtain rfl:=aK h;obtain⟨b,d,D⟩:=qJ F;have d:G6 c' ls env=.bool b:=d;obtain⟨B,_⟩:=r9 s hc;obtain⟨E,ac⟩:=r9 s A;obtain⟨V,ad⟩:=r9 s hy;rw [d] at B;cases b with
  | true=>cases D;exact⟨ac,λo C w=>by simp [execOp,C,B,E,l9,asBool]⟩
  | false=>cases D;exact⟨ad,λo C w=>by simp [execOp,C,B,V,l9,asBool]⟩
 | build t parts=>obtain⟨zero,ps,e,hb⟩:=LH s (show xG P slots done t parts.toList=some (.p S) from h);cases e;exact hb v F
 | nilCheck x=>
  obtain⟨x',A,h⟩:=bind_eq h;obtain rfl:=aK h;obtain⟨B,E⟩:=r9 s A;have F:Ab (G6 x' ls env)=some v:=F;generalize G6 x' ls env=u at *;have:v=u∧∀o:Oper,o.op=.nilCheck x->∀w,(execOp a.eval o).run P w=.ok (.value (l9 ι u)) w:=by
   cases u<;>simp only [Ab,J3,reduceCtorEq] at F<;>try (refine⟨F.symm,λo C w=>?_⟩;simp [execOp,C,B,l9];done)
   rename_i fn p q;cases fn<;>simp only [J3,reduceCtorEq] at F
   refine⟨F.symm,λo C w=>?_⟩;simp [execOp,C,B,l9,jq]
  obtain⟨rfl,D⟩:=this;exact⟨E,D⟩
 | binOp I t x y yt=>
  simp only [fV] at h;by_cases d:I=.eql∨I=.neq
  ·have O:∃k x' y',Vs P (wN x||wN y) t=some k∧K7 P slots done x=some x'∧K7 P slots done y=some y'∧
     ((k=.prim .i∨k=.prim .s)∧S=.ib I x' y'∨(k≠.prim .i∧k≠.prim .s)∧S=.eq (decide (I=.neq)) k x' y'):=by
    rcases d with rfl | rfl <;>
    ·simp only at h;obtain⟨k,K,h⟩:=bind_eq h;cases k with
     | prim p=>
      cases p <;>
      ·simp only at h;obtain⟨x',A,h⟩:=bind_eq h;obtain⟨y',hy,h⟩:=bind_eq h;have:=aK h;exact⟨_,x',y',K,A,hy,by simp [this]⟩
     | _=>simp only at h;obtain⟨x',A,h⟩:=bind_eq h;obtain⟨y',hy,h⟩:=bind_eq h;have:=aK h;exact⟨_,x',y',K,A,hy,by simp [this]⟩
   obtain⟨k,x',y',K,A,hy,O⟩:=O;obtain⟨B,_⟩:=r9 s A;obtain⟨E,_⟩:=r9 s hy;rcases O with⟨_,rfl⟩ | ⟨⟨hk1,hk2⟩,rfl⟩;have a0:I≠.shl:=by rcases d with rfl | rfl<;>simp
   have a1:I≠.shr:=by rcases d with rfl | rfl<;>simp
   have F:Cj (IY I) (IZ I) (G6 x' ls env) (G6 y' ls env)=some v:=by rcases d with rfl | rfl<;>exact F
   refine⟨(rQ (P:=P) (ι:=ι) a0 a1 F t default).2,qK (λw=>?_) (λw=>by rw [B,E];exact (rQ (n:=n) a0 a1 F t w).1)⟩;rw [B,E];rcases Sz F with⟨k,p,W⟩ | ⟨p,W⟩<;>rw [W]<;>exact rP (by simp [l9]) (by simp [l9])
   ·have F:∃r,mM k (G6 x' ls env) (G6 y' ls env)=some r∧v=.bool (if I=.neq then !r else r):=by
     rcases d with rfl | rfl <;>
     ·obtain⟨r,d,D⟩:=u6 F;cases D;exact⟨r,d,rfl⟩
    obtain⟨r,hr,rfl⟩:=F;refine⟨by simp [d9.lt],qK (λw=>?_) (λw=>?_)⟩
    ·rw [B,E];cases k with
     | prim p=>
      cases p with
      | b=>obtain⟨p,q,H,Q,_⟩:=gW hr;rw [H,Q];exact rP (by simp [l9]) (by simp [l9])
      | i=>exact absurd rfl hk1
      | s=>exact absurd rfl hk2
     | flat ks=>
      obtain⟨l,H,Q⟩:=dX hr;obtain⟨m,h5,h6⟩:=dX Q;rw [H,h5];refine LG ?_;rcases (xL K).symm with K | K;obtain⟨_,_,_,_,_,_,h7,_⟩:=Aj K;exact h7;simp only [Vr] at K;split at K<;>first | (simp at K;done) | (split at K<;>simp at K;done) | skip
      split at K;split at K;assumption;cases K;cases K
     | iface=>
      have hc:wN x=true∨wN y=true:=by
       rcases (xL K).symm with K | K;obtain⟨_,_,_,_,_,_,_,h7⟩:=Aj K;cases h7;simp only [Vr] at K;split at K<;>first | (simp at K;done) | (split at K<;>simp at K;done) | (split at K<;>first | (split at K<;>simp at K;done) | (simp at K;done)) | skip
       split at K;rename_i hc;simpa using hc;simp at K
      exact rP (λp q=>by cases A:G6 x' ls env<;>simp_all [mM,nk,l9]) (hc.elim (λh=>.inr (.inr (.inl h))) (λh=>.inr (.inr (.inr h))))
     | _=>refine rP (λp q=>?_) (.inl ?_)<;>cases A:G6 x' ls env<;>simp_all [mM,iL,yL,Ld,Dq,l9]
    rw [B,E];have:=SF K hk1 hk2 (ι:=ι) hr w;rcases d with rfl | rfl;simpa [l9] using this.1;simpa [l9] using this.2
  ·have J:I≠.eql∧I≠.neq:=⟨λe=>d (.inl e),λe=>d (.inr e)⟩;have O:∃x' y',K7 P slots done x=some x'∧K7 P slots done y=some y'∧S=.ib I x' y':=by
    cases I<;>first
     | exact absurd rfl J.1
     | exact absurd rfl J.2
     | (simp only at h
        obtain⟨x',A,h⟩:=bind_eq h;obtain⟨y',hy,h⟩:=bind_eq h;exact⟨x',y',A,hy,(aK h).symm⟩)
   obtain⟨x',y',A,hy,rfl⟩:=O;obtain⟨B,_⟩:=r9 s A;obtain⟨E,_⟩:=r9 s hy;by_cases a0:I=.shl;subst a0;refine⟨(GD (P:=P) (ι:=ι) F t default).2,qK (λw=>mV (by simp) (by simp)) (λw=>by rw [B,E];exact (GD (n:=n) F t w).1)⟩;by_cases a1:I=.shr;subst a1;refine⟨(GH (P:=P) (ι:=ι) F t default).2,qK (λw=>mV (by simp) (by simp)) (λw=>by rw [B,E];exact (GH (n:=n) F t w).1)⟩;have F:Cj (IY I) (IZ I) (G6 x' ls env) (G6 y' ls env)=some v:=by cases I<;>first | exact absurd rfl a0 | exact absurd rfl a1 | exact F
   exact⟨(rQ (P:=P) (ι:=ι) a0 a1 F t default).2,qK (λw=>mV J.1 J.2) (λw=>by rw [B,E];exact (rQ (n:=n) a0 a1 F t w).1)⟩
 | unOp I t x=>
  have O:∃x',K7 P slots done x=some x'∧(I=.not∧S=.not x'∨I=.neg∧S=.neg x'∨I=.xor∧S=.inv x'):=by
   simp only [fV] at h;cases I<;>simp only at h<;>first
    | (cases h;done)
    | (obtain⟨x',A,h⟩:=bind_eq h
       exact⟨x',A,by simp [aK h]⟩)
  obtain⟨x',A,O⟩:=O;obtain⟨B,_⟩:=r9 s A;rcases O with⟨rfl,rfl⟩ | ⟨rfl,rfl⟩ | ⟨rfl,rfl⟩;obtain⟨b,d,D⟩:=qJ F;have d:G6 x' ls env=.bool b:=d;cases D;exact⟨by simp [d9.lt],λo C w=>by simp [execOp,C,B,d,l9,Op.unary]⟩;obtain⟨k,m,d,D⟩:=jZ F;have d:G6 x' ls env=.int k m:=d;cases D;exact⟨by simp [d9.lt],λo C w=>by simp [execOp,C,B,d,l9,Op.unary,Op.intArith,uE]⟩;obtain⟨k,m,d,D⟩:=jZ F;have d:G6 x' ls env=.int k m:=d;cases D;exact⟨by simp [d9.lt,yK],λo C w=>by cases K:k.signed<;>simp [execOp,C,B,d,l9,Op.unary,Op.intBits,yK,K]⟩
 | convert src dst x=>
  simp only [fV] at h;obtain⟨us,ag,h⟩:=bind_eq h;obtain⟨ud,af,h⟩:=bind_eq h;have O:∃x',K7 P slots done x=some x'∧∃j k,us=.int j∧ud=.int k∧S=.conv k x':=by split at h;obtain⟨x',A,h⟩:=bind_eq h;exact⟨x',A,_,_,rfl,rfl,(aK h).symm⟩;obtain⟨ue,_,h⟩:=bind_eq h;split at h;obtain⟨x',A,h⟩:=bind_eq h;cases h;cases h;obtain⟨ue,_,h⟩:=bind_eq h;split at h;obtain⟨x',A,h⟩:=bind_eq h;cases h;cases h;obtain⟨_,_,h⟩:=bind_eq h;split at h;cases h;obtain⟨_,_,h⟩:=bind_eq h;cases h;obtain⟨_,_,h⟩:=bind_eq h;split at h;cases h;obtain⟨_,_,h⟩:=bind_eq h;cases h;cases h
  obtain⟨x',A,j,k,rfl,rfl,rfl⟩:=O;obtain⟨B,E⟩:=r9 s A;obtain⟨k',m,d,D⟩:=jZ F;have d:G6 x' ls env=.int k' m:=d;cases D;exact⟨by simp [d9.lt],λo C w=>by simp [execOp,C,convert,run_underlying ag,run_underlying af,B,d,l9,Conv.intToInt,uE]⟩
 | makeInterface t x=>
  simp only [fV] at h;obtain⟨u,L,h⟩:=bind_eq h;have O:∃x',K7 P slots done x=some x'∧S=.mkIface t x'∧∀ms,u≠.interface ms:=by split at h;cases h;rename_i J;obtain⟨x',A,h⟩:=bind_eq h;exact⟨x',A,(aK h).symm,λms e=>J ms e⟩
  obtain⟨x',A,rfl,J⟩:=O;obtain⟨B,E⟩:=r9 s A;cases F;refine⟨by simpa [d9.lt] using E,λo C w=>?_⟩;simp only [execOp,C,Instr.makeInterface,Xb,run_underlying L,J4,B];cases u<;>first | exact absurd rfl (J _) | simp [l9]
 | typeAssert x xt t ok=>
  simp only [fV] at h;obtain⟨u,L,h⟩:=bind_eq h;have O:∃z x',zeroV P t=some z∧K7 P slots done x=some x'∧S=.assert t z ok x'∧∀ms,u≠.interface ms:=by split at h;cases h;rename_i J;obtain⟨z,hz,h⟩:=bind_eq h;obtain⟨x',A,h⟩:=bind_eq h;exact⟨z,x',hz,A,(aK h).symm,λms e=>J ms e⟩
  obtain⟨z,x',hz,A,rfl,J⟩:=O;obtain⟨B,E⟩:=r9 s A;have G:QG t z ok (G6 x' ls env)=some v:=F;clear F;generalize G6 x' ls env=y at *;cases y with
  | nilIface=>
   cases ok with
   | false=>cases G
   | true=>have G:some (d9.tuple [z,.bool false])=some v:=G;cases G;refine⟨⟨(nQ (w:=default) hz ι).2 n,trivial,trivial⟩,λo C w=>?_⟩;have a8:=(nQ (w:=w) hz ι).1;simp only [execOp,C,Instr.typeAssert,Xb,run_underlying L,J4,B,l9];cases u<;>first | exact absurd rfl (J _) | simp [a8,o9,l9]
  | iface t' y=>
   have G:bi (Nat.beq t' t) (some (bi ok (.tuple [y,.bool true]) y)) (bi ok (some (.tuple [z,.bool false])) none)=some v:=G;cases hb:Nat.beq t' t with
   | true=>
    have he:=gI hb;rw [hb] at G;have G:some (bi ok (.tuple [y,.bool true]) y)=some v:=G;cases ok with
    | false=>have G:some y=some v:=G;cases G;refine⟨E,λo C w=>?_⟩;simp only [execOp,C,Instr.typeAssert,Xb,run_underlying L,J4,B,l9];cases u<;>first | exact absurd rfl (J _) | simp [he]
    | true=>have G:some (d9.tuple [y,.bool true])=some v:=G;cases G;refine⟨⟨E,trivial,trivial⟩,λo C w=>?_⟩;simp only [execOp,C,Instr.typeAssert,Xb,run_underlying L,J4,B,l9];cases u<;>first | exact absurd rfl (J _) | simp [he,o9,l9]
   | false=>
    have he:t'≠t:=Nat.ne_of_beq_eq_false hb;rw [hb] at G;cases ok with
    | false=>cases G
    | true=>have G:some (d9.tuple [z,.bool false])=some v:=G;cases G;refine⟨⟨(nQ (w:=default) hz ι).2 n,trivial,trivial⟩,λo C w=>?_⟩;have a8:=(nQ (w:=w) hz ι).1;simp only [execOp,C,Instr.typeAssert,Xb,run_underlying L,J4,B,l9];cases u<;>first | exact absurd rfl (J _) | simp [a8,he,o9,l9]
  | _=>cases G
 | makeFunc fn f c=>
  simp only [fV] at h;have O:∃g f' c',fn=.func g∧jF P slots done f.toList=some f'∧jF P slots done c.toList=some c'∧S=.mkFunc (.func g) f' c':=by split at h;obtain⟨f',W,h⟩:=bind_eq h;obtain⟨c',hc,h⟩:=bind_eq h;exact⟨_,f',c',rfl,W,hc,(aK h).symm⟩;cases h
  obtain⟨g,f',c',rfl,W,hc,rfl⟩:=O;cases F;obtain⟨B,E⟩:=lF s W;obtain⟨V,e4⟩:=lF s hc;refine⟨⟨trivial,E,e4⟩,λo C w=>?_⟩;have q1:f.map a.eval=(o9 ι (evs (fJ f') ls env)).toArray:=by apply ai2.1;rw [ajj];exact B
  have q2:c.map a.eval=(o9 ι (evs (fJ c') ls env)).toArray:=by apply ai2.1;rw [ajj];exact V
  simp [execOp,C,Instr.makeFunc,q1,q2,l9,jq]
 | slice t x lo hi mx=>
  simp only [fV] at h;cases mx with
  | some _=>simp at h
  | none=>
  simp only at h;obtain⟨u,L,h⟩:=bind_eq h;split at h;obtain⟨x',A,h⟩:=bind_eq h;obtain⟨ab,a5,h⟩:=bind_eq h;obtain⟨a9,a4,h⟩:=bind_eq h;obtain rfl:=aK h;obtain⟨B,E⟩:=r9 s A;obtain⟨str,d,D⟩:=iC F;have d:G6 x' ls env=.str str:=d;obtain⟨l,h,H,_,_,Q⟩:=rR s a5 a4 D;obtain⟨Z,H⟩:=C8 H;obtain⟨g2,H⟩:=C8 H;obtain⟨r,h5,h6⟩:=u6 H;cases h6;have Z:=Xd Z;have g2:=Xd g2;simp only [I5,lZ] at *;obtain⟨rfl,_⟩:=lg _ _ _ h5;refine⟨by simp [d9.lt],λo C w=>?_⟩;simp only [execOp,C,Instr.sliceAt,Xb,run_underlying L,J4,Instr.slice,B,d,l9];simp only [ae9,Option.isSome_none,aa9,if_false,Xb,oG,Z7,J4];rw [Q false str.length str.length w rfl Z g2];simp only [J4,Z7];congr 3;apply ByteArray.ext;simp [ByteArray.data_extract,agx];obtain⟨es,_,h⟩:=bind_eq h;obtain⟨x',A,h⟩:=bind_eq h;obtain⟨ab,a5,h⟩:=bind_eq h;obtain⟨a9,a4,h⟩:=bind_eq h;cases h;rename_i n' e';obtain⟨es,U,h⟩:=bind_eq h;obtain⟨x',A,h⟩:=bind_eq h;obtain⟨ab,a5,h⟩:=bind_eq h;obtain⟨a9,a4,h⟩:=bind_eq h;obtain rfl:=aK h;obtain⟨B,E⟩:=r9 s A;obtain⟨i,o,d,D⟩:=dW F;have d:G6 x' ls env=.ptr i o:=d;rw [d] at B E;obtain⟨l,h,H,_,_,Q⟩:=rR s a5 a4 D;obtain⟨Z,H⟩:=C8 H;obtain⟨g2,H⟩:=C8 H;cases H;have Z:=Xd Z;have g2:=Xd g2;refine⟨E,λI C w=>?_⟩;simp only [execOp,C,Instr.sliceAt,Xb,run_underlying L,J4,B,l9,Instr.sureAddr,Z7,ae9];rw [Q false _ _ w rfl Z g2];simp only [J4,Xb,run_sizeOf U,Z7];rw [uH,J5.oF];by_cases hl:n'=l;rw [if_pos hl,if_pos hl.symm];rfl;rw [if_neg hl,if_neg (λe=>hl e.symm)];rfl;cases h
 | fieldAddr t x f=>
  simp only [fV] at h;obtain⟨u,L,h⟩:=bind_eq h;have O:∃fs Y x' X,u=.struct fs∧fs[f]?=some Y∧aH P Y.type=some X∧X≠0∧K7 P slots done x=some x'∧S=.fAddr Y.offset x':=by split at h;obtain⟨Y,W,h⟩:=bind_eq h;obtain⟨X,R,h⟩:=bind_eq h;split at h;cases h;obtain⟨x',A,h⟩:=bind_eq h;exact⟨_,Y,x',X,rfl,W,R,by assumption,A,(aK h).symm⟩;cases h
  obtain⟨fs,Y,x',X,rfl,W,R,J,A,rfl⟩:=O;obtain⟨B,E⟩:=r9 s A;obtain⟨i,o,d,D⟩:=dW F;have d:G6 x' ls env=.ptr i o:=d;cases D;rw [d] at B E;refine⟨E,λI C w=>?_⟩;simp only [execOp,C,Instr.fieldAt,Xb,run_underlying L,J4,W,B,l9,Instr.sureAddr,Z7,fieldPlace,run_sizeOf R,if_neg J,J5.oF];rfl
 | field t x f=>
  simp only [fV] at h;obtain⟨u,L,h⟩:=bind_eq h;have O:∃fs Y x' X,u=.struct fs∧fs[f]?=some Y∧partT P Y.type=some X∧K7 P slots done x=some x'∧S=.fld Y.offset X x':=by split at h;obtain⟨Y,W,h⟩:=bind_eq h;obtain⟨X,R,h⟩:=bind_eq h;obtain⟨x',A,h⟩:=bind_eq h;exact⟨_,Y,x',X,rfl,W,R,A,(aK h).symm⟩;cases h
  obtain⟨fs,Y,x',X,rfl,W,R,A,rfl⟩:=O;obtain⟨B,E⟩:=r9 s A;have a6:∃l,G6 x' ls env=.agg l∧yT X l Y.offset=some v:=by
   cases X with
   | none=>obtain⟨l,d,D⟩:=dX F;exact⟨l,d,by simpa [yT] using D⟩
   | some k=>obtain⟨l,d,D⟩:=dX F;exact⟨l,d,by simpa [yT] using D⟩
  obtain⟨l,d,D⟩:=a6;rw [d] at B E;obtain⟨Z,g2⟩:=DW (ι:=ι) R (show aM n l from E) Y.offset D;refine⟨Z,λI C w=>?_⟩;simp [execOp,C,Instr.field,run_underlying L,W,B,l9,asAgg,g2]
 | indexAddr t x i=>simp only [fV] at h;obtain⟨u,L,h⟩:=bind_eq h;split at h;obtain⟨es,U,h⟩:=bind_eq h;obtain⟨x',A,h⟩:=bind_eq h;obtain⟨i',hi,h⟩:=bind_eq h;obtain rfl:=aK h;obtain⟨B,E⟩:=r9 s A;obtain⟨V,_⟩:=r9 s hi;rcases rO F with⟨_,D⟩ | ⟨id,off,N,cap,d,D⟩ | ⟨id,off,N,es',d,D⟩;cases D;obtain⟨k,m,H,M,Q⟩:=idx_eq D;cases Q;have d:G6 x' ls env=.slice id off N cap:=d;have H:G6 i' ls env=.int k (m:Int):=H;rw [d] at B E;refine⟨E,λI C w=>?_⟩;simp only [execOp,C,Xb,B,V,H,l9,wP L U _ _ _ _ _ M,J5.oF,J4,Z7];rfl;obtain⟨k,m,H,M,Q⟩:=idx_eq D;cases Q;have d:G6 x' ls env=.sliceU id off N es':=d;have H:G6 i' ls env=.int k (m:Int):=H;rw [d] at B E;refine⟨E.1,λI C w=>?_⟩;simp only [execOp,C,Xb,B,V,H,l9,wP L U _ _ _ _ _ M,J5.oF,J4,Z7];rfl;obtain⟨es,U,h⟩:=bind_eq h;obtain⟨x',A,h⟩:=bind_eq h;obtain⟨i',hi,h⟩:=bind_eq h;obtain rfl:=aK h;obtain⟨B,E⟩:=r9 s A;obtain⟨V,_⟩:=r9 s hi;obtain⟨id,off,d,D⟩:=dW F;obtain⟨k,m,H,M,Q⟩:=idx_eq D;cases Q;have d:G6 x' ls env=.ptr id off:=d;have H:G6 i' ls env=.int k (m:Int):=H;rw [d] at B E;refine⟨E,λI C w=>?_⟩;simp only [execOp,C,Xb,B,V,H,l9,Ga L U _ _ _ M,J5.oF,J4,Z7];rfl;cases h
 | index t x i=>
  simp only [fV] at h;obtain⟨u,L,h⟩:=bind_eq h;split at h;obtain⟨x',A,h⟩:=bind_eq h;obtain⟨i',hi,h⟩:=bind_eq h;obtain rfl:=aK h;obtain⟨B,E⟩:=r9 s A;obtain⟨V,_⟩:=r9 s hi;obtain⟨str,d,D⟩:=iC F;obtain⟨k,m,H,Q⟩:=fC D;obtain⟨b,h5,h6⟩:=u6 Q;cases h6;have d:G6 x' ls env=.str str:=d;have H:G6 i' ls env=.int k (m:Int):=H;rw [jk] at h5;refine⟨by simp [d9.lt],λI C w=>?_⟩;obtain⟨M,hb⟩:=Hl.1 h5;have aa:(⟨str.toArray⟩:ByteArray)[m]?=some b:=by rw [ByteArray.getElem?_lt' _ _ (by rw [oG];exact M)];congr 1
  simp only [execOp,C,Instr.index,Xb,run_underlying L,B,d,V,H,l9,asIntOf,Z7,J4];rw [if_pos (Int.natCast_nonneg m),aic,aa];rfl;rename_i N ai;obtain⟨es,U,h⟩:=bind_eq h;obtain⟨X,R,h⟩:=bind_eq h;obtain⟨x',A,h⟩:=bind_eq h;obtain⟨i',hi,h⟩:=bind_eq h;obtain rfl:=aK h;obtain⟨B,E⟩:=r9 s A;obtain⟨V,_⟩:=r9 s hi;have a6:∃l k,∃m:Nat,G6 x' ls env=.agg l∧G6 i' ls env=.int k (m:Int)∧m<N∧yT X l (m*es)=some v:=by
   cases X with
   | none=>obtain⟨l,d,D⟩:=dX F;obtain⟨k,m,H,M,Q⟩:=idx_eq D;exact⟨l,k,m,d,H,M,by simpa [yT] using Q⟩
   | some k=>obtain⟨l,d,D⟩:=dX F;obtain⟨k',m,H,M,Q⟩:=idx_eq D;exact⟨l,k',m,d,H,M,by simpa [yT] using Q⟩
  obtain⟨l,k,m,d,H,M,D⟩:=a6;rw [d] at B E;obtain⟨Z,g2⟩:=DW (ι:=ι) R (show aM n l from E) (m*es) D;refine⟨Z,λI C w=>?_⟩;simp [execOp,C,Instr.index,run_underlying L,run_sizeOf U,B,V,H,l9,asIntOf,M,g2];cases h
 | extract x i=>simp only [fV] at h;obtain⟨x',A,h⟩:=bind_eq h;obtain rfl:=aK h;obtain⟨B,E⟩:=r9 s A;obtain⟨l,d,D⟩:=Zi F;have d:G6 x' ls env=.tuple l:=d;rw [jk] at D;rw [d] at B E;refine⟨N8 (show aM n l from E) (Xl D),λI C w=>?_⟩;simp [execOp,C,Instr.extract,B,l9,aG,D]
 | call c=>
  obtain⟨a3,T,ts⟩:=c;simp only [fV] at h;cases a3 with
  | invoke _ _=>cases h
  | value f=>
   cases f with
   | func f=>
    obtain⟨fn,ae,h⟩:=bind_eq h;split at h;obtain⟨os,_,h⟩:=bind_eq h;cases h;split at h;rename_i a2;obtain⟨T⟩:=T;simp only [q8,beq_iff_eq] at a2;match T,h with
    | [x],h=>obtain⟨x',A,h⟩:=bind_eq h;obtain rfl:=aK h;cases F;obtain⟨B,E⟩:=r9 s A;refine⟨E,λo C w=>?_⟩;have:=SG ae a2.1.1 a2.1.2 a2.2 (l9 ι (G6 x' ls env)) w;have W:a.eval (.func f)=.func (.func f) #[] #[]:=rfl;simp [execOp,C,resolve,invoke,W,Deferred.ofValue,this,B]
    | [],h=>cases h
    | _ :: _ :: _,h=>cases h
    cases h
   | _=>obtain⟨x',_,h⟩:=bind_eq h;obtain⟨os,_,h⟩:=bind_eq h;cases h
  | builtin b=>
   obtain⟨T⟩:=T;obtain⟨ts⟩:=ts;simp only [uo] at h;split at h
   ·
    rename_i t x;obtain⟨u,L,h⟩:=bind_eq h;have O:∃x',(K7 P slots done x=some x'∧u=.string∧S=.dU x')∨(K7 P slots done x=some x'∧(∃e,u=.slice e)∧S=.len x')∨∃k e,u=.array k e∧S=.mov (.con (.int .i64 k)):=by split at h;obtain⟨x',A,h⟩:=bind_eq h;exact⟨x',.inl ⟨A,rfl,(aK h).symm⟩⟩;obtain⟨x',A,h⟩:=bind_eq h;exact⟨x',.inr (.inl ⟨A,⟨_,rfl⟩,(aK h).symm⟩)⟩;exact⟨default,.inr (.inr ⟨_,_,rfl,(aK h).symm⟩)⟩;obtain⟨x',A,h⟩:=bind_eq h;cases h;cases h
    obtain⟨x',⟨A,rfl,rfl⟩ | ⟨A,⟨e,rfl⟩,rfl⟩ | ⟨k,e,rfl,rfl⟩⟩:=O;obtain⟨B,_⟩:=r9 s A;obtain⟨str,d,D⟩:=iC F;have d:G6 x' ls env=.str str:=d;cases D;exact⟨by simp [d9.lt],λo C w=>by simp [execOp,C,resolve,invoke,builtin,Builtin.len_,run_underlying L,B,d,l9,goInt,oG]⟩;obtain⟨B,_⟩:=r9 s A;rcases rO F with⟨d,D⟩ | ⟨id,off,N,cap,d,D⟩ | ⟨id,off,N,cap,d,D⟩;have d:G6 x' ls env=.nilSlice:=d;cases D;exact⟨by simp [d9.lt],λo C w=>by simp [execOp,C,resolve,invoke,builtin,Builtin.len_,run_underlying L,B,d,l9,goInt]⟩;have d:G6 x' ls env=.slice id off N cap:=d;cases D;exact⟨by simp [d9.lt],λo C w=>by simp [execOp,C,resolve,invoke,builtin,Builtin.len_,run_underlying L,B,d,l9,goInt]⟩;have d:G6 x' ls env=.sliceU id off N cap:=d;cases D;exact⟨by simp [d9.lt],λo C w=>by simp [execOp,C,resolve,invoke,builtin,Builtin.len_,run_underlying L,B,d,l9,goInt]⟩;cases F;refine⟨by simp [G6,C9,d9.lt],λo C w=>?_⟩;simp [execOp,C,resolve,invoke,builtin,Builtin.len_,run_underlying L,G6,C9,l9,goInt]
   ·
    rename_i t x;obtain⟨u,L,h⟩:=bind_eq h;split at h;obtain⟨x',A,h⟩:=bind_eq h;obtain rfl:=aK h;obtain⟨B,_⟩:=r9 s A;rcases rO F with⟨d,D⟩ | ⟨id,off,N,cap,d,D⟩ | ⟨_,_,_,_,_,D⟩;have d:G6 x' ls env=.nilSlice:=d;cases D;exact⟨by simp [d9.lt],λo C w=>by simp [execOp,C,resolve,invoke,builtin,Builtin.cap_,run_underlying L,B,d,l9,goInt]⟩;have d:G6 x' ls env=.slice id off N cap:=d;cases D;exact⟨by simp [d9.lt],λo C w=>by simp [execOp,C,resolve,invoke,builtin,Builtin.cap_,run_underlying L,B,d,l9,goInt]⟩;cases D;cases h
   ·obtain⟨u,L,h⟩:=bind_eq h;split at h
    ·obtain⟨_,_,h⟩:=bind_eq h;split at h;all_goals (repeat' (first | (cases h;done) | (obtain⟨_,_,h⟩:=bind_eq h)))
    cases h
   obtain⟨u,L,h⟩:=bind_eq h;split at h;obtain⟨_,_,h⟩:=bind_eq h;obtain⟨_,_,h⟩:=bind_eq h;obtain⟨_,_,h⟩:=bind_eq h;cases h;cases h;obtain⟨u,L,h⟩:=bind_eq h;split at h;obtain⟨_,_,h⟩:=bind_eq h;obtain⟨_,_,h⟩:=bind_eq h;cases h;cases h
   ·
    rename_i x xs;obtain⟨x',A,h⟩:=bind_eq h;obtain⟨ah,a7,h⟩:=bind_eq h;obtain rfl:=aK h;obtain⟨B,E⟩:=r9 s A;obtain⟨V,e4⟩:=lF s a7;obtain⟨Z,g2⟩:=LJ (P:=P) (ι:=ι) true _ _ v e4 E F;refine⟨Z,λo C w=>?_⟩;have:=g2 w;simp only [if_true] at this;simp [execOp,C,resolve,invoke,builtin,Builtin.max_,B,V,this]
   rename_i x xs;obtain⟨x',A,h⟩:=bind_eq h;obtain⟨ah,a7,h⟩:=bind_eq h;obtain rfl:=aK h;obtain⟨B,E⟩:=r9 s A;obtain⟨V,e4⟩:=lF s a7;obtain⟨Z,g2⟩:=LJ (P:=P) (ι:=ι) false _ _ v e4 E F;refine⟨Z,λo C w=>?_⟩;have:=g2 w;simp only [aa9,if_false] at this;simp [execOp,C,resolve,invoke,builtin,Builtin.min_,B,V,this];cases h;obtain⟨u,L,h⟩:=bind_eq h;split at h;obtain⟨x',A,h⟩:=bind_eq h;cases h;cases h
   ·obtain⟨u,L,h⟩:=bind_eq h;repeat' (first | (cases h;done) | (obtain⟨_,_,h⟩:=bind_eq h) | split at h)
   cases h
 | alloc t=>simp only [fV] at h;split at h;all_goals (obtain⟨_,_,h⟩:=bind_eq h;cases h)
 | box t x=>simp only [fV] at h;split at h;obtain⟨_,_,h⟩:=bind_eq h;obtain⟨_,_,h⟩:=bind_eq h;cases h;obtain⟨_,_,h⟩:=bind_eq h;cases h
 | buildSlice t N parts=>simp only [fV] at h;obtain⟨_,_,h⟩:=bind_eq h;split at h;obtain⟨_,_,h⟩:=bind_eq h;obtain⟨_,_,h⟩:=bind_eq h;split at h;obtain⟨_,_,h⟩:=bind_eq h;cases h;cases h;cases h
 | insert t m k x=>simp only [fV] at h;obtain⟨_,_,h⟩:=bind_eq h;split at h;obtain⟨_,_,h⟩:=bind_eq h;obtain⟨_,_,h⟩:=bind_eq h;obtain⟨_,_,h⟩:=bind_eq h;obtain⟨_,_,h⟩:=bind_eq h;cases h;cases h
 | mapUpdate t m k x=>simp only [fV] at h;obtain⟨_,_,h⟩:=bind_eq h;split at h;obtain⟨_,_,h⟩:=bind_eq h;obtain⟨_,_,h⟩:=bind_eq h;obtain⟨_,_,h⟩:=bind_eq h;obtain⟨_,_,h⟩:=bind_eq h;cases h;cases h
 | load t x=>simp only [fV] at h;obtain⟨_,_,h⟩:=bind_eq h;obtain⟨_,_,h⟩:=bind_eq h;cases h
 | store t x y=>simp only [fV] at h;obtain⟨_,_,h⟩:=bind_eq h;obtain⟨_,_,h⟩:=bind_eq h;obtain⟨_,_,h⟩:=bind_eq h;cases h
 | makeMap t r=>simp only [fV] at h;repeat' (first | (cases h;done) | split at h)
 | makeSlice t l c=>simp only [fV] at h;obtain⟨_,_,h⟩:=bind_eq h;split at h;obtain⟨_,_,h⟩:=bind_eq h;obtain⟨_,_,h⟩:=bind_eq h;obtain⟨_,_,h⟩:=bind_eq h;obtain⟨_,_,h⟩:=bind_eq h;obtain⟨_,_,h⟩:=bind_eq h;cases h;cases h
 | lookup t x k ok=>simp only [fV] at h;obtain⟨_,_,h⟩:=bind_eq h;split at h;obtain⟨_,_,h⟩:=bind_eq h;obtain⟨_,_,h⟩:=bind_eq h;obtain⟨_,_,h⟩:=bind_eq h;obtain⟨_,_,h⟩:=bind_eq h;cases h;cases h
 | range t x=>simp only [fV] at h;obtain⟨_,_,h⟩:=bind_eq h;split at h;obtain⟨_,_,h⟩:=bind_eq h;cases h;obtain⟨_,_,h⟩:=bind_eq h;cases h;cases h
 | next it is=>cases is;simp only [fV] at h;obtain⟨_,_,h⟩:=bind_eq h;cases h;simp only [fV] at h;obtain⟨_,_,h⟩:=bind_eq h;cases h
 | entry it=>simp only [fV] at h;obtain⟨_,_,h⟩:=bind_eq h;cases h
 | panic x=>simp only [fV] at h;obtain⟨_,_,h⟩:=bind_eq h;cases h
 | defer c=>simp only [fV] at h;split at h;obtain⟨_,_,h⟩:=bind_eq h;obtain⟨_,_,h⟩:=bind_eq h;cases h;cases h
 | _=>simp only [fV] at h;cases h
end
end
end Go.AM
