/- A part of an evaluator for the model, proved sound: what it answers holds of the model; it speaks of every program, no condition. -/
import GoSem.Core.Code
import GoSem.Core.Program
import GoSem.Core.View
import GoSem.Core.World
import GoSem.Core.Utf8
import GoSem.Core.Region
import GoSem.Core.Layout
import GoSem.Op.Equal
import GoSem.Extern.Table
import Derived.CallsIn
import Derived.Laws.Sem
import GoSem.Dispatch
import Derived.Laws.Strings
import Derived.KernelRfl
import Derived.Laws.Externs
set_option linter.all false
namespace Go.AM
open Go
abbrev aA:=@List.mem_singleton
abbrev aP:=@Nat.le_refl
abbrev gI:=@Nat.le_trans
abbrev l9:=@Bool.and_eq_true
abbrev q9:=@Nat.eq_of_beq_eq_true
abbrev y7:=@List.getElem?_eq_getElem
abbrev y8:=@List.getElem?_eq_some_iff
abbrev Hl:=@Option.some.injEq
abbrev J2:=@Result.andThen_ok
abbrev J3:=@Nat.lt_of_lt_of_le
abbrev J4:=@Array.getElem?_eq_some_iff
abbrev J6:=@List.length_cons
abbrev J7:=@Array.getD_eq_getD_getElem?
abbrev J8:=@Sem.run_bind
abbrev J9:=@List.length_append
abbrev K9:=@List.drop_zero
abbrev L6:=@List.take_of_length_le
abbrev Q6:=@Nat.ble_eq_true_of_le
abbrev U9:=@Nat.le_of_ble_eq_true
abbrev Xb:=@List.mem_of_getElem?
abbrev Xd:=@Bool.false_eq_true
abbrev Xl:=@Array.getElem?_setIfInBounds_ne
abbrev Y3:=@Nat.blt_eq
abbrev Y4:=@List.mem_cons
abbrev Y5:=@Option.some.inj
abbrev Y6:=@Array.getElem?_setIfInBounds_self_of_lt
abbrev Y7:=@Nat.add_zero
abbrev Y8:=@List.getD_eq_getElem?_getD
abbrev Z4:=@List.mem_cons_of_mem
abbrev Z5:=@List.map_cons
abbrev Z6:=@List.drop_eq_getElem_cons
abbrev Z7:=@Sem.run_pure
abbrev Z8:=@List.length_eq_zero_iff
abbrev Z9:=@Nat.zero_add
abbrev aan:=@List.getElem?_append_left
abbrev aao:=@List.append_assoc
abbrev aas:=@Nat.mul_le_mul_right
abbrev aat:=@List.cons_append
abbrev aau:=@List.mem_append
abbrev aav:=@Array.getElem?_eq_getElem
abbrev aaw:=@Array.toArray_toList
abbrev aax:=@List.getElem?_of_mem
abbrev aay:=@List.length_nil
abbrev aaz:=@Nat.beq_refl
abbrev aaA:=@List.mem_of_mem_drop
abbrev aaB:=@List.getElem?_map
abbrev aaC:=@List.getElem?_append_right
abbrev aaG:=@Nat.mod_two_eq_zero_or_one
abbrev aaH:=@Bool.eq_iff_iff
abbrev aaI:=@List.all_eq_true
abbrev aa1:=@Option.map_some
abbrev aa2:=@Bool.or_eq_true
abbrev aa3:=@Option.bind_eq_some_iff
abbrev aa4:=@Bool.eq_false_iff
abbrev abr:=@Option.map_eq_some_iff
abbrev abA:=@List.take_succ_eq_append_getElem
abbrev abB:=@List.getElem?_cons_succ
abbrev abC:=@List.drop_of_length_le
abbrev abD:=@List.getElem_mem
abbrev abE:=@Array.getElem?_replicate
abbrev abF:=@Nat.succ_mul
abbrev abG:=@List.tail_cons
abbrev abH:=@List.mem_range
abbrev abI:=@List.append_nil
abbrev abX:=@List.nil_append
abbrev ab1:=@List.mem_cons_self
abbrev ac1:=@List.mem_append_left
abbrev ac2:=@List.drop_one
abbrev adE:=@List.getElem?_inj
abbrev adI:=@List.take_succ_cons
abbrev adJ:=@List.map_append
abbrev adK:=@List.length_map
abbrev adL:=@List.getElem?_toArray
abbrev adM:=@List.mem_append_right
abbrev adN:=@Nat.le_of_not_lt
abbrev adO:=@Array.ext_getElem?
abbrev adP:=@List.mem_map
abbrev adQ:=@Option.bind_some
abbrev adR:=@Nat.zero_mul
abbrev adS:=@List.drop_drop
abbrev adT:=@UInt8.toNat_inj
abbrev adU:=@Nat.add_mul
abbrev adV:=@Nat.mul_comm
abbrev adW:=@Nat.le_div_iff_mul_le
abbrev ad1:=@List.nodup_cons
abbrev ad2:=@List.mem_filter
abbrev ad3:=@List.cons.injEq
abbrev ad4:=@Prod.ext_iff
abbrev ad5:=@List.size_toArray
abbrev aeb:=@Bool.true_and
abbrev ael:=@List.length_pos_iff
abbrev ae1:=@List.not_mem_nil
abbrev ae2:=@Calls.mono
abbrev ae3:=@Array.getElem?_eq_none
abbrev ae4:=@List.getElem_cons_zero
abbrev ae5:=@List.map_map
abbrev ae6:=@List.getElem?_take
abbrev ae9:=@Nat.lt_or_ge
abbrev afn:=@List.getElem?_eq_none
abbrev afo:=@Bool.and_eq_false_iff
abbrev afp:=@Nat.add_assoc
abbrev afq:=@List.sum_cons
abbrev afr:=@List.mem_of_mem_take
abbrev afs:=@Bool.or_eq_false_iff
abbrev aft:=@Nat.zero_le
abbrev afu:=@List.drop_length
abbrev afv:=@List.all_cons
abbrev afw:=@Nat.lt_irrefl
abbrev afx:=@List.getElem?_drop
abbrev afy:=@Option.map_none
abbrev afA:=@Nat.lt_of_lt_of_eq
abbrev agD:=@List.getElem_cons_succ
abbrev agF:=@List.eq_nil_of_length_eq_zero
abbrev agG:=@Nat.lt_trichotomy
abbrev ahr:=@List.take_zero
abbrev ahs:=@Nat.le_of_lt
abbrev aht:=@List.length_drop
abbrev ahu:=@Nat.mod_eq_of_lt
abbrev ahv:=@List.length_take
abbrev ahw:=@List.mem_map_of_mem
abbrev ahx:=@List.filter_eq_self
abbrev ahy:=@List.exists_mem_of_ne_nil
abbrev ahz:=@List.getElem?_zip_eq_some
abbrev ahA:=@List.extract_eq_take_drop
abbrev ahB:=@Nat.pos_of_ne_zero
abbrev ahC:=@UInt8.toNat_ofNat'
abbrev ahD:=@Nat.mul_div_cancel
abbrev ahE:=@Ne.symm
abbrev ahF:=@Int.negSucc_eq
abbrev ahG:=@List.filter_cons_of_neg
abbrev ahH:=@List.getElem?_cons_zero
abbrev ahI:=@List.filter_cons_of_pos
abbrev ahJ:=@List.length_range
abbrev ahK:=@Array.setIfInBounds_eq_of_size_le
abbrev ahL:=@List.filter_eq_nil_iff
abbrev ahM:=@Array.getElem?_push_lt
abbrev ahN:=@List.length_eq_one_iff
abbrev ahQ:=@Prod.mk.injEq
abbrev ahR:=@Array.getElem?_modify
abbrev ahS:=@List.range_eq_range'
abbrev aiV:=@Nat.ne_of_lt
abbrev aiW:=@Nat.mod_lt
abbrev aiX:=@List.contains_eq_mem
abbrev aiY:=@List.forIn_cons
abbrev aiZ:=@List.map_congr_left
abbrev ajD:=@List.flatten_append
abbrev ajR:=@Array.forIn_toList
abbrev ajS:=@Nat.add_sub_cancel
abbrev ajT:=@List.contains_cons
abbrev aj0:=@Bool.not_true
abbrev aj1:=@Array.getElem?_append_left
abbrev aj2:=@List.getElem_take
abbrev aj3:=@Nat.le_succ_of_le
abbrev aj4:=@Int.toNat_natCast
abbrev aj5:=@Array.mapM_eq_mapM_toList
abbrev aj6:=@Nat.div_eq_of_lt
abbrev aj7:=@Array.toList_map
abbrev aj8:=@CallsIn.mono
abbrev akb:=@List.take_length
abbrev alW:=@Array.toList_inj
abbrev alY:=@Nat.pow_succ
abbrev al5:=@Nat.add_comm
abbrev al6:=@Nat.lt_succ_self
abbrev al9:=@List.mem_reverse
abbrev ama:=@Array.size_setIfInBounds
abbrev amb:=@List.getElem_append_left
abbrev amc:=@Nat.sub_zero
abbrev amd:=@Option.isSome_iff_exists
abbrev ame:=@Nat.add_sub_cancel_left
abbrev amf:=@Nat.mul_add_mod
abbrev amg:=@Nat.div_add_mod
abbrev amh:=@List.foldl_cons
abbrev amj:=@Nat.le_succ
abbrev aml:=@Nat.mul_one
abbrev amq:=@Nat.mul_le_mul
abbrev amr:=@List.mapM_cons
abbrev amv:=@List.map_take
abbrev amw:=@List.map_drop
abbrev amx:=@Bool.false_or
end Go.AM
namespace Go.AM
open Go
noncomputable section
inductive T (α:Type) where
 | e:T α
 | nd:T α->α->T α->T α
inductive o7 where
 | undef
 | bool (b:Bool)
 | int (k:IntKind) (n:Int)
 | str (s:List UInt8)
 | nilPtr
 | ptr (id off:Nat)
 | nilSlice
 | slice (id off len cap:Nat)
 | sliceU (id off len es:Nat)
 | nilMap
 | map (id:Nat)
 | nilFunc
 | func (fn:Fn) (first captured:List o7)
 | nilIface
 | iface (t:TypeId) (v:o7)
 | agg (l:List o7)
 | tuple (l:List o7)
 | nN (v:o7)
 deriving Inhabited
def o7.cells:o7->List o7
 | .agg l=>l
 | v=>[v]
inductive Q8 where
 | loc (k:Nat)
 | slot (j:Nat)
 | con (v:o7)
 deriving Inhabited
inductive PK where
 | i | b | s
 deriving Inhabited,DecidableEq
inductive BJ where
 | prim (k:PK) | flat (ks:List PK) | ptr | slice | map | func | iface
 deriving Inhabited,DecidableEq
inductive WS where
 | mov (x:Q8)
 | pick (c a b:Q8)
 | build (zero:List o7) (parts:List (Nat×Nat×Q8))
 | nilCheck (x:Q8)
 | ib (op:BinOp) (x y:Q8)
 | eq (neg:Bool) (k:BJ) (x y:Q8)
 | not (x:Q8)
 | neg (x:Q8)
 | inv (x:Q8)
 | conv (k:IntKind) (x:Q8)
 | mkIface (t:TypeId) (x:Q8)
 | mkFunc (fn:Fn) (first captured:List Q8)
 | slStr (x:Q8) (lo hi:Option Q8)
 | slArr (es n:Nat) (x:Q8) (lo hi:Option Q8)
 | fAddr (off:Nat) (x:Q8)
 | fld (off:Nat) (size:Option Nat) (x:Q8)
 | iAddr (es:Nat) (x i:Q8)
 | iAddrArr (es n:Nat) (x i:Q8)
 | iArr (es n:Nat) (size:Option Nat) (x i:Q8)
 | iStr (x i:Q8)
 | ext (x:Q8) (i:Nat)
 | len (x:Q8)
 | fE (x:Q8)
 | cap (x:Q8)
 | mm (max:Bool) (x:Q8) (xs:List Q8)
 | assert (t:TypeId) (zero:o7) (ok:Bool) (x:Q8)
 deriving Inhabited
inductive QV where
 | load (size:Option Nat) (a:Q8)
 | look (kk:BJ) (zero:o7) (ok:Bool) (m k:Q8)
 | lenM (x:Q8)
 | bytesStr (x:Q8)
 | entry (it:Q8)
 | slData (x:Q8)
 | toUns (x:Q8)
 | fromUns (oks:List (Nat×Nat)) (x:Q8)
 deriving Inhabited
inductive UJ where
 | alloc (zero:List o7)
 | box (x:Q8)
 | allocT (ty:Nat) (zero:List o7)
 | boxT (ty k:Nat) (x:Q8)
 | buildSlice (es len:Nat) (zero:List o7) (parts:List (Nat×Nat×Q8))
 | mkMap
 | mkSlice (es bytes:Nat) (zero:List o7) (len cap:Q8)
 | strBytes (x:Q8)
 | sl (es:Nat) (x:Q8) (lo hi:Option Q8)
 deriving Inhabited
inductive WT where
 | store (size:Nat) (a x:Q8)
 | mapSet (kk:BJ) (m k x:Q8)
 | range (x:Q8)
 | next (it:Q8)
 | app (es:Nat) (zeros:Bool) (zero:List o7) (bytes:Nat) (s x:Q8)
 | copy (es:Nat) (d s:Q8)
 | clear (zero:List o7) (x:Q8)
 | call (f:FuncId) (args:List Q8)
 | callv (f:Q8) (args:List Q8)
 | defer (f:Q8) (args:List Q8)
 | panic (x:Q8)
 | recover
 | bad
 | rangeS (x:Q8)
 | nextS (it:Q8)
 | appB (ty:Nat) (s x:Q8)
 | ustr (ty:Nat) (p n:Q8)
 | storeAp (size:Nat) (a x b:Q8)
 deriving Inhabited
inductive zP where
 | p (o:WS)
 | r (o:QV)
 | a (o:UJ)
 | e (o:WT)
 deriving Inhabited
structure Inst where
 op:zP
 dst:Option Nat
 guard:Option (Q8×Bool)
 deriving Inhabited
inductive V8 where
 | skip
 | reg (ops:List Inst)
 | dreg (ids:Nat) (ops:List (Nat×Inst))
 | dreg2 (ids:Nat) (ops:List (Nat×Inst)) (tail:List Inst)
 | seq (a b:V8)
 | cond (c:Q8) (thn els:V8)
 | block (id:Nat) (body:V8)
 | loop (body:V8)
 | exit (id:Nat)
 | ret
 | rangeFunc (f:Q8) (params:List (Option Nat)) (assign body:V8)
 deriving Inhabited
inductive dG where
 | normal
 | exit (id:Nat)
 | ret
 deriving Inhabited,DecidableEq
inductive Mk where
 | c (id:Nat)
 | d (f:o7) (args:List o7)
 deriving Inhabited
inductive qg where
 | tmp (j:Nat)
 | cell (j:Nat) (size:Option Nat)
 deriving Inhabited
structure AFn where
 nargs:Nat
 args:List (Option Nat)
 nslots:Nat
 results:List qg
 body:V8
 deriving Inhabited
def iL:WS->List Q8
 | .mov x=>[x]
 | .pick a b c=>[a,b,c]
 | .build _ ps=>ps.map (·.2.2)
 | .nilCheck x=>[x]
 | .ib _ x y=>[x,y]
 | .eq _ _ x y=>[x,y]
 | .not x=>[x]
 | .neg x=>[x]
 | .inv x=>[x]
 | .conv _ x=>[x]
 | .mkIface _ x=>[x]
 | .mkFunc _ a b=>a++b
 | .slStr x a b=>x::(a.toList++b.toList)
 | .slArr _ _ x a b=>x::(a.toList++b.toList)
 | .fAddr _ x=>[x]
 | .fld _ _ x=>[x]
 | .iAddr _ x i=>[x,i]
 | .iAddrArr _ _ x i=>[x,i]
 | .iArr _ _ _ x i=>[x,i]
 | .iStr x i=>[x,i]
 | .ext x _=>[x]
 | .len x=>[x]
 | .fE x=>[x]
 | .cap x=>[x]
 | .mm _ x xs=>x::xs
 | .assert _ _ _ x=>[x]
def zQ:QV->List Q8
 | .load _ a=>[a]
 | .look _ _ _ m x=>[m,x]
 | .lenM x=>[x]
 | .bytesStr x=>[x]
 | .entry x=>[x]
 | .slData x=>[x]
 | .toUns x=>[x]
 | .fromUns _ x=>[x]
def opsL:UJ->List Q8
 | .alloc _=>[]
 | .box x=>[x]
 | .allocT _ _=>[]
 | .boxT _ _ x=>[x]
 | .buildSlice _ _ _ ps=>ps.map (·.2.2)
 | .mkMap=>[]
 | .mkSlice _ _ _ l c=>[l,c]
 | .strBytes x=>[x]
 | .sl _ x a b=>x::(a.toList++b.toList)
def opsE:WT->List Q8
 | .store _ a x=>[a,x]
 | .mapSet _ a b c=>[a,b,c]
 | .range x=>[x]
 | .next x=>[x]
 | .app _ _ _ _ s x=>[s,x]
 | .copy _ d s=>[d,s]
 | .clear _ x=>[x]
 | .call _ a=>a
 | .callv g a=>g::a
 | .defer g a=>g::a
 | .panic x=>[x]
 | .recover=>[]
 | .bad=>[]
 | .rangeS x=>[x]
 | .nextS x=>[x]
 | .appB _ s x=>[s,x]
 | .ustr _ p n=>[p,n]
 | .storeAp _ a x b=>[a,x,b]
def Fg:zP->List Q8
 | .p o=>iL o
 | .r o=>zQ o
 | .a o=>opsL o
 | .e o=>opsE o
variable {α β γ:Type}
def ob (o:Option α)(k:α->Option β):Option β:=Option.rec none (λa=>k a) o
def bi (b:Bool)(x y:α):α:=Bool.rec y x b
def T.get (t:T α):Nat->Option α:=
 T.rec (λ_=>none) (λ_ x _ ihl ihr i=>Nat.rec (some x) (λj _=>Nat.rec (ihl (Nat.div j 2)) (λ_ _=>ihr (Nat.div j 2)) (Nat.mod j 2)) i) t
def T.put (t:T α):Nat->α->T α:=
 T.rec (λ_ x=>.nd .e x .e) (λl y r ihl ihr i x=>Nat.rec (.nd l x r) (λj _=>Nat.rec (.nd (ihl (Nat.div j 2) x) y r) (λ_ _=>.nd l y (ihr (Nat.div j 2) x)) (Nat.mod j 2)) i) t
def T.oG (l:List α):T α->Nat->T α:=
 List.rec (λt _=>t) (λx _ ih t i=>ih (t.put i x) (Nat.succ i)) l
def T.ofList (l:List α):T α:=T.oG l .e 0
def T.slice (t:T α)(n:Nat):Nat->Option (List α):=
 Nat.rec (λ_=>some []) (λ_ ih i=>ob (t.get i) λx=>ob (ih (Nat.succ i)) λxs=>some (x::xs)) n
def T.rep (x:α)(n:Nat):T α->Nat->T α:=
 Nat.rec (λt _=>t) (λ_ ih t i=>ih (t.put i x) (Nat.succ i)) n
def takeN (n:Nat):List α->Option (List α):=
 Nat.rec (λ_=>some []) (λ_ ih l=>List.rec none (λx xs _=>ob (ih xs) λr=>some (x::r)) l) n
def kF (n:Nat):List α->List α:=
 Nat.rec (λl=>l) (λ_ ih l=>List.rec [] (λ_ xs _=>ih xs) l) n
def nO (n:Nat):List α->Option α:=
 Nat.rec (λl=>List.rec none (λx _ _=>some x) l) (λ_ ih l=>List.rec none (λ_ xs _=>ih xs) l) n
def nth (n:Nat):List o7->o7:=
 Nat.rec (λl=>List.rec o7.undef (λx _ _=>x) l) (λ_ ih l=>List.rec o7.undef (λ_ xs _=>ih xs) l) n
def aJ (l m:List α):List α:=List.rec m (λx _ ih=>x::ih) l
def len' (l:List α):Nat:=List.rec 0 (λ_ _ ih=>Nat.succ ih) l
def mM (n:Nat)(vs:List α):List α->List α:=
 Nat.rec (λl=>aJ vs (kF (len' vs) l)) (λ_ ih l=>List.rec [] (λx xs _=>x::ih xs) l) n
def iM (v:o7)(k:Nat->Nat->Option β):Option β:=match v with
 | .ptr i o=>k i o
 | _=>none
def sS (v:o7)(k:IntKind->Int->Option β):Option β:=match v with
 | .int a b=>k a b
 | _=>none
def oH (v:o7)(k:Bool->Option β):Option β:=match v with
 | .bool b=>k b
 | _=>none
def mO (v:o7)(k:List UInt8->Option β):Option β:=match v with
 | .str s=>k s
 | _=>none
def vg (v:o7)(k:List o7->Option β):Option β:=match v with
 | .agg l=>k l
 | _=>none
def NS (v:o7)(k:List o7->Option β):Option β:=match v with
 | .tuple l=>k l
 | _=>none
def vk (v:o7)(nl:Option β)(k:Nat->Option β):Option β:=match v with
 | .nilMap=>nl
 | .map i=>k i
 | _=>none
def lG (v:o7)(nl:Option β)(k:Nat->Nat->Nat->Nat->Option β)(u:Nat->Nat->Nat->Nat->Option β):Option β:=match v with
 | .nilSlice=>nl
 | .slice a b c d=>k a b c d
 | .sliceU a b c d=>u a b c d
 | _=>none
def NT (v:o7)(k:Fn->List o7->List o7->Option β):Option β:=match v with
 | .func f a b=>k f a b
 | _=>none
def NU (n:Int)(k:Nat->Option β):Option β:=match n with
 | .ofNat m=>k m
 | .negSucc _=>none
def jC (v:o7)(k:Nat->Option β):Option β:=sS v λ_ n=>NU n k
inductive P9 where
 | void
 | dead
 | cells (rs n:Nat) (rows:T (List o7))
 | map (es:List (o7×o7))
 | iter (m:Option Nat) (since:Nat) (seen:List Nat)
 | tail (parent:Nat)
 | loop (st:LoopState) (pend:Option dG) (env:T o7) (params:List (Option Nat)) (assign body:V8)
 | deferred
 | siter (s:List UInt8) (pos:Nat)
 | buf (ty:Nat) (s:List UInt8)
 | mapU (es:List (o7×o7))
 deriving Inhabited
structure Mem where
 t:T P9
 nx:Nat
 lim:Nat
def Mem.get (m:Mem)(i:Nat):Option P9:=m.t.get i
def Mem.new (m:Mem)(b:P9):Mem:=⟨m.t.put m.nx b,Nat.succ m.nx,m.lim⟩
def Mem.set (m:Mem)(i:Nat)(b:P9):Mem:=⟨m.t.put i b,m.nx,m.lim⟩
def P6 (b:Option P9)(k:Nat->Nat->T (List o7)->Option β):Option β:=match b with
 | some (.cells rs n rows)=>k rs n rows
 | _=>none
def QW (b:Option P9)(k:List (o7×o7)->Option β):Option β:=match b with
 | some (.map es)=>k es
 | _=>none
def KT (b:Option P9)(k:List (o7×o7)->Option β):Option β:=match b with
 | some (.map es)=>k es
 | some (.mapU es)=>k es
 | _=>none
def Xh (ty:Nat):List o7:=[.nN (.int .u64 (.ofNat ty))]
def Fh (rows:T (List o7)):Option Nat:=ob (rows.get 1) λr=>List.rec none (λv _ _=>match v with
 | .nN (.int .u64 (.ofNat n))=>some n
 | _=>none) r
def cell1 (rs n:Nat)(rows:T (List o7))(off:Nat):Option o7:=
 Bool.rec none (Option.rec none (λrow=>nO (Nat.mod off rs) row) (rows.get (Nat.div off rs))) (Nat.blt (Nat.div off rs) n)
def gK (rs n:Nat)(rows:T (List o7))(off k:Nat):Option (List o7):=
 bi (Nat.blt (Nat.div off rs) n) (ob (rows.get (Nat.div off rs)) λrow=>
  bi (Nat.beq (Nat.mod off rs) 0) (bi (Nat.beq k rs) (some row) (takeN k row)) (takeN k (kF (Nat.mod off rs) row))) none
def U4 (rs n:Nat)(rows:T (List o7))(k:Nat):Nat->Option (List o7):=
 Nat.rec (λ_=>some []) (λ_ ih off=>ob (cell1 rs n rows off) λv=>ob (ih (Nat.succ off)) λl=>some (v::l)) k
def aT (rs n:Nat)(rows:T (List o7))(off:Nat)(vs:List o7):Option (T (List o7)):=
 bi (Nat.blt (Nat.div off rs) n) (ob (rows.get (Nat.div off rs)) λrow=>
  bi (Nat.ble (Nat.add (Nat.mod off rs) (len' vs)) rs) (some (rows.put (Nat.div off rs) (mM (Nat.mod off rs) vs row))) none) none
def jf (rs n:Nat)(vs:List o7):T (List o7)->Nat->Option (T (List o7)):=
 List.rec (λrows _=>some rows) (λv _ ih rows off=>ob (aT rs n rows off [v]) λrows'=>ih rows' (Nat.succ off)) vs
def rowsOf (rs n:Nat):List o7->Option (List (List o7)):=
 Nat.rec (λl=>List.rec (some []) (λ_ _ _=>none) l) (λ_ ih l=>ob (takeN rs l) λr=>ob (ih (kF rs l)) λrest=>some (r::rest)) n
def H6 (v:o7):Bool:=match v with
 | .undef | .agg _ | .tuple _ | .nN _=>false
 | _=>true
def N7 (l:List o7):Bool:=List.rec true (λv _ ih=>bi (H6 v) ih false) l
def storeAt (m:Mem)(id off:Nat)(vs:List o7)(k:Mem->Option β):Option β:=
 bi (Nat.blt id m.lim) none (bi (N7 vs) (P6 (m.get id) λrs n rows=>ob (aT rs n rows off vs) λrows'=>k (m.set id (.cells rs n rows'))) none)
def jX (m:Mem)(id off:Nat)(vs:List o7)(k:Mem->Option β):Option β:=
 List.rec (k m) (λ_ _ _=>bi (Nat.blt id m.lim) none (bi (N7 vs) (P6 (m.get id) λrs n rows=>ob (jf rs n vs rows off) λrows'=>k (m.set id (.cells rs n rows'))) none)) vs
abbrev OF:=List o7->T o7->o7
def dM (k:Nat):OF:=λls _=>nth k ls
def G8:OF:=λls _=>List.rec o7.undef (λx _ _=>x) ls
def dx:OF:=λls _=>List.rec o7.undef (λ_ l _=>List.rec o7.undef (λx _ _=>x) l) ls
def dV:OF:=λls _=>List.rec o7.undef (λ_ l _=>List.rec o7.undef (λ_ l _=>List.rec o7.undef (λx _ _=>x) l) l) ls
def vo:OF:=λls _=>List.rec o7.undef (λ_ l _=>List.rec o7.undef (λ_ l _=>List.rec o7.undef (λ_ l _=>List.rec o7.undef (λx _ _=>x) l) l) l) ls
def G6 (v:o7):OF:=λ_ _=>v
def gH:T o7->o7:=T.rec .undef (λ_ x _ _ _=>x)
def gL (g:T o7->o7):T o7->o7:=T.rec .undef (λl _ _ _ _=>g l)
def gR (g:T o7->o7):T o7->o7:=T.rec .undef (λ_ _ r _ _=>g r)
def K3 (g:T o7->o7):OF:=λ_ env=>g env
def way:Nat->Nat->T o7->o7
 | 0,_=>λ_=>.undef
 | _+1,0=>gH
 | n+1,j+1=>match j%2 with
  | 0=>gL (way n (j / 2))
  | _=>gR (way n (j / 2))
def G9:Q8->OF
 | .loc 0=>G8
 | .loc 1=>dx
 | .loc 2=>dV
 | .loc 3=>vo
 | .loc k=>dM k
 | .slot j=>K3 (way 64 j)
 | .con v=>G6 v
def gY:List Q8->List OF
 | []=>[]
 | x::l=>G9 x::gY l
def lK:Option Q8->Option OF
 | none=>none
 | some x=>some (G9 x)
def evs (l:List OF)(ls:List o7)(env:T o7):List o7:=List.rec [] (λx _ ih=>x ls env::ih) l
def sH:o7->T o7->T o7:=λv=>T.rec .e (λl _ r _ _=>.nd l v r)
def sL (s:o7->T o7->T o7):o7->T o7->T o7:=λv=>T.rec .e (λl x r _ _=>.nd (s v l) x r)
def sR (s:o7->T o7->T o7):o7->T o7->T o7:=λv=>T.rec .e (λl x r _ _=>.nd l x (s v r))
def vv:Nat->Nat->o7->T o7->T o7
 | 0,_=>λ_ t=>t
 | _+1,0=>sH
 | n+1,j+1=>match j%2 with
  | 0=>sL (vv n (j / 2))
  | _=>sR (vv n (j / 2))
def I6:o7->T o7->T o7:=λ_ t=>t
def dS:Option Nat->o7->T o7->T o7
 | none=>I6
 | some j=>vv 64 j
def rz (n:Int):Int:=match n with
 | .ofNat m=>bi (Nat.blt m 9223372036854775808) (.ofNat m) (IntKind.i64.wrap (.ofNat m))
 | .negSucc m=>bi (Nat.blt m 9223372036854775808) (.negSucc m) (IntKind.i64.wrap (.negSucc m))
def vB (k:IntKind)(n:Int):Int:=match k with
 | .i64=>rz n
 | k=>k.wrap n
def bJ:Int->Int->Bool
 | .ofNat a,.ofNat b=>Nat.beq a b
 | .negSucc a,.negSucc b=>Nat.beq a b
 | _,_=>false
def uE:Int->Int->Bool
 | .ofNat a,.ofNat b=>Nat.blt a b
 | .negSucc _,.ofNat _=>true
 | .ofNat _,.negSucc _=>false
 | .negSucc a,.negSucc b=>Nat.blt b a
def kEq (a b:IntKind):Bool:=match a,b with
 | .i64,.i64=>true
 | a,b=>decide (a=b)
def strEq (a:List UInt8):List UInt8->Bool:=
 List.rec (λb=>List.rec true (λ_ _ _=>false) b) (λx _ ih b=>List.rec false (λy ys _=>bi (Nat.beq x.toNat y.toNat) (ih ys) false) b) a
def sU:List UInt8->List UInt8->Bool
 | _,[]=>false
 | [],_ :: _=>true
 | a::x,b::y=>a<b||(a==b&&sU x y)
def zR (k:IntKind)(f:BitVec k.bits->BitVec k.bits->BitVec k.bits)(a b:Int):o7:=
 .int k (k.wrap (f (BitVec.ofInt k.bits a) (BitVec.ofInt k.bits b)).toNat)
def aeu (b:Int)(r:Option o7):Option o7:=match b with
 | .ofNat 0=>none
 | _=>r
abbrev IB:=IntKind->Int->Int->Option o7
def cO:IB:=λk a b=>some (.int k (vB k (a+b)))
def KU:IB:=λk a b=>some (.int k (vB k (a-b)))
def aaD:IB:=λk a b=>some (.int k (vB k (a*b)))
def Xi:IB:=λk a b=>aeu b (some (.int k (vB k (a.tdiv b))))
def ahT:IB:=λk a b=>aeu b (some (.int k (a.tmod b)))
def ahU:IB:=λk a b=>some (zR k (· &&& ·) a b)
def iOr:IB:=λk a b=>some (zR k (· ||| ·) a b)
def ahV:IB:=λk a b=>some (zR k (· ^^^ ·) a b)
def Tg:IB:=λk a b=>some (zR k (λx y=>x &&& ~~~y) a b)
def iO:IB:=λ_ a b=>some (.bool (bJ a b))
def NI:IB:=λ_ a b=>some (.bool (!bJ a b))
def KV:IB:=λ_ a b=>some (.bool (uE a b))
def QX:IB:=λ_ a b=>some (.bool (!uE b a))
def NJ:IB:=λ_ a b=>some (.bool (uE b a))
def WU:IB:=λ_ a b=>some (.bool (!uE a b))
def iNo:IB:=λ_ _ _=>none
abbrev SB:=List UInt8->List UInt8->Option o7
def Q0:SB:=λa b=>bi (Nat.blt (Nat.add (len' a) (len' b)) 9223372036854775808) (some (.str (aJ a b))) none
def iP:SB:=λa b=>some (.bool (strEq a b))
def NK:SB:=λa b=>some (.bool (!strEq a b))
def NM:SB:=λa b=>some (.bool (sU a b))
def UK:SB:=λa b=>some (.bool (sU a b||strEq a b))
def NV:SB:=λa b=>some (.bool (!(sU a b||strEq a b)))
def sGe:SB:=λa b=>some (.bool (!sU a b))
def vC:SB:=λ_ _=>none
def KX:BinOp->IB
 | .add=>cO | .sub=>KU | .mul=>aaD | .quo=>Xi | .rem=>ahT | .and=>ahU | .or=>iOr | .xor=>ahV | .andNot=>Tg
 | .shl=>iNo | .shr=>iNo | .eql=>iO | .neq=>NI | .lss=>KV | .leq=>QX | .gtr=>NJ | .geq=>WU
def KY:BinOp->SB
 | .add=>Q0 | .eql=>iP | .neq=>NK | .lss=>NM | .leq=>UK | .gtr=>NV | .geq=>sGe
 | _=>vC
def Ef (f:IB)(g:SB)(x y:o7):Option o7:=match x with
 | .int k a=>sS y λk' b=>bi (kEq k k') (f k a b) none
 | .str a=>mO y λb=>g a b
 | _=>none
def aaE (x y:o7):Option o7:=sS x λk a=>jC y λm=>some (.int k (vB k (a*2^(min m k.bits))))
def aaF (x y:o7):Option o7:=sS x λk a=>jC y λm=>some (.int k (a.fdiv (2^(min m k.bits))))
def Fj (a b:Bool):Bool:=bi a b (bi b false true)
def aK (x y:o7):Option Bool:=sS x λk a=>sS y λk' b=>bi (kEq k k') (some (bJ a b)) none
def sV (x y:o7):Option Bool:=oH x λa=>oH y λb=>some (Fj a b)
def eqStr (x y:o7):Option Bool:=mO x λa=>mO y λb=>some (strEq a b)
def IE (k:PK):o7->o7->Option Bool:=match k with
 | .i=>aK
 | .b=>sV
 | .s=>eqStr
def dz (ks:List PK):List o7->List o7->Option Bool:=
 List.rec (λ_ _=>some true) (λk _ ih a b=>List.rec none (λx xs _=>List.rec none (λy ys _=>ob (IE k x y) λr=>bi r (ih xs ys) (some false)) b) a) ks
def sW (ks:List PK)(x y:o7):Option Bool:=vg x λa=>vg y λb=>dz ks a b
def zS (x y:o7):Option Bool:=match x,y with
 | .nilPtr,.nilPtr=>some true
 | .nilPtr,.ptr _ _=>some false
 | .ptr _ _,.nilPtr=>some false
 | .ptr a b,.ptr c d=>bi (Nat.beq a c) (bi (Nat.beq b d) (some true) none) none
 | _,_=>none
def zT (x y:o7):Option Bool:=match x,y with
 | .nilSlice,.nilSlice=>some true
 | .nilSlice,.slice .. | .nilSlice,.sliceU ..=>some false
 | .slice ..,.nilSlice | .sliceU ..,.nilSlice=>some false
 | _,_=>none
def NW (x y:o7):Option Bool:=match x,y with
 | .nilMap,.nilMap=>some true
 | .nilMap,.map _ | .map _,.nilMap=>some false
 | _,_=>none
def Fp (x y:o7):Option Bool:=match x,y with
 | .nilFunc,.nilFunc=>some true
 | .nilFunc,.func .. | .func ..,.nilFunc=>some false
 | _,_=>none
def iF (x y:o7):Option Bool:=match x,y with
 | .nilIface,.nilIface=>some true
 | .nilIface,.iface .. | .iface ..,.nilIface=>some false
 | _,_=>none
abbrev IG:=o7->o7->Option Bool
def nA:BJ->IG
 | .prim .i=>aK | .prim .b=>sV | .prim .s=>eqStr | .flat ks=>sW ks | .ptr=>zS | .slice=>zT | .map=>NW | .func=>Fp | .iface=>iF
abbrev PF:=List o7->T o7->Option o7
def Q5 (x:OF):PF:=λls env=>some (x ls env)
def gy (c a b:OF):PF:=λls env=>oH (c ls env) λt=>some (bi t (a ls env) (b ls env))
def lay (ps:List (Nat×Nat×OF))(ls:List o7)(env:T o7):List o7->Option (List o7):=
 List.rec (λcs=>some cs) (λp _ ih cs=>
  bi (Nat.beq (len' (p.2.2 ls env).cells) p.2.1) (bi (Nat.ble (Nat.add p.1 p.2.1) (len' cs)) (ih (mM p.1 (p.2.2 ls env).cells cs)) none) none) ps
def bG (zero:List o7)(ps:List (Nat×Nat×OF)):PF:=λls env=>ob (lay ps ls env zero) λl=>some (.agg l)
def BM (v:o7):Option o7:=match v with
 | .nilPtr | .nilIface | .nilFunc=>none
 | .func (.func f) a b=>some (.func (.func f) a b)
 | .func ..=>none
 | v=>some v
def bV (x:OF):PF:=λls env=>BM (x ls env)
def O8 (f:IB)(g:SB)(x y:OF):PF:=λls env=>Ef f g (x ls env) (y ls env)
def aev (x y:OF):PF:=λls env=>aaE (x ls env) (y ls env)
def aew (x y:OF):PF:=λls env=>aaF (x ls env) (y ls env)
def pEq (f:IG)(x y:OF):PF:=λls env=>ob (f (x ls env) (y ls env)) λb=>some (.bool b)
def pNe (f:IG)(x y:OF):PF:=λls env=>ob (f (x ls env) (y ls env)) λb=>some (.bool (!b))
def NY (x:OF):PF:=λls env=>oH (x ls env) λb=>some (.bool (!b))
def aex (x:OF):PF:=λls env=>sS (x ls env) λk n=>some (zR k (· ^^^ ·) (bi k.signed (-1) k.max) n)
def aey (x:OF):PF:=λls env=>sS (x ls env) λk n=>some (.int k (vB k (0-n)))
def NZ (k:IntKind)(x:OF):PF:=λls env=>sS (x ls env) λ_ n=>some (.int k (vB k n))
def Fq (t:TypeId)(x:OF):PF:=λls env=>some (.iface t (x ls env))
def Xj (fn:Fn)(a b:List OF):PF:=λls env=>some (.func fn (evs a ls env) (evs b ls env))
def gM (o:Option OF)(d:Nat)(ls:List o7)(env:T o7)(k:Nat->Option β):Option β:=
 Option.rec (k d) (λx=>jC (x ls env) k) o
def qO (x:OF)(lo hi:Option OF):PF:=λls env=>mO (x ls env) λs=>gM lo 0 ls env λl=>gM hi (len' s) ls env λh=>bi (Nat.ble l h) (bi (Nat.ble h (len' s)) (ob (takeN (Nat.sub h l) (kF l s)) λr=>some (.str r)) none) none
def Xk (es n:Nat)(x:OF)(lo hi:Option OF):PF:=λls env=>iM (x ls env) λid off=>gM lo 0 ls env λl=>gM hi n ls env λh=>bi (Nat.ble l h) (bi (Nat.ble h n) (some (.slice id (bi (Nat.beq l n) off (Nat.add off (Nat.mul l es))) (Nat.sub h l) (Nat.sub n l))) none) none
def N9 (o:Nat)(x:OF):PF:=λls env=>iM (x ls env) λid off=>some (.ptr id (Nat.add off o))
def Xm (off:Nat)(x:OF):PF:=λls env=>vg (x ls env) λcs=>nO off cs
def Xn (off k:Nat)(x:OF):PF:=λls env=>vg (x ls env) λcs=>ob (takeN k (kF off cs)) λl=>some (.agg l)
def idx (len:Nat)(v:o7)(k:Nat->Option β):Option β:=jC v λi=>bi (Nat.blt i len) (k i) none
def aU (es:Nat)(x i:OF):PF:=λls env=>
 lG (x ls env) none (λid off len _=>idx len (i ls env) λk=>some (.ptr id (Nat.add off (Nat.mul k es))))
  (λid off len _=>idx len (i ls env) λk=>some (.ptr id (Nat.add off (Nat.mul k es))))
def BN (es n:Nat)(x i:OF):PF:=λls env=>iM (x ls env) λid off=>idx n (i ls env) λk=>some (.ptr id (Nat.add off (Nat.mul k es)))
def Fu (es n:Nat)(x i:OF):PF:=λls env=>vg (x ls env) λcs=>idx n (i ls env) λk=>nO (Nat.mul k es) cs
def Xo (es n sz:Nat)(x i:OF):PF:=λls env=>vg (x ls env) λcs=>idx n (i ls env) λk=>ob (takeN sz (kF (Nat.mul k es) cs)) λl=>some (.agg l)
def vD (x i:OF):PF:=λls env=>mO (x ls env) λs=>jC (i ls env) λk=>ob (nO k s) λb=>some (.int .u8 b.toNat)
def pExt (x:OF)(i:Nat):PF:=λls env=>NS (x ls env) λl=>nO i l
def lenOf (v:o7):Option Nat:=match v with
 | .nilSlice=>some 0
 | .slice _ _ n _=>some n
 | .sliceU _ _ n _=>some n
 | .str s=>some (len' s)
 | _=>none
def KZ (x:OF):PF:=λls env=>lG (x ls env) (some (.int .i64 0)) (λ_ _ n _=>some (.int .i64 (.ofNat n))) (λ_ _ n _=>some (.int .i64 (.ofNat n)))
def Dh (x:OF):PF:=λls env=>mO (x ls env) λs=>some (.int .i64 (.ofNat (len' s)))
def aez (x:OF):PF:=λls env=>lG (x ls env) (some (.int .i64 0)) (λ_ _ _ c=>some (.int .i64 (.ofNat c))) (λ_ _ _ _=>none)
def mm2 (mx:Bool)(x y:o7):Option o7:=sS x λk a=>sS y λ_ b=>some (.int k (bi mx (bi (uE a b) b a) (bi (uE b a) b a)))
def Oa (mx:Bool)(ys:List o7):o7->Option o7:=List.rec (λx=>some x) (λy _ ih x=>ob (mm2 mx x y) ih) ys
def pMm (mx:Bool)(x:OF)(xs:List OF):PF:=λls env=>Oa mx (evs xs ls env) (x ls env)
def Ti (t:TypeId)(zero:o7)(ok:Bool)(v:o7):Option o7:=match v with
 | .iface u y=>bi (Nat.beq u t) (some (bi ok (.tuple [y,.bool true]) y)) (bi ok (some (.tuple [zero,.bool false])) none)
 | .nilIface=>bi ok (some (.tuple [zero,.bool false])) none
 | _=>none
def sZ (t:TypeId)(zero:o7)(ok:Bool)(x:OF):PF:=λls env=>Ti t zero ok (x ls env)
def BO:List (Nat×Nat×Q8)->List (Nat×Nat×OF)
 | []=>[]
 | p::l=>(p.1,p.2.1,G9 p.2.2)::BO l
def oh:WS->PF
 | .mov x=>Q5 (G9 x)
 | .pick c a b=>gy (G9 c) (G9 a) (G9 b)
 | .build z ps=>bG z (BO ps)
 | .nilCheck x=>bV (G9 x)
 | .ib op x y=>match op with
  | .shl=>aev (G9 x) (G9 y)
  | .shr=>aew (G9 x) (G9 y)
  | op=>O8 (KX op) (KY op) (G9 x) (G9 y)
 | .eq neg k x y=>match neg with
  | true=>pNe (nA k) (G9 x) (G9 y)
  | false=>pEq (nA k) (G9 x) (G9 y)
 | .not x=>NY (G9 x)
 | .neg x=>aey (G9 x)
 | .inv x=>aex (G9 x)
 | .conv k x=>NZ k (G9 x)
 | .mkIface t x=>Fq t (G9 x)
 | .mkFunc fn a b=>Xj fn (gY a) (gY b)
 | .slStr x lo hi=>qO (G9 x) (lK lo) (lK hi)
 | .slArr es n x lo hi=>Xk es n (G9 x) (lK lo) (lK hi)
 | .fAddr o x=>N9 o (G9 x)
 | .fld off size x=>match size with
  | none=>Xm off (G9 x)
  | some k=>Xn off k (G9 x)
 | .iAddr es x i=>aU es (G9 x) (G9 i)
 | .iAddrArr es n x i=>BN es n (G9 x) (G9 i)
 | .iArr es n size x i=>match size with
  | none=>Fu es n (G9 x) (G9 i)
  | some k=>Xo es n k (G9 x) (G9 i)
 | .iStr x i=>vD (G9 x) (G9 i)
 | .ext x i=>pExt (G9 x) i
 | .len x=>KZ (G9 x)
 | .fE x=>Dh (G9 x)
 | .cap x=>aez (G9 x)
 | .mm mx x xs=>pMm mx (G9 x) (gY xs)
 | .assert t z ok x=>sZ t z ok (G9 x)
abbrev RF:=List o7->T o7->Mem->Option o7
def qP (a:OF):RF:=λls env m=>iM (a ls env) λid off=>P6 (m.get id) λrs n rows=>cell1 rs n rows off
def bX (k:Nat)(a:OF):RF:=λls env m=>iM (a ls env) λid off=>P6 (m.get id) λrs n rows=>ob (gK rs n rows off k) λl=>some (.agg l)
def findKey (f:IG)(k:o7)(es:List (o7×o7)):Nat->Option (Option (Nat×o7)):=
 List.rec (λ_=>some none) (λe _ ih i=>ob (f k e.1) λb=>bi b (some (some (i,e.2))) (ih (Nat.succ i))) es
def found (ok:Bool)(zero:o7)(o:Option (Nat×o7)):Option o7:=
 Option.rec (some (bi ok (.tuple [zero,.bool false]) zero)) (λp=>some (bi ok (.tuple [p.2,.bool true]) p.2)) o
def V9 (f:IG)(n:Nat)(k:o7)(es:List (o7×o7)):Option (Option (Nat×o7)):=
 bi (Nat.beq (len' k.cells) n) (List.rec (ob (f k k) λ_=>some none) (λ_ _ _=>findKey f k es 0) es) none
def Tj (f:IG)(n:Nat)(zero:o7)(ok:Bool)(mp k:OF):RF:=λls env m=>vk (mp ls env) (ob (V9 f n (k ls env) []) λr=>found ok zero r) λid=>KT (m.get id) λes=>ob (V9 f n (k ls env) es) λr=>found ok zero r
def adb (x:OF):RF:=λls env m=>vk (x ls env) (some (.int .i64 0)) λid=>QW (m.get id) λes=>some (.int .i64 (.ofNat (len' es)))
def bytesOf:List UInt8->List o7
 | []=>[]
 | b::l=>.int .u8 b.toNat::bytesOf l
def byteOf:List o7->Option (List UInt8)
 | []=>some []
 | .int .u8 (.ofNat n)::l=>match byteOf l with
  | some s=>some (UInt8.ofNat n::s)
  | none=>none
 | _ :: _=>none
def aC (m:Mem)(id off n:Nat):Option (List o7):=
 Nat.rec (some []) (λ_ _=>P6 (m.get id) λrs k rows=>U4 rs k rows n off) n
def gN (m:Mem)(es n:Nat)(v:o7):Option (List o7):=match v with
 | .nilSlice=>some []
 | .slice id off _ _=>aC m id off (Nat.mul n es)
 | .sliceU id off _ _=>aC m id off (Nat.mul n es)
 | .str s=>some (bytesOf (s.take n))
 | _=>none
def iy (x:OF):RF:=λls env m=>
 lG (x ls env) (some (.str [])) (λid off len _=>ob (aC m id off len) λl=>ob (byteOf l) λs=>some (.str s))
  (λid off len _=>ob (aC m id off len) λl=>ob (byteOf l) λs=>some (.str s))
def Jq (b:Option P9)(nl:Option β)(k:Nat->Nat->List Nat->Option β):Option β:=match b with
 | some (.iter none _ _)=>nl
 | some (.iter (some mp) since seen)=>k mp since seen
 | _=>none
def tq (it:OF):RF:=λls env m=>iM (it ls env) λid off=>bi (Nat.beq off 0)
 (Jq (m.get id) none λmp since seen=>List.rec none (λi _ _=>QW (m.get mp) λes=>bi (Nat.beq (len' es) since) (ob (nO i es) λe=>some (.tuple [e.1,e.2])) none) seen) none
def Ez (x:OF):RF:=λls env _=>lG (x ls env) (some .nilPtr) (λid off _ cap=>bi (Nat.blt 0 cap) (some (.ptr id off)) none) (λid off len _=>bi (Nat.blt 0 len) (some (.ptr id off)) none)
def tu (x:OF):RF:=λls env m=>match x ls env with
 | .nilPtr=>some .nilPtr
 | .ptr id off=>P6 (m.get id) λrs n _=>bi (Nat.blt off (Nat.mul n rs)) (some (.ptr id off)) none
 | _=>none
def Xp (ty off:Nat)(l:List (Nat×Nat)):Bool:=List.rec false (λp _ ih=>bi (Nat.beq p.1 ty) (bi (Nat.beq p.2 off) true ih) ih) l
def kG (oks:List (Nat×Nat))(x:OF):RF:=λls env m=>match x ls env with
 | .nilPtr=>some .nilPtr
 | .ptr id off=>P6 (m.get id) λ_ n rows=>bi (Nat.beq n 1) (ob (Fh rows) λty=>bi (Xp ty off oks) (some (.ptr id off)) none) none
 | _=>none
def BP:BJ->Nat
 | .flat ks=>ks.length
 | _=>1
def tC:QV->RF
 | .load size a=>match size with
  | none=>qP (G9 a)
  | some k=>bX k (G9 a)
 | .look kk zero ok m k=>Tj (nA kk) (BP kk) zero ok (G9 m) (G9 k)
 | .lenM x=>adb (G9 x)
 | .bytesStr x=>iy (G9 x)
 | .entry it=>tq (G9 it)
 | .slData x=>Ez (G9 x)
 | .toUns x=>tu (G9 x)
 | .fromUns oks x=>kG oks (G9 x)
abbrev LR:=Option (o7×Option P9)
abbrev LF:=List o7->T o7->Nat->LR
def o9 (cs:List o7):P9:=.cells (len' cs) 1 (.nd .e cs .e)
def xw (es n:Nat)(cells:List o7)(k:P9->Option β):Option β:=ob (rowsOf es n cells) λrows=>k (.cells es n (T.ofList rows))
def fJ (ty:Nat)(cs:List o7):P9:=.cells (len' cs) 1 (.nd (.nd .e (Xh ty) .e) cs .e)
def zU (ty:Nat)(zero:List o7):LF:=λ_ _ nid=>some (.ptr nid 0,some (fJ ty zero))
def ade (ty k:Nat)(x:OF):LF:=λls env nid=>bi (Nat.beq (len' (x ls env).cells) k) (some (.ptr nid 0,some (fJ ty (x ls env).cells))) none
def jv (zero:List o7):LF:=λ_ _ nid=>some (.ptr nid 0,some (o9 zero))
def UL (x:OF):LF:=λls env nid=>some (.ptr nid 0,some (o9 (x ls env).cells))
def U7 (zero:List o7)(n:Nat):List o7:=Nat.rec [] (λ_ ih=>aJ zero ih) n
def P7 (es len:Nat)(zero:List o7)(ps:List (Nat×Nat×OF)):LF:=λls env nid=>ob (lay ps ls env (U7 zero len)) λcells=>xw es len cells λb=>some (.slice nid 0 len len,some b)
def Fv:LF:=λ_ _ nid=>some (.map nid,some (.map []))
def Ob (es bytes:Nat)(zero:List o7)(len cap:OF):LF:=λls env nid=>
 jC (len ls env) λl=>jC (cap ls env) λc=>
  bi (Nat.ble l c) (bi (Nat.ble (Nat.mul bytes c) 281474976710656) (bi (Nat.blt c 9223372036854775808)
   (some (.slice nid 0 l c,some (.cells es c (T.rep zero c .e 0)))) none) none) none
def Jr (x:OF):LF:=λls env nid=>mO (x ls env) λs=>xw 1 (len' s) (bytesOf s) λb=>some (.sliceU nid 0 (len' s) 1,some b)
def L9 (nid es:Nat)(x:o7)(lo:Nat)(hi:Option Nat):LR:=
 lG x (bi (Nat.beq lo 0) (Option.rec (some (.nilSlice,none)) (λh=>bi (Nat.beq h 0) (some (.nilSlice,none)) none) hi) none)
  (λid off len cap=>Option.rec (known id off cap len) (λh=>known id off cap h) hi)
  (λid off len es'=>Option.rec (unk id off len es' len) (λh=>unk id off len es' h) hi)
where
 known (id off cap h:Nat):LR:=bi (Nat.ble lo h) (bi (Nat.ble h cap)
  (some (.slice id (bi (Nat.beq lo cap) off (Nat.add off (Nat.mul lo es))) (Nat.sub h lo) (Nat.sub cap lo),none)) none) none
 unk (id off len es' h:Nat):LR:=bi (Nat.ble lo h) (bi (Nat.ble h len) (bi (Nat.beq es es')
  (bi (Nat.blt lo len) (some (.sliceU id (Nat.add off (Nat.mul lo es)) (Nat.sub h lo) es,none))
   (bi (Nat.beq lo 0) (some (.sliceU id off (Nat.sub h lo) es,none)) (some (.sliceU nid 0 0 es,some (.tail id))))) none) none) none
def lSl (es:Nat)(x:OF)(lo hi:Option OF):LF:=λls env nid=>gM lo 0 ls env λl=>Option.rec (L9 nid es (x ls env) l none) (λh=>jC (h ls env) λh=>L9 nid es (x ls env) l (some h)) hi
def yj:UJ->LF
 | .alloc zero=>jv zero
 | .box x=>UL (G9 x)
 | .allocT ty zero=>zU ty zero
 | .boxT ty k x=>ade ty k (G9 x)
 | .buildSlice es len zero ps=>P7 es len zero (BO ps)
 | .mkMap=>Fv
 | .mkSlice es bytes zero l c=>Ob es bytes zero (G9 l) (G9 c)
 | .strBytes x=>Jr (G9 x)
 | .sl es x lo hi=>lSl es (G9 x) (lK lo) (lK hi)
structure VM where
 v:o7
 m:Mem
abbrev dU:=Option (List VM)
abbrev F8:=Fn->List o7->Mem->dU
abbrev EF:=F8->List o7->T o7->Mem->dU
def one (v:o7)(m:Mem):dU:=some [⟨v,m⟩]
def L8 (size:Nat)(a x:OF):EF:=λ_ ls env m=>iM (a ls env) λid off=>bi (Nat.beq (len' (x ls env).cells) size) (storeAt m id off (x ls env).cells λm'=>one .undef m') none
def vE (size:Nat)(a x b:OF):EF:=λcf ls env m=>iM (a ls env) λi _=>iM (b ls env) λj _=>bi (Nat.beq i j) none (L8 size a x cf ls env m)
def eY (es:List (o7×o7))(k v:o7):Nat->List (o7×o7):=
 List.rec (λ_=>[]) (λe es ih i=>Nat.rec ((k,v)::es) (λj _=>e::ih j) i) es
def oI (m:Mem)(id:Nat)(k:o7)(es:List (o7×o7)):dU:=match m.get id with
 | some (.mapU _)=>mO k λ_=>one .undef (m.set id (.mapU es))
 | _=>one .undef (m.set id (.map es))
def T9 (f:IG)(n:Nat)(mp k x:OF):EF:=λ_ ls env m=>vk (mp ls env) none λid=>bi (Nat.blt id m.lim) none
 (KT (m.get id) λes=>ob (V9 f n (k ls env) es) λr=>
  Option.rec (oI m id (k ls env) (aJ es [(k ls env,x ls env)])) (λp=>ob (nO p.1 es) λe=>
   bi (Nat.beq (len' e.1.cells) n) (oI m id (k ls env) (eY es (k ls env) (x ls env) p.1)) none) r)
def oJ (x:OF):EF:=λ_ ls env m=>vk (x ls env) (one (.ptr m.nx 0) (m.new (.iter none 0 [])))
 λid=>QW (m.get id) λes=>one (.ptr m.nx 0) (m.new (.iter (some id) (len' es) []))
def tF (n:Nat)(l:List Nat):Bool:=List.rec false (λx _ ih=>bi (Nat.beq x n) true ih) l
def nexts (m:Mem)(id mp since:Nat)(seen:List Nat)(es:List (o7×o7)):Nat->List VM:=
 List.rec (λ_=>[]) (λe _ ih i=>bi (tF i seen) (ih (Nat.succ i))
  (⟨.tuple [.bool true,e.1,e.2],m.set id (.iter (some mp) since (i::seen))⟩::ih (Nat.succ i))) es
def La (m:Mem)(l:List VM):List VM:=List.rec [⟨.tuple [.bool false],m⟩] (λx xs _=>x::xs) l
def Di (it:OF):EF:=λ_ ls env m=>iM (it ls env) λid off=>bi (Nat.beq off 0) (bi (Nat.blt id m.lim) none
 (Jq (m.get id) (one (.tuple [.bool false]) m) λmp since seen=>QW (m.get mp) λes=>
  bi (Nat.beq (len' es) since) (some (La m (nexts m id mp since seen es 0))) none)) none
def big (n bytes es:Nat):Bool:=bi (Nat.ble (Nat.mul (Nat.add (Nat.mul 2 n) 2048) bytes) 281474976710656) (bi (Nat.ble 1 es) (Nat.ble 1 bytes) false) false
def grown (m:Mem)(es n:Nat)(cells:List o7):dU:=xw es n cells λb=>one (.sliceU m.nx 0 n es) (m.new b)
def aeA (m:Mem)(es bytes n:Nat)(new:List o7):dU:=
 Nat.rec (one .nilSlice m) (λ_ _=>bi (big n bytes es) (grown m es n new) none) n
def Fw (m:Mem)(es bytes n:Nat)(new:List o7)(id off len cap:Nat):dU:=
 bi (Nat.ble (Nat.add len n) cap) (jX m id (Nat.add off (Nat.mul len es)) new λm'=>one (.slice id off (Nat.add len n) cap) m')
  (bi (big (Nat.add len n) bytes es) (ob (aC m id off (Nat.mul len es)) λold=>grown m es (Nat.add len n) (aJ old new)) none)
def Js (b:Option P9)(c:Nat->Nat->T (List o7)->Option β)(k:Nat->Option β):Option β:=match b with
 | some (.cells rs n rows)=>c rs n rows
 | some (.tail p)=>k p
 | _=>none
def QY (m:Mem)(es bytes n:Nat)(new:List o7)(id off len es':Nat):dU:=
 Nat.rec (one (.sliceU id off len es') m) (λ_ _=>bi (Nat.beq es es') (bi (big (Nat.add len n) bytes es) (bi (Nat.ble m.lim id) (bi (N7 new)
  (Js (m.get id)
   (λrs k rows=>
    bi (bi (Nat.beq rs es) (bi (Nat.beq off 0) (bi (Nat.ble len k) (bi (Nat.beq n 1) (bi (Nat.beq (len' new) es) (Nat.blt 0 len) false) false) false) false) false)
     (one (.sliceU m.nx 0 (Nat.succ len) es) ((m.set id .dead).new (.cells es (Nat.succ len) (rows.put len new))))
     (ob (U4 rs k rows (Nat.mul len es) off) λold=>grown (m.set id .dead) es (Nat.add len n) (aJ old new)))
   (λp=>P6 (m.get p) λ_ _ _=>bi (Nat.ble m.lim p) (bi (Nat.beq len 0) (grown (m.set p .dead) es n new) none) none)) none) none) none) none) n
def Dj (m:Mem)(es bytes n:Nat)(new:List o7)(s:o7):dU:=
 lG s (aeA m es bytes n new) (λa b c d=>Fw m es bytes n new a b c d) (λa b c d=>QY m es bytes n new a b c d)
def rG (es bytes:Nat)(s x:OF):EF:=λ_ ls env m=>ob (lenOf (x ls env)) λn=>ob (gN m es n (x ls env)) λnew=>Dj m es bytes n new (s ls env)
def adf (es:Nat)(zero:List o7)(bytes:Nat)(s x:OF):EF:=λ_ ls env m=>jC (x ls env) λn=>bi (Nat.ble (Nat.mul n bytes) 281474976710656) (bi (Nat.blt n 9223372036854775808) (Dj m es bytes n (U7 zero n) (s ls env)) none) none
def Xq (es:Nat)(d s:OF):EF:=λ_ ls env m=>ob (lenOf (s ls env)) λn=>lG (d ls env) (one (.int .i64 0) m) (λid off len _=>go m n id off len (s ls env)) (λid off len _=>go m n id off len (s ls env))
where
 go (m:Mem) (n id off len:Nat) (s:o7):dU:=ob (gN m es (Nat.min n len) s) λcells=>jX m id off cells λm'=>one (.int .i64 (.ofNat (Nat.min n len))) m'
def Xr (zero:List o7)(x:OF):EF:=λ_ ls env m=>
 lG (x ls env) (one (.tuple []) m) (λid off len _=>jX m id off (U7 zero len) λm'=>one (.tuple []) m')
  (λid off len _=>jX m id off (U7 zero len) λm'=>one (.tuple []) m')
def E9 (f:FuncId)(args:List OF):EF:=λcf ls env m=>cf (.func f) (evs args ls env) m
def Xt (cf:F8)(m:Mem)(args:List o7)(v:o7):dU:=NT v λfn a b=>match fn with
 | .func f=>cf (.func f) (aJ a (aJ args b)) m
 | .yield l=>cf (.yield l) (aJ a args) m
 | _=>none
def BQ (f:OF)(args:List OF):EF:=λcf ls env m=>Xt cf m (evs args ls env) (f ls env)
def Xu (v:o7)(m:Mem):dU:=match v with
 | .iface t x=>one (.nN (.iface t x)) m
 | _=>none
def Lb (b:Option P9)(k:List UInt8->Nat->Option β):Option β:=match b with
 | some (.siter s pos)=>k s pos
 | _=>none
def xA (x:OF):EF:=λ_ ls env m=>mO (x ls env) λs=>one (.ptr m.nx 0) (m.new (.siter s 0))
def BR (it:OF):EF:=λ_ ls env m=>iM (it ls env) λid off=>bi (Nat.beq off 0) (bi (Nat.blt id m.lim) none
 (Lb (m.get id) λs pos=>bi (Nat.blt pos (len' s))
  ((λ(r:Nat×Nat)=>one (.tuple [.bool true,.int .i64 (.ofNat pos),.int .i32 (.ofNat r.1)]) (m.set id (.siter s (Nat.add pos r.2)))) (Utf8.decode ⟨s.toArray⟩ pos))
  (one (.tuple [.bool false]) m))) none
def yu (ty:Nat)(s x:OF):EF:=λcf ls env m=>match s ls env with
 | .nilSlice=>mO (x ls env) λt=>List.rec (one .nilSlice m) (λ_ _ _=>bi (big (len' t) 1 1) (one (.sliceU m.nx 0 (len' t) 1) (m.new (.buf ty t))) none) t
 | .sliceU id off len es=>match m.get id with
  | some (.buf ty' s0)=>mO (x ls env) λt=>bi (Nat.beq ty ty') (bi (Nat.beq off 0) (bi (Nat.beq es 1) (bi (Nat.beq len (len' s0)) (bi (Nat.ble m.lim id) (List.rec (one (.sliceU id off len es) m) (λ_ _ _=>bi (big (Nat.add len (len' t)) 1 1) (one (.sliceU m.nx 0 (Nat.add len (len' t)) 1) ((m.set id .dead).new (.buf ty (aJ s0 t)))) none) t) none) none) none) none) none
  | _=>rG 1 1 s x cf ls env m
 | _=>rG 1 1 s x cf ls env m
def aaJ (v:o7)(k:Nat->Option β):Option β:=match v with
 | .int .i64 (.ofNat n)=>k n
 | _=>none
def Tk (ty:Nat)(p n:OF):EF:=λ_ ls env m=>aaJ (n ls env) λk=>match p ls env with
 | .nilPtr=>bi (Nat.beq k 0) (one (.str []) m) none
 | .ptr id off=>bi (Nat.beq off 0) (bi (Nat.ble m.lim id) (match m.get id with
  | some (.buf ty' s)=>bi (Nat.beq ty ty') (bi (Nat.beq k (len' s)) (bi (Nat.ble k 9223372036854775807) (one (.str s) (m.set id .dead)) none) none) none
  | _=>none) none) none
 | _=>none
def tH (x:OF):EF:=λ_ ls env m=>Xu (x ls env) m
def Xv:EF:=λ_ _ _ _=>none
def om:WT->EF
 | .store size a x=>L8 size (G9 a) (G9 x)
 | .storeAp size a x b=>vE size (G9 a) (G9 x) (G9 b)
 | .mapSet kk m k x=>T9 (nA kk) (BP kk) (G9 m) (G9 k) (G9 x)
 | .range x=>oJ (G9 x)
 | .next it=>Di (G9 it)
 | .app es zeros zero bytes s x=>match zeros with
  | true=>adf es zero bytes (G9 s) (G9 x)
  | false=>rG es bytes (G9 s) (G9 x)
 | .copy es d s=>Xq es (G9 d) (G9 s)
 | .clear zero x=>Xr zero (G9 x)
 | .call f args=>E9 f (gY args)
 | .callv f args=>BQ (G9 f) (gY args)
 | .panic x=>tH (G9 x)
 | .defer _ _=>Xv
 | .recover=>Xv
 | .bad=>Xv
 | .rangeS x=>xA (G9 x)
 | .nextS it=>BR (G9 it)
 | .appB ty s x=>yu ty (G9 s) (G9 x)
 | .ustr ty p n=>Tk ty (G9 p) (G9 n)
def Fx (f:α->Option (List β))(l:List α):Option (List β):=
 List.rec (some []) (λa _ ih=>ob (f a) λx=>ob ih λy=>some (x++y)) l
def bnd (x:Option (List α))(f:α->Option (List β)):Option (List β):=
 Option.rec none (λl=>List.rec (some []) (λa t _=>List.rec (f a) (λ_ _ _=>Fx f l) t) l) x
structure EM where
 env:T o7
 m:Mem
 px:Option o7
 mks:List Mk
def dW (v:o7)(p:o7->β)(q:β):β:=match v with
 | .nN x=>p x
 | _=>q
abbrev RC:=F8->List o7->T o7->Mem->Option (List EM)
def u7:RC:=λ_ _ env m=>some [⟨env,m,none,[]⟩]
def K5 (f:PF)(d:o7->T o7->T o7)(k:RC):RC:=λcf ls env m=>Option.rec none (λv=>k cf (v::ls) (d v env) m) (f ls env)
def p9 (f:PF)(k:RC):RC:=λcf ls env m=>Option.rec none (λv=>k cf (v::ls) env m) (f ls env)
def rcR (f:RF)(d:o7->T o7->T o7)(k:RC):RC:=λcf ls env m=>Option.rec none (λv=>k cf (v::ls) (d v env) m) (f ls env m)
def I5 (f:RF)(k:RC):RC:=λcf ls env m=>Option.rec none (λv=>k cf (v::ls) env m) (f ls env m)
def dI (m:Mem)(b:Option P9):Mem:=Option.rec m (λb=>m.new b) b
def oK (f:LF)(d:o7->T o7->T o7)(k:RC):RC:=λcf ls env m=>ob (f ls env m.nx) λr=>k cf (r.1::ls) (d r.1 env) (dI m r.2)
def kZ (f:LF)(k:RC):RC:=λcf ls env m=>Option.rec none (λr=>k cf (r.1::ls) env (dI m r.2)) (f ls env m.nx)
def D9 (f:EF)(k:RC):RC:=λcf ls env m=>bnd (f cf ls env m) λr=>dW r.v (λx=>some [⟨env,r.m,some x,[]⟩]) (k cf (r.v::ls) env r.m)
def EA (f:EF)(d:o7->T o7->T o7)(k:RC):RC:=λcf ls env m=>bnd (f cf ls env m) λr=>dW r.v (λx=>some [⟨env,r.m,some x,[]⟩]) (k cf (r.v::ls) (d r.v env) r.m)
def Jt (f:OF)(args:List OF):RC:=λ_ ls env m=>NT (f ls env) λfn a b=>some [⟨env,m,none,[.d (.func fn a b) (evs args ls env)]⟩]
def qh (w:Bool)(v:o7):Bool:=match v with
 | .bool b=>Fj b w
 | _=>false
def gP (x:OF)(w:Bool)(f:PF):PF:=λls env=>bi (qh w (x ls env)) (f ls env) (some .undef)
def QZ (x:OF)(w:Bool)(f:RF):RF:=λls env m=>bi (qh w (x ls env)) (f ls env m) (some .undef)
def gLk (x:OF)(w:Bool)(f:LF):LF:=λls env i=>bi (qh w (x ls env)) (f ls env i) (some (.undef,none))
def gE (x:OF)(w:Bool)(f:EF):EF:=λcf ls env m=>bi (qh w (x ls env)) (f cf ls env m) (one .undef m)
def II (g:Option (Q8×Bool))(f:PF):PF:=match g with
 | none=>f
 | some (x,w)=>gP (G9 x) w f
def yM (g:Option (Q8×Bool))(f:RF):RF:=match g with
 | none=>f
 | some (x,w)=>QZ (G9 x) w f
def Eh (g:Option (Q8×Bool))(f:LF):LF:=match g with
 | none=>f
 | some (x,w)=>gLk (G9 x) w f
def Lc (g:Option (Q8×Bool))(f:EF):EF:=match g with
 | none=>f
 | some (x,w)=>gE (G9 x) w f
def WV (o:zP)(d:Option Nat)(g:Option (Q8×Bool))(k:RC):RC:=match o with
 | .p o=>match d with
  | none=>p9 (II g (oh o)) k
  | some j=>K5 (II g (oh o)) (dS (some j)) k
 | .r o=>match d with
  | none=>I5 (yM g (tC o)) k
  | some j=>rcR (yM g (tC o)) (dS (some j)) k
 | .a o=>match d with
  | none=>kZ (Eh g (yj o)) k
  | some j=>oK (Eh g (yj o)) (dS (some j)) k
 | .e o=>match d with
  | none=>D9 (Lc g (om o)) k
  | some j=>EA (Lc g (om o)) (dS (some j)) k
def qx (i:Inst):Option (Q8×List Q8):=match i.op,i.guard,i.dst with
 | .e (.defer f as),none,none=>some (f,as)
 | _,_,_=>none
def Fy (i:Inst):RC:=match qx i with
 | some p=>Jt (G9 p.1) (gY p.2)
 | none=>WV i.op i.dst i.guard u7
def cZ:List Inst->RC
 | []=>u7
 | [i]=>Fy i
 | i::j::l=>WV i.op i.dst i.guard (cZ (j::l))
def lg (f:Q8->Q8):WS->WS
 | .mov x=>.mov (f x)
 | .pick a b c=>.pick (f a) (f b) (f c)
 | .build z ps=>.build z (ps.map λp=>(p.1,p.2.1,f p.2.2))
 | .nilCheck x=>.nilCheck (f x)
 | .ib o x y=>.ib o (f x) (f y)
 | .eq n k x y=>.eq n k (f x) (f y)
 | .not x=>.not (f x)
 | .neg x=>.neg (f x)
 | .inv x=>.inv (f x)
 | .conv k x=>.conv k (f x)
 | .mkIface t x=>.mkIface t (f x)
 | .mkFunc g a b=>.mkFunc g (a.map f) (b.map f)
 | .slStr x a b=>.slStr (f x) (a.map f) (b.map f)
 | .slArr e n x a b=>.slArr e n (f x) (a.map f) (b.map f)
 | .fAddr o x=>.fAddr o (f x)
 | .fld o s x=>.fld o s (f x)
 | .iAddr e x i=>.iAddr e (f x) (f i)
 | .iAddrArr e n x i=>.iAddrArr e n (f x) (f i)
 | .iArr e n s x i=>.iArr e n s (f x) (f i)
 | .iStr x i=>.iStr (f x) (f i)
 | .ext x i=>.ext (f x) i
 | .len x=>.len (f x)
 | .fE x=>.fE (f x)
 | .cap x=>.cap (f x)
 | .mm m x xs=>.mm m (f x) (xs.map f)
 | .assert t z ok x=>.assert t z ok (f x)
def BS (f:Q8->Q8):QV->QV
 | .load s a=>.load s (f a)
 | .look k z o m x=>.look k z o (f m) (f x)
 | .lenM x=>.lenM (f x)
 | .bytesStr x=>.bytesStr (f x)
 | .entry x=>.entry (f x)
 | .slData x=>.slData (f x)
 | .toUns x=>.toUns (f x)
 | .fromUns l x=>.fromUns l (f x)
def Ld (f:Q8->Q8):UJ->UJ
 | .alloc z=>.alloc z
 | .box x=>.box (f x)
 | .allocT t z=>.allocT t z
 | .boxT t k x=>.boxT t k (f x)
 | .buildSlice e l z ps=>.buildSlice e l z (ps.map λp=>(p.1,p.2.1,f p.2.2))
 | .mkMap=>.mkMap
 | .mkSlice e b z l c=>.mkSlice e b z (f l) (f c)
 | .strBytes x=>.strBytes (f x)
 | .sl e x a b=>.sl e (f x) (a.map f) (b.map f)
def uR (f:Q8->Q8):WT->WT
 | .store s a x=>.store s (f a) (f x)
 | .storeAp s a x b=>.storeAp s (f a) (f x) (f b)
 | .mapSet k a b c=>.mapSet k (f a) (f b) (f c)
 | .range x=>.range (f x)
 | .next x=>.next (f x)
 | .app e z zs b s x=>.app e z zs b (f s) (f x)
 | .copy e d s=>.copy e (f d) (f s)
 | .clear z x=>.clear z (f x)
 | .call g a=>.call g (a.map f)
 | .callv g a=>.callv (f g) (a.map f)
 | .defer g a=>.defer (f g) (a.map f)
 | .panic x=>.panic (f x)
 | .recover=>.recover
 | .bad=>.bad
 | .rangeS x=>.rangeS (f x)
 | .nextS x=>.nextS (f x)
 | .appB t s x=>.appB t (f s) (f x)
 | .ustr t p n=>.ustr t (f p) (f n)
def mapA (f:Q8->Q8):zP->zP
 | .p o=>.p (lg f o)
 | .r o=>.r (BS f o)
 | .a o=>.a (Ld f o)
 | .e o=>.e (uR f o)
def bump:Q8->Q8
 | .loc k=>.loc (k+1)
 | x=>x
def rn (r:List Q8):Q8->Q8
 | .loc k=>r.getD k (.con .undef)
 | x=>x
def yN (j:Nat):List Inst->Bool
 | []=>false
 | i::l=>i.dst==some j||yN j l
def nC (r:List Q8):List Inst->List Inst
 | []=>[]
 | i::l=>
  let keep:=⟨mapA (rn r) i.op,i.dst,i.guard.map λp=>(rn r p.1,p.2)⟩::nC (.loc 0::r.map bump) l
  match i.op,i.dst,i.guard with
  | .p (.mov x),none,none=>match rn r x with
   | .slot j=>bif yN j l then keep else nC (.slot j::r) l
   | y=>nC (y::r) l
  | _,_,_=>keep
def yc (f:o7->o7->Bool)(a:List o7):List o7->Bool:=
 List.rec (λb=>List.rec true (λ_ _ _=>false) b) (λx _ ih b=>List.rec false (λy ys _=>bi (f x y) (ih ys) false) b) a
def dh (n:Nat):o7->o7->Bool:=Nat.rec (λ_ _=>false) (λ_ ih x y=>match x,y with
  | .bool a,.bool b=>Fj a b
  | .int k a,.int k' b=>bi (kEq k k') (bJ a b) false
  | .str a,.str b=>strEq a b
  | .nilPtr,.nilPtr=>true
  | .ptr a b,.ptr c d=>bi (Nat.beq a c) (Nat.beq b d) false
  | .nilSlice,.nilSlice=>true
  | .slice a b c d,.slice a' b' c' d'=>bi (Nat.beq a a') (bi (Nat.beq b b') (bi (Nat.beq c c') (Nat.beq d d') false) false) false
  | .sliceU a b c d,.sliceU a' b' c' d'=>bi (Nat.beq a a') (bi (Nat.beq b b') (bi (Nat.beq c c') (Nat.beq d d') false) false) false
  | .nilMap,.nilMap=>true
  | .map a,.map b=>Nat.beq a b
  | .nilFunc,.nilFunc=>true
  | .func (.func f) a b,.func (.func g) c d=>bi (Nat.beq f g) (bi (yc ih a c) (yc ih b d) false) false
  | .func (.yield f) a b,.func (.yield g) c d=>bi (Nat.beq f g) (bi (yc ih a c) (yc ih b d) false) false
  | .nilIface,.nilIface=>true
  | .iface t a,.iface u b=>bi (Nat.beq t u) (ih a b) false
  | .agg a,.agg b=>yc ih a b
  | .tuple a,.tuple b=>yc ih a b
  | .undef,.undef=>true
  | _,_=>false) n
abbrev DC:=F8->Nat->List o7->T o7->Mem->List Mem->Option (List EM)
def stable (f:RF)(ls:List o7)(env:T o7)(v:o7)(n:Nat):List Mem->Bool:=
 Nat.rec (λ_=>true) (λ_ ih gs=>List.rec false (λm ms _=>bi (Option.rec false (λu=>dh 100 u v) (f ls env m)) (ih ms) false) gs) n
def tl (l:List Mem):List Mem:=List.rec [] (λ_ t _=>t) l
def rH:DC:=λ_ _ _ env m _=>some [⟨env,m,none,[]⟩]
def Y0 (f:PF)(d:o7->T o7->T o7)(k:DC):DC:=λcf b ls env m gs=>ob (f ls env) λv=>k cf b (v::ls) (d v env) m gs
def hd (m:Mem)(gs:List Mem):Mem:=List.rec m (λg _ _=>g) gs
def isVoid (b:Option P9):Bool:=match b with
 | some .void=>true
 | _=>false
def mq (i:Nat)(gs:List Mem):Bool:=List.rec true (λg _ ih=>bi (isVoid (g.get i)) ih false) gs
def Ra (x:Option (List α))(f:α->Option β):Option β:=
 Option.rec none (λl=>List.rec none (λa t _=>List.rec (f a) (λ_ _ _=>none) t) l) x
def uZ (f:RF)(c:Nat)(d:o7->T o7->T o7)(k:DC):DC:=λcf b ls env m gs=>ob (f ls env (hd m gs)) λv=>bi (stable f ls env v c (tl gs)) (k cf b (v::ls) (d v env) m gs) none
def isCells (b:Option P9):Bool:=match b with
 | some (.cells _ _ _)=>true
 | _=>false
def ahW (x:OF)(c:Nat)(d:o7->T o7->T o7)(k:DC):DC:=λcf b ls env m gs=>match x ls env with
 | .slice id _ _ _=>bi (isVoid ((hd m gs).get id)) (bi (isCells (m.get id)) (ob (iy x ls env m) λv=>k cf b (v::ls) (d v env) m gs) none) (uZ (iy x) c d k cf b ls env m gs)
 | _=>uZ (iy x) c d k cf b ls env m gs
def aeB (c:Nat)(o:QV)(d:Option Nat)(g:Option (Q8×Bool))(k:DC):DC:=match o,g with
 | .bytesStr y,none=>ahW (G9 y) c (dS d) k
 | o,g=>uZ (yM g (tC o)) c (dS d) k
def Le (m:Mem)(i:Nat)(b:Option P9):Mem:=Option.rec m (λb=>m.set i b) b
def dcL (f:LF)(c:Nat)(d:o7->T o7->T o7)(k:DC):DC:=λcf b ls env m gs=>ob (f ls env (Nat.add b c)) λr=>bi (isVoid (m.get (Nat.add b c))) (bi (mq (Nat.add b c) gs) (k cf b (r.1::ls) (d r.1 env) (Le m (Nat.add b c) r.2) gs) none) none
abbrev GF:=Nat->List o7->T o7->Mem->List Mem->List (T o7)->Option (List (T o7))
def lH:GF:=λ_ _ _ _ _ es=>some es
def UM:GF:=λ_ _ _ _ _ _=>none
def rA (d:o7->T o7->T o7)(k:GF):GF:=λb ls env m gs es=>k b (.undef::ls) (d .undef env) m gs es
def QT (d:o7->T o7->T o7)(k:GF):GF:=λb ls env m gs es=>k b (.undef::ls) (d .undef env) m (m::gs) es
def ghA (f:LF)(c:Nat)(d:o7->T o7->T o7)(k:GF):GF:=λb ls env m gs es=>Option.rec (k b (.undef::ls) (d .undef env) m gs es) (λ_=>none) (f ls env (Nat.add b c))
def Xw (f:T o7->T o7)(l:List (T o7)):List (T o7):=List.rec [] (λx _ ih=>f x::ih) l
def WW (w:Bool)(f:T o7->T o7)(es:List (T o7)):List (T o7):=bi w (aJ es (Xw f es)) es
def Dk:o7->Bool
 | .int _ _ | .bool _ | .str _=>true
 | _=>false
def UN (w:Bool)(v:o7):Bool:=bi w (Dk v) true
def gB (f:PF)(w:Bool)(d:o7->T o7->T o7)(k:GF):GF:=λb ls env m gs es=>ob (f ls env) λv=>bi (UN w v) (k b (v::ls) (d v env) m gs (WW w (d v) es)) none
def Lf (f:RF)(c:Nat)(w:Bool)(d:o7->T o7->T o7)(k:GF):GF:=λb ls env m gs es=>ob (f ls env (hd m gs)) λv=>bi (stable f ls env v c (tl gs)) (bi (UN w v) (k b (v::ls) (d v env) m gs (WW w (d v) es)) none) none
def ghL (f:LF)(c:Nat)(k:GF):GF:=λb ls env m gs es=>ob (f ls env (Nat.add b c)) λr=>bi (isVoid (m.get (Nat.add b c))) (bi (mq (Nat.add b c) gs) (k b (r.1::ls) env (Le m (Nat.add b c) r.2) gs es) none) none
def Xx (ds:List Bool):Q8->Bool
 | .loc k=>ds.getD k false
 | _=>false
def vF (ds:List Bool)(i:Inst):Bool:=(Fg i.op).any (Xx ds)||(match i.guard with
 | some p=>Xx ds p.1
 | none=>false)
def vG:List (Nat×Inst)->List Bool->GF
 | [],_=>lH
 | x::l,ds=>match x.2.op with
  | .e _=>QT (dS x.2.dst) (vG l (true::ds))
  | .a o=>bif vF ds x.2 then ghA (Eh x.2.guard (yj o)) x.1 (dS x.2.dst) (vG l (true::ds)) else (match x.2.dst with
   | none=>ghL (Eh x.2.guard (yj o)) x.1 (vG l (false::ds))
   | some _=>UM)
  | .r o=>bif vF ds x.2 then rA (dS x.2.dst) (vG l (true::ds)) else Lf (yM x.2.guard (tC o)) x.1 x.2.dst.isSome (dS x.2.dst) (vG l (false::ds))
  | .p o=>bif vF ds x.2 then rA (dS x.2.dst) (vG l (true::ds)) else gB (II x.2.guard (oh o)) x.2.dst.isSome (dS x.2.dst) (vG l (false::ds))
def IJ:List (Nat×Inst)->List Bool->Bool
 | [],_=>true
 | x::l,ds=>match x.2.op with
  | .e _=>IJ l (true::ds)
  | .a _=>bif vF ds x.2 then IJ l (true::ds) else (x.2.dst.isNone&&IJ l (false::ds))
  | .r _=>IJ l (vF ds x.2::ds)
  | .p _=>IJ l (vF ds x.2::ds)
def aaK (o:zP)(l:List (Nat×Inst)):GF:=match o with
 | .e (.call _ _)=>bif IJ l [true] then vG l [true] else UM
 | .e (.callv _ _)=>bif IJ l [true] then vG l [true] else UM
 | .e (.panic _)=>bif IJ l [true] then vG l [true] else UM
 | _=>UM
def vH (m:Mem)(x:o7)(es:List (T o7)):List EM:=List.rec [] (λv _ ih=>⟨v,m,some x,[]⟩::ih) es
def EC (f:EF)(gh:GF)(d:o7->T o7->T o7)(k:DC):DC:=λcf b ls env m gs=>Ra (f cf ls env m) λr=>dW r.v (λx=>ob (gh b (.undef::ls) (d .undef env) m (m::gs) [env]) λes=>some (vH r.m x es)) (k cf b (r.v::ls) (d r.v env) r.m (r.m::gs))
def aeC (c:Nat)(o:zP)(d:Option Nat)(g:Option (Q8×Bool))(gh:GF)(k:DC):DC:=match o with
 | .p o=>Y0 (II g (oh o)) (dS d) k
 | .r o=>aeB c o d g k
 | .a o=>dcL (Eh g (yj o)) c (dS d) k
 | .e o=>EC (Lc g (om o)) gh (dS d) k
def vI:List (Nat×Inst)->DC
 | []=>rH
 | (c,i)::l=>aeC c i.op i.dst i.guard (aaK i.op l) (vI l)
def reserve (n:Nat)(m:Mem):Mem:=Nat.rec (λm=>m) (λ_ ih m=>ih (m.new .void)) n m
structure Out where
 x:dG
 env:T o7
 m:Mem
 marks:List Mk
 pv:Option o7
abbrev SC:=F8->Nat->Option Nat->T o7->Mem->List Mk->Option (List Out)
def oL (x:dG)(env:T o7)(m:Mem)(k:List Mk):Option (List Out):=some [⟨x,env,m,k,none⟩]
def F9:SC:=λ_ _ _ env m k=>oL .normal env m k
def iQ (k:List Mk)(e:EM):Option (List Out):=
 Option.rec (oL .normal e.env e.m (aJ e.mks k)) (λx=>some [⟨.ret,e.env,e.m,aJ e.mks k,some x⟩]) e.px
def p8 (r:RC):SC:=λcf _ _ env m k=>bnd (r cf [] env m) (iQ k)
def Fz (r:RC):SC:=λcf _ ir env m k=>Option.rec (bnd (r cf [] env m) (iQ k)) (λ_=>none) ir
def jP:List Inst->Bool
 | []=>false
 | i::l=>(qx i).isSome||jP l
def iC (n:Nat)(r:DC):SC:=λcf _ _ env m k=>bnd (r cf m.nx [] env (reserve n m) [reserve n m]) (iQ k)
def o8 (a b:SC):SC:=λcf fuel ir env m k=>bnd (a cf fuel ir env m k) λo=>dG.rec (b cf fuel ir o.env o.m o.marks) (λ_=>some [o]) (some [o]) o.x
def C9 (c:OF)(a b:SC):SC:=λcf fuel ir env m k=>oH (c [] env) λt=>bi t (a cf fuel ir env m k) (b cf fuel ir env m k)
def H8 (id:Nat)(a:SC):SC:=λcf fuel ir env m k=>bnd (a cf fuel ir env m k) λo=>dG.rec (some [o]) (λid'=>bi (Nat.beq id id') (oL .normal o.env o.m o.marks) (some [o])) (some [o]) o.x
def K8 (body:T o7->Mem->List Mk->Option (List Out))(n:Nat):T o7->Mem->List Mk->Option (List Out):=
 Nat.rec (λ_ _ _=>none) (λ_ ih env m k=>bnd (body env m k) λo=>dG.rec (ih o.env o.m o.marks) (λ_=>some [o]) (some [o]) o.x) n
def ak (a:SC):SC:=λcf fuel ir env m k=>K8 (λenv m k=>a cf fuel ir env m k) fuel env m k
def oM (id:Nat):SC:=λ_ _ _ env m k=>oL (.exit id) env m k
def G7:SC:=λ_ _ _ env m k=>oL .ret env m k
def qy (b:Option P9)(f:LoopState->Option dG->T o7->List (Option Nat)->V8->V8->Option β):Option β:=match b with
 | some (.loop st pend env params assign body)=>f st pend env params assign body
 | _=>none
def Xy (cf:F8)(m:Mem)(args:List o7)(v:o7):dU:=NT v λfn a b=>match fn with
 | .func f=>cf (.func f) (aJ a (aJ args b)) m
 | _=>none
def Rb (cf:F8)(f:o7)(params:List (Option Nat))(assign body:V8)(env:T o7)(m:Mem)(k:List Mk):Option (List Out):=
 bnd (Xy cf (m.new (.loop .ready none env params assign body)) [.func (.yield m.nx) [] []] f) λr=>dW r.v (λ_=>none) <|
  qy (r.m.get m.nx) λst pend _ _ _ _=>match st with
   | .busy=>none
   | _=>match pend with
    | none=>oL .normal env (r.m.set m.nx .dead) k
    | some x=>oL x env (r.m.set m.nx .dead) k
def Tm (f:OF)(params:List (Option Nat))(assign body:V8):SC:=λcf _ ir env m k=>
 Option.rec (Rb cf (f [] env) params assign body env (m.new .deferred) (.c m.nx::k))
  (λl=>qy (m.get l) λ_ _ _ _ _ _=>Rb cf (f [] env) params assign body env m k) ir
def xB:V8->SC
 | .skip=>F9
 | .reg ops=>bif jP ops then Fz (cZ ops) else p8 (cZ (nC [] ops))
 | .dreg n ops=>iC n (vI ops)
 | .dreg2 n ops t=>o8 (iC n (vI ops)) (p8 (cZ t))
 | .seq a b=>o8 (xB a) (xB b)
 | .cond c a b=>C9 (G9 c) (xB a) (xB b)
 | .block id a=>H8 id (xB a)
 | .loop a=>ak (xB a)
 | .exit id=>oM id
 | .ret=>G7
 | .rangeFunc f params assign body=>Tm (G9 f) params assign body
def dY (js:List (Option Nat)):List o7->T o7->Option (T o7):=
 List.rec (λvs env=>List.rec (some env) (λ_ _ _=>none) vs) (λj _ ih vs env=>List.rec none (λv vs _=>ih vs (dS j v env)) vs) js
def results (rs:List qg)(env:T o7)(m:Mem):Option (List o7):=
 List.rec (some []) (λr _ ih=>ob (match r with
  | .tmp j=>T.get env j
  | .cell j size=>ob (T.get env j) λp=>iM p λid off=>P6 (m.get id) λrs n rows=>match size with
   | none=>cell1 rs n rows off
   | some k=>ob (gK rs n rows off k) λl=>some (.agg l)) λv=>ob ih λl=>some (v::l)) rs
def result (l:List o7):o7:=List.rec (.tuple l) (λv t _=>List.rec v (λ_ _ _=>.tuple l) t) l
def aaL (b:Option P9)(k:Option β):Option β:=match b with
 | some .deferred=>k
 | _=>none
abbrev kH:=FuncId->List o7->Option o7->Mem->Option (List (Mem×Option o7))
def Xz (dcf:kH)(v:o7)(args:List o7)(md:Option o7)(m:Mem):Option (List (Mem×Option o7)):=NT v λfn a b=>match fn with
 | .func f=>dcf f (aJ a (aJ args b)) md m
 | _=>none
def FB (dcf:kH)(fin:Option o7->Mem->dU):List Mk->Option o7->Mem->dU:=
 List.rec (λmd m=>fin md m) (λx _ ih md m=>match x with
  | .c id=>aaL (m.get id) (ih md (m.set id .dead))
  | .d v args=>bnd (Xz dcf v args md m) λr=>ih r.2 r.1)
def yO (rs:List qg)(env:T o7)(md:Option o7)(m:Mem):dU:=
 Option.rec (ob (results rs env m) λl=>one (result l) m) (λx=>one (.nN x) m) md
def leave (dcf:kH)(rs:List qg)(o:Out):dU:=dG.rec (FB dcf (yO rs o.env) o.marks none o.m) (λ_=>none) (FB dcf (yO rs o.env) o.marks o.pv o.m) o.x
def roundEnd (l:Nat)(o:Out):dU:=match o.marks,o.pv with
 | _ :: _,_=>none
 | _,some _=>none
 | [],none=>qy (o.m.get l) λst pend env params assign body=>match st,pend with
  | .busy,none=>match o.x with
   | .normal=>one (.bool true) (o.m.set l (.loop .ready none env params assign body))
   | x=>one (.bool false) (o.m.set l (.loop .done (some x) env params assign body))
  | _,_=>none
mutual
def IK (lo:Nat):o7->List Nat
 | .ptr i _ | .slice i _ _ _ | .sliceU i _ _ _ | .map i=>bi (Nat.ble lo i) [i] []
 | .func _ a b=>rJ lo a++rJ lo b
 | .iface _ v=>IK lo v
 | .agg l=>rJ lo l
 | .tuple l=>rJ lo l
 | _=>[]
def rJ (lo:Nat):List o7->List Nat
 | []=>[]
 | v::l=>IK lo v++rJ lo l
end
inductive NB where
 | cells (rs:Nat) (rows:List (List o7))
 | map (es:List (o7×o7))
 | tail (p:Nat)
 | dead
 deriving Inhabited
def yP (b:P9):Option NB:=match b with
 | .cells rs n rows=>ob (rows.slice n 0) λl=>some (.cells rs l)
 | .map es=>some (.map es)
 | .tail p=>some (.tail p)
 | .dead=>some .dead
 | _=>none
def Oc (lo:Nat):List (List o7)->List Nat
 | []=>[]
 | l::ls=>rJ lo l++Oc lo ls
def XA (lo:Nat):List (o7×o7)->List Nat
 | []=>[]
 | e::es=>IK lo e.1++(IK lo e.2++XA lo es)
def Od (lo:Nat):NB->List Nat
 | .cells _ rows=>Oc lo rows
 | .map es=>XA lo es
 | .tail p=>bi (Nat.ble lo p) [p] []
 | .dead=>[]
def Ju (n:Nat)(l:List (Nat×NB)):Bool:=List.rec false (λx _ ih=>bi (Nat.beq x.1 n) true ih) l
def reach (m:Mem)(lo n:Nat):List Nat->List (Nat×NB)->Option (List (Nat×NB)):=
 Nat.rec (λ_ _=>none) (λ_ ih work seen=>List.rec (some seen.reverse) (λw ws _=>
  bi (Ju w seen) (ih ws seen) (ob (m.get w) λb=>ob (yP b) λnb=>ih (Od lo nb++ws) ((w,nb)::seen))) work) n
def placeOf (i:Nat)(l:List Nat):Nat->Option Nat:=List.rec (λ_=>none) (λx _ ih k=>bi (Nat.beq x i) (some k) (ih (Nat.succ k))) l
mutual
def fK (r:Nat->Option Nat):o7->Option o7
 | .ptr i o=>ob (r i) λj=>some (.ptr j o)
 | .slice i o l c=>ob (r i) λj=>some (.slice j o l c)
 | .sliceU i o l c=>ob (r i) λj=>some (.sliceU j o l c)
 | .map i=>ob (r i) λj=>some (.map j)
 | .func fn a b=>match fn with
  | .yield _=>none
  | fn=>ob (lq r a) λx=>ob (lq r b) λy=>some (.func fn x y)
 | .iface t v=>ob (fK r v) λx=>some (.iface t x)
 | .agg l=>ob (lq r l) λx=>some (.agg x)
 | .tuple l=>ob (lq r l) λx=>some (.tuple x)
 | .nN _=>none
 | v=>some v
def lq (r:Nat->Option Nat):List o7->Option (List o7)
 | []=>some []
 | v::l=>ob (fK r v) λx=>ob (lq r l) λy=>some (x::y)
end
def oN (r:Nat->Option Nat):List (List o7)->Option (List (List o7))
 | []=>some []
 | l::ls=>ob (lq r l) λx=>ob (oN r ls) λy=>some (x::y)
def Ei (r:Nat->Option Nat):List (o7×o7)->Option (List (o7×o7))
 | []=>some []
 | e::es=>ob (fK r e.1) λx=>ob (fK r e.2) λy=>ob (Ei r es) λz=>some ((x,y)::z)
def qj (r:Nat->Option Nat):NB->Option NB
 | .cells rs rows=>ob (oN r rows) λx=>some (.cells rs x)
 | .map es=>ob (Ei r es) λx=>some (.map x)
 | .tail p=>ob (r p) λq=>some (.tail q)
 | .dead=>some .dead
def uF (r:Nat->Option Nat):List NB->Option (List NB)
 | []=>some []
 | p::l=>ob (qj r p) λx=>ob (uF r l) λy=>some (x::y)
structure CO where
 ids:List Nat
 vs:List o7
 bs:List NB
def uS (lo:Nat)(ids:List Nat)(i:Nat):Option Nat:=bi (Nat.ble lo i) (placeOf i ids lo) (some i)
def iG (lo:Nat)(vs:List o7)(m:Mem):Option CO:=
 ob (reach m lo 100000 (rJ lo vs) []) λseen=>ob (lq (uS lo (seen.map (·.1))) vs) λxs=>ob (uF (uS lo (seen.map (·.1))) (seen.map (·.2))) λbs=>some ⟨seen.map (·.1),xs,bs⟩
def fC:NB->P9
 | .cells rs rows=>.cells rs (len' rows) (T.ofList rows)
 | .map es=>.map es
 | .tail p=>.tail p
 | .dead=>.dead
def layAll (bs:List NB):Mem->Mem:=List.rec (λm=>m) (λb _ ih m=>ih (m.new (fC b))) bs
def BU:List (List o7)->List (List o7)->Bool
 | [],[]=>true
 | a::x,b::y=>bi (yc (dh 100) a b) (BU x y) false
 | _,_=>false
def Jv:List (o7×o7)->List (o7×o7)->Bool
 | [],[]=>true
 | a::x,b::y=>bi (dh 100 a.1 b.1) (bi (dh 100 a.2 b.2) (Jv x y) false) false
 | _,_=>false
def XB:NB->NB->Bool
 | .cells r a,.cells s b=>bi (Nat.beq r s) (BU a b) false
 | .map a,.map b=>Jv a b
 | .tail p,.tail q=>Nat.beq p q
 | .dead,.dead=>true
 | _,_=>false
def lN:List NB->List NB->Bool
 | [],[]=>true
 | a::x,b::y=>bi (XB a b) (lN x y) false
 | _,_=>false
structure BX where
 v:o7
 bs:List NB
def yw (lo:Nat)(r:VM):Option BX:=ob (iG lo [r.v] r.m) λc=>List.rec none (λv _ _=>some ⟨v,c.bs⟩) c.vs
def Lg (lo:Nat)(l:List VM):Option BX:=
 List.rec none (λr rs ih=>ob (yw lo r) λa=>List.rec (some a) (λ_ _ _=>ob ih λb=>bi (dh 100 a.v b.v) (bi (lN a.bs b.bs) (some a) none) none) rs) l
structure aW where
 pure:Bool
 args:List (Option Nat)
 nslots:Nat
 results:List qg
 code:SC
 rcode:Option V8
structure Known where
 fns:FuncId->Option aW
 base:Mem
 sum:FuncId->List o7->List NB->Option BX
 eff:FuncId->List o7->Mem->dU
def mU (cf:F8)(dcf:kH)(fuel:Nat)(f:aW)(args:List o7)(m:Mem):dU:=
 ob (dY f.args args (T.rep .undef f.nslots .e 0)) λenv=>bnd (f.code cf fuel none env m []) (leave dcf f.results)
structure Oe where
 o:Out
 md:Option o7
def isRec (i:Inst):Bool:=match i.op,i.guard with
 | .e .recover,none=>true
 | _,_=>false
def FC:List Inst->Bool
 | []=>false
 | i::l=>isRec i||FC l
def vJ:List Inst->F8->List o7->T o7->Mem->Option o7->Option (List (EM×Option o7))
 | [],_,_,env,m,md=>some [(⟨env,m,none,[]⟩,md)]
 | i::l,cf,ls,env,m,md=>match isRec i with
  | true=>match md with
   | some x=>vJ l cf (x::ls) (dS i.dst x env) m none
   | none=>vJ l cf (.nilIface::ls) (dS i.dst .nilIface env) m none
  | false=>match i.op with
   | .p o=>ob (II i.guard (oh o) ls env) λv=>vJ l cf (v::ls) (dS i.dst v env) m md
   | .r o=>ob (yM i.guard (tC o) ls env m) λv=>vJ l cf (v::ls) (dS i.dst v env) m md
   | _=>none
def yx:V8->F8->Nat->T o7->Mem->Option o7->Option (List Oe)
 | .seq a b,cf,fuel,env,m,md=>bnd (yx a cf fuel env m md) λr=>match r.o.x with
  | .normal=>match r.o.marks with
   | []=>yx b cf fuel r.o.env r.o.m r.md
   | _=>none
  | _=>some [r]
 | .cond c a b,cf,fuel,env,m,md=>oH (G9 c [] env) λt=>bi t (yx a cf fuel env m md) (yx b cf fuel env m md)
 | .reg ops,cf,fuel,env,m,md=>match FC ops with
  | true=>bnd (vJ ops cf [] env m md) λr=>some [⟨⟨.normal,r.1.env,r.1.m,[],none⟩,r.2⟩]
  | false=>bnd (xB (.reg ops) cf fuel none env m []) λo=>some [⟨o,md⟩]
 | c,cf,fuel,env,m,md=>bnd (xB c cf fuel none env m []) λo=>some [⟨o,md⟩]
def Rc (rs:List qg)(r:Oe):Option (List (Mem×Option o7)):=match r.o.x,r.o.marks,r.o.pv with
 | .exit _,_,_=>none
 | _,[],none=>ob (results rs r.o.env r.o.m) λ_=>some [(r.o.m,r.md)]
 | _,_,_=>none
def aaM (cf:F8)(fuel:Nat)(f:aW)(args:List o7)(md:Option o7)(m:Mem):Option (List (Mem×Option o7)):=
 ob f.rcode λc=>ob (dY f.args args (T.rep .undef f.nslots .e 0)) λenv=>bnd (yx c cf fuel env m md) (Rc f.results)
def Mem.shut (m:Mem):Mem:=⟨m.t,m.nx,m.nx⟩
def qz (K:Known)(cf:F8)(fuel:Nat):kH:=λf args md m=>ob (K.fns f) λsf=>aaM cf fuel sf args md m
def Dl (K:Known)(cf:F8)(fuel:Nat)(f:FuncId)(sf:aW)(args:List o7)(bs:List NB):Option BX:=
 Option.rec (ob (mU cf (qz K cf fuel) fuel sf args (layAll bs K.base).shut) λl=>Lg (layAll bs K.base).nx l) (λa=>some a) (K.sum f args bs)
def iD (g:Nat)(ids:List Nat)(next i:Nat):Option Nat:=
 bi (Nat.blt i g) (some i) (bi (Nat.blt (Nat.sub i g) (len' ids)) (nO (Nat.sub i g) ids) (some (Nat.add next (Nat.sub (Nat.sub i g) (len' ids)))))
def jD (K:Known)(cf:F8)(fuel:Nat)(f:FuncId)(sf:aW)(args:List o7)(m:Mem):dU:=
 ob (iG K.base.nx args m) λc=>ob (Dl K cf fuel f sf c.vs c.bs) λa=>ob (fK (iD K.base.nx c.ids m.nx) a.v) λv=>ob (uF (iD K.base.nx c.ids m.nx) a.bs) λbs=>one v (layAll bs m)
def Lh (cf:F8)(fuel l:Nat)(args:List o7)(m:Mem):dU:=
 bi (Nat.blt l m.lim) none (qy (m.get l) λst pend env params assign body=>match st,pend with
  | .ready,none=>ob (dY params args env) λenv1=>bnd (xB assign cf fuel (some l) env1 m []) λo=>match o.x,o.marks with
   | .normal,[]=>qy (o.m.get l) λst2 pend2 env2 params2 assign2 body2=>match st2,pend2 with
    | .ready,none=>bnd (xB body cf fuel (some l) o.env (o.m.set l (.loop .busy none env2 params2 assign2 body2)) []) (roundEnd l)
    | _,_=>none
   | _,_=>none
  | _,_=>none)
def r9 (K:Known)(fuel n:Nat):F8:=
 Nat.rec (λ_ _ _=>none) (λ_ ih fn args m=>match fn with
  | .func f=>Option.rec (ob (K.fns f) λsf=>bi sf.pure (jD K ih fuel f sf args m) (mU ih (qz K ih fuel) fuel sf args m)) (λl=>some l) (K.eff f args m)
  | .yield l=>Lh ih fuel l args m
  | _=>none) n
mutual
def ofValue:Value->Option o7
 | .bool b=>some (.bool b)
 | .int k n=>some (.int k n)
 | .string s=>some (.str s.data.toList)
 | .pointer none=>some .nilPtr
 | .slice none 0 0=>some .nilSlice
 | .map none=>some .nilMap
 | .func (.func f) ⟨[]⟩ ⟨[]⟩=>some (.func (.func f) [] [])
 | .nilFunc=>some .nilFunc
 | .nilIface=>some .nilIface
 | .agg ⟨l⟩=>match ofValues l with
  | some x=>some (.agg x)
  | none=>none
 | .tuple ⟨[]⟩=>some (.tuple [])
 | _=>none
def ofValues:List Value->Option (List o7)
 | []=>some []
 | v::l=>match ofValue v,ofValues l with
  | some x,some y=>some (x::y)
  | _,_=>none
end
section
variable (P:Program)
def aY (t:TypeId):Option Nat:=(P.info? t).map (·.size)
def gZ (t:TypeId):Option Nat:=(P.info? t).map (·.bytes)
def yg (t:TypeId):Option Bool:=match P.underlying t with
 | some (.struct _) | some (.array _ _)=>some true
 | some _=>some false
 | none=>none
def partT (t:TypeId):Option (Option Nat):=match yg P t,aY P t with
 | some true,some n=>some (some n)
 | some false,some _=>some none
 | _,_=>none
def rM (t:TypeId):Option (List o7):=match (P.info? t).bind (·.zero) with
 | some z=>match ofValue z with
  | some a=>some a.cells
  | none=>none
 | none=>none
def zeroV (t:TypeId):Option o7:=match (P.info? t).bind (·.zero) with
 | some z=>ofValue z
 | none=>none
def oO (f:TypeId->Option (List PK)):List Field->Nat->Option (List PK)
 | [],_=>some []
 | fd::l,off=>if fd.name≠ "_"∧fd.offset=off then match f fd.type with
   | some ks=>match oO f l (off+ks.length) with
    | some r=>some (ks++r)
    | none=>none
   | none=>none
  else none
def gQ:Nat->TypeId->Option (List PK)
 | 0,_=>none
 | d+1,t=>match P.underlying t with
  | some .bool=>if aY P t=some 1 then some [.b] else none
  | some (.int _)=>if aY P t=some 1 then some [.i] else none
  | some .string=>if aY P t=some 1 then some [.s] else none
  | some (.struct fs)=>match oO (gQ d) fs.toList 0 with
   | some ks=>if P.stoodInHeld t=false∧aY P t=some ks.length then some ks else none
   | none=>none
  | _=>none
def XC (cst:Bool)(t:TypeId):Option BJ:=match P.underlying t with
 | some .bool=>some (.prim .b)
 | some (.int _)=>some (.prim .i)
 | some .string=>some (.prim .s)
 | some (.struct _)=>match gQ P 10 t with
  | some k=>if P.eqGuardType P.depth t=false then some (.flat k) else none
  | none=>none
 | some (.pointer e)=>match aY P e with
  | some _=>some .ptr
  | none=>none
 | some (.slice _)=>some .slice
 | some (.map _ _)=>some .map
 | some (.func ..)=>some .func
 | some (.interface _)=>if cst then some .iface else none
 | _=>none
def aaN (t:TypeId):Option BJ:=match P.underlying t with
 | some (.array n e)=>match P.underlying e with
  | some (.int _)=>if aY P e=some 1∧P.eqGuardType P.depth t=false then some (.flat (List.replicate n .i)) else none
  | _=>none
 | _=>none
def XD (cst:Bool)(t:TypeId):Option BJ:=match XC P cst t with
 | some k=>some k
 | none=>aaN P t
def Ej (t:TypeId):Option (List o7):=match rM P t,aY P t with
 | some z,some k=>if z.length=k then some z else none
 | _,_=>none
def adg (t:TypeId):Bool:=match P.info? t with
 | some {desc:=.named n _,..}=>n == "strings.Builder"
 | _=>false
def Rf (t:TypeId):Bool:=adg P t||(match P.underlying t with
 | some (.struct fs)=>fs.toList.any λf=>adg P f.type
 | _=>false)
def Og (u:TypeId):List (Nat×Nat):=(List.range P.types.size).flatMap λty=>if Rf P ty&&P.cellsOf ty != 0 then
 ((if liesAt P P.depth ty 1 0 u 1 then [(ty,0)] else [])++(match P.underlying ty with
  | some (.struct fs)=>fs.toList.flatMap λf=>if f.offset≠0∧liesAt P P.depth ty 1 f.offset u 1 then [(ty,f.offset)] else []
  | _=>[])) else []
def Dm (e:TypeId):Bool:=(match P.underlying e with
 | some (.int .u8)=>true
 | _=>false)&&aY P e==some 1&&gZ P e==some 1&&(Ej P e).isSome
def uT (t:TypeId):Option BJ:=match XC P false t with
 | some (.prim j)=>some (.prim j)
 | some (.flat ks)=>some (.flat ks)
 | _=>none
end
def idxOf (t:Nat):List Nat->Nat->Option Nat
 | [],_=>none
 | x::l,i=>bif Nat.beq x t then some i else idxOf t l (i+1)
def jw (t:Nat):List (Option Nat)->Nat->Option Nat
 | [],_=>none
 | some x::l,i=>bif Nat.beq x t then some i else jw t l (i+1)
 | none::l,i=>jw t l (i+1)
section
variable (P:Program)(slots:List Nat)(done:List (Option Nat))
def N8:Operand->Option Q8
 | .tmp t=>match jw t done 0 with
  | some k=>some (.loc k)
  | none=>match idxOf t slots 0 with
   | some j=>some (.slot j)
   | none=>none
 | .const v=>match ofValue v with
  | some a=>some (.con a)
  | none=>none
 | .global g=>if g<P.globals.size then some (.con (.ptr g 0)) else none
 | .func f=>some (.con (.func (.func f) [] []))
def jY:List Operand->Option (List Q8)
 | []=>some []
 | x::l=>match N8 P slots done x,jY l with
  | some a,some b=>some (a::b)
  | _,_=>none
def cOpt:Option Operand->Option (Option Q8)
 | none=>some none
 | some x=>match N8 P slots done x with
  | some a=>some (some a)
  | none=>none
def yA:Operand->Bool
 | .const _=>true
 | _=>false
def vK (place:Nat->Option (Nat×Nat)):List (Nat×Operand)->Option (List (Nat×Nat×Q8))
 | []=>some []
 | p::l=>match place p.1,N8 P slots done p.2,vK place l with
  | some (o,s),some x,some r=>some ((o,s,x)::r)
  | _,_,_=>none
def placesOf:List Field->Option (List (Nat×Nat))
 | []=>some []
 | f::l=>match aY P f.type,placesOf l with
  | some s,some r=>some ((f.offset,s)::r)
  | _,_=>none
def yQ (t:TypeId)(parts:List (Nat×Operand)):Option zP:=
 match rM P t,P.underlying t with
 | some zero,some (.struct fields)=>match placesOf P fields.toList with
  | some pl=>match vK P slots done (λi=>pl[i]?) parts with
   | some ps=>some (.p (.build zero ps))
   | none=>none
  | none=>none
 | some zero,some (.array _ elem)=>match aY P elem with
  | some s=>match vK P slots done (λi=>some (i*s,s)) parts with
   | some ps=>some (.p (.build zero ps))
   | none=>none
  | none=>none
 | _,_=>none
def aeD:TypeDesc->Bool
 | .string=>true
 | _=>false
def vL (b:Builtin)(ts:List TypeId)(args:List Operand):Option zP:=do
 match b,ts,args with
 | .len,[t],[x]=>match ← P.underlying t with
  | .string=>do pure (.p (.fE (← N8 P slots done x)))
  | .slice _=>do pure (.p (.len (← N8 P slots done x)))
  | .array n _=>pure (.p (.mov (.con (.int .i64 n))))
  | .map _ _=>do pure (.r (.lenM (← N8 P slots done x)))
  | _=>none
 | .cap,[t],[x]=>match ← P.underlying t with
  | .slice _=>do pure (.p (.cap (← N8 P slots done x)))
  | _=>none
 | .append,[t,u],[s,x]=>match ← P.underlying t with
  | .slice e=>do
   let d ← P.underlying u
   let zs:=match d with | .int _=>true | _=>false
   if aeD d&&Dm P e then pure (.e (.appB e (← N8 P slots done s) (← N8 P slots done x)))
   else pure (.e (.app (← aY P e) zs (← Ej P e) (← gZ P e) (← N8 P slots done s) (← N8 P slots done x)))
  | _=>none
 | .copy,[t,_],[d,s]=>match ← P.underlying t with
  | .slice e=>do pure (.e (.copy (← aY P e) (← N8 P slots done d) (← N8 P slots done s)))
  | _=>none
 | .clear,[t],[x]=>match ← P.underlying t with
  | .slice e=>do pure (.e (.clear (← rM P e) (← N8 P slots done x)))
  | _=>none
 | .max,_,x::xs=>do pure (.p (.mm true (← N8 P slots done x) (← jY P slots done xs)))
 | .min,_,x::xs=>do pure (.p (.mm false (← N8 P slots done x) (← jY P slots done xs)))
 | .recover,[],[]=>pure (.e .recover)
 | .unsafeSliceData,[t],[x]=>match ← P.underlying t with
  | .slice _=>do pure (.r (.slData (← N8 P slots done x)))
  | _=>none
 | .unsafeString,[t,_],[p,n]=>match ← P.underlying t with
  | .pointer e=>do if Dm P e then pure (.e (.ustr e (← N8 P slots done p) (← N8 P slots done n))) else none
  | _=>none
 | _,_,_=>none
def iA (o:Op):Option zP:=do
 let r:=N8 P slots done
 match o with
 | .move x | .assign x=>pure (.p (.mov (← r x)))
 | .pick c a b=>pure (.p (.pick (← r c) (← r a) (← r b)))
 | .alloc t=>if Rf P t then do pure (.a (.allocT t (← Ej P t))) else do pure (.a (.alloc (← rM P t)))
 | .box t x=>if Rf P t then do pure (.a (.boxT t (← aY P t) (← r x))) else do pure (.a (.box (← r x)))
 | .build t parts=>yQ P slots done t parts.toList
 | .buildSlice t len parts=>match ← P.underlying t with
  | .slice e=>do
   let es ← aY P e
   let ps ← vK P slots done (λi=>some (i*es,es)) parts.toList
   if len*es<=16777216 then pure (.a (.buildSlice es len (← rM P e) ps)) else none
  | _=>none
 | .load t a=>pure (.r (.load (← partT P t) (← r a)))
 | .store t a x=>pure (.e (.store (← aY P t) (← r a) (← r x)))
 | .nilCheck x=>pure (.p (.nilCheck (← r x)))
 | .binOp op t x y _=>match op with
  | .eql | .neq=>do
   let k ← XD P (yA x||yA y) t
   let neg:=match op with | .neq=>true | _=>false
   match k with
   | .prim .i=>pure (.p (.ib op (← r x) (← r y)))
   | .prim .s=>pure (.p (.ib op (← r x) (← r y)))
   | k=>pure (.p (.eq neg k (← r x) (← r y)))
  | _=>pure (.p (.ib op (← r x) (← r y)))
 | .unOp op _ x=>match op with
  | .not=>do pure (.p (.not (← r x)))
  | .neg=>do pure (.p (.neg (← r x)))
  | .xor=>do pure (.p (.inv (← r x)))
  | _=>none
 | .convert s d x=>match ← P.underlying s,← P.underlying d with
  | .int _,.int k=>do pure (.p (.conv k (← r x)))
  | .string,.slice e=>match ← P.underlying e with
   | .int .u8=>do pure (.a (.strBytes (← r x)))
   | _=>none
  | .slice e,.string=>match ← P.underlying e with
   | .int .u8=>do pure (.r (.bytesStr (← r x)))
   | _=>none
  | .pointer t,.unsafePointer=>match ← aY P t with
   | 0=>none
   | _=>do pure (.r (.toUns (← r x)))
  | .unsafePointer,.pointer u=>match ← aY P u with
   | 0=>none
   | _=>do pure (.r (.fromUns (Og P u) (← r x)))
  | _,_=>none
 | .makeInterface t x=>match ← P.underlying t with
  | .interface _=>none
  | _=>do pure (.p (.mkIface t (← r x)))
 | .makeFunc fn a b=>match fn with
  | .func f=>do pure (.p (.mkFunc (.func f) (← jY P slots done a.toList) (← jY P slots done b.toList)))
  | _=>none
 | .makeMap t res=>match res with
  | none=>pure (.a .mkMap)
  | some (.const (.int _ _))=>match P.underlying t with
   | some (.map _ _)=>pure (.a .mkMap)
   | _=>none
  | _=>none
 | .makeSlice t l c=>match ← P.underlying t with
  | .slice e=>do pure (.a (.mkSlice (← aY P e) (← gZ P e) (← Ej P e) (← r l) (← r c)))
  | _=>none
 | .slice t x lo hi none=>match ← P.underlying t with
  | .string=>do pure (.p (.slStr (← r x) (← cOpt P slots done lo) (← cOpt P slots done hi)))
  | .slice e=>do pure (.a (.sl (← aY P e) (← r x) (← cOpt P slots done lo) (← cOpt P slots done hi)))
  | .array n e=>do pure (.p (.slArr (← aY P e) n (← r x) (← cOpt P slots done lo) (← cOpt P slots done hi)))
  | _=>none
 | .fieldAddr s x f=>match ← P.underlying s with
  | .struct fs=>do
   let fd ← fs[f]?
   let sz ← aY P fd.type
   if sz=0 then none else pure (.p (.fAddr fd.offset (← r x)))
  | _=>none
 | .field s x f=>match ← P.underlying s with
  | .struct fs=>do
   let fd ← fs[f]?
   pure (.p (.fld fd.offset (← partT P fd.type) (← r x)))
  | _=>none
 | .indexAddr t x i=>match ← P.underlying t with
  | .slice e=>do pure (.p (.iAddr (← aY P e) (← r x) (← r i)))
  | .array n e=>do pure (.p (.iAddrArr (← aY P e) n (← r x) (← r i)))
  | _=>none
 | .index t x i=>match ← P.underlying t with
  | .string=>do pure (.p (.iStr (← r x) (← r i)))
  | .array n e=>do pure (.p (.iArr (← aY P e) n (← partT P e) (← r x) (← r i)))
  | _=>none
 | .lookup t x k ok=>match ← P.underlying t with
  | .map kt e=>do pure (.r (.look (← uT P kt) (← zeroV P e) ok (← r x) (← r k)))
  | _=>none
 | .mapUpdate t m k x | .insert t m k x=>match ← P.underlying t with
  | .map kt _=>do pure (.e (.mapSet (← uT P kt) (← r m) (← r k) (← r x)))
  | _=>none
 | .range t x=>match ← P.underlying t with
  | .map _ _=>do pure (.e (.range (← r x)))
  | .string=>do pure (.e (.rangeS (← r x)))
  | _=>none
 | .next it false=>pure (.e (.next (← r it)))
 | .next it true=>pure (.e (.nextS (← r it)))
 | .entry it=>pure (.r (.entry (← r it)))
 | .extract x i=>pure (.p (.ext (← r x) i))
 | .typeAssert x _ t ok=>match ← P.underlying t with
  | .interface _=>none
  | _=>do pure (.p (.assert t (← zeroV P t) ok (← r x)))
 | .panic x=>pure (.e (.panic (← r x)))
 | .defer c=>match c.callee with
  | .value f=>do pure (.e (.defer (← r f) (← jY P slots done c.args.toList)))
  | _=>none
 | .call c=>match c.callee with
  | .builtin b=>vL P slots done b c.argTypes.toList c.args.toList
  | .value (.func f)=>do
   let fn ← P.funcs[f]?
   if fn.body.isSome&&fn.name != "runtime.NumGoroutine" then pure (.e (.call f (← jY P slots done c.args.toList)))
   else if fn.body.isNone&&fn.name == "internal/abi.NoEscape" && (Extern.findNext fn).isNone then match c.args.toList with
    | [x]=>do pure (.p (.mov (← r x)))
    | _=>none
   else none
  | .value f=>do pure (.e (.callv (← r f) (← jY P slots done c.args.toList)))
  | _=>none
 | _=>none
def IL:Option Tmp->Option Nat
 | none=>none
 | some t=>idxOf t slots 0
def lu (o:Op):zP:=match iA P slots done o with
 | some a=>a
 | none=>.e .bad
def qA (ops:Array Oper)(i:Nat):Option (Inst×Option Nat):=do
 let o ← ops[i]?
 let a:=lu P slots done o.op
 let g ← match o.guard with
  | none=>pure none
  | some (j,w)=>do
   let og ← ops[j]?
   let d ← og.dst
   let k ← jw d done 0
   pure (some (Q8.loc k,w))
 pure (⟨a,IL slots o.dst,g⟩,o.dst)
end
def kI (P:Program)(slots:List Nat)(ops:Array Oper):List (Option Nat)->List Nat->Option (List Inst)
 | _,[]=>some []
 | done,i::rest=>match qA P slots done ops i with
  | some (x,d)=>match kI P slots ops (d::done) rest with
   | some l=>some (x::l)
   | none=>none
  | none=>none
def bitsOf (e:Array Edge)(acc:List Nat):Nat:=
 e.toList.foldl (λs x=>if Region.binds .any x then s ||| (1 <<< x.on) ||| (acc.getD x.on 0) else s) 0
def masks (ops:List Oper):List Nat:=ops.foldl (λacc o=>acc ++ [bitsOf o.after acc]) []
def Rh (ms:List Nat)(i j:Nat):Bool:=Nat.testBit (ms.getD i 0) j
def ahX:Op->Bool
 | .store .. | .mapUpdate .. | .insert .. | .range .. | .next .. | .mapEntry .. | .entryStore .. | .panic _ | .defer _ | .typeAssert ..=>true
 | .call {callee:=.builtin b,..}=>match b with
  | .append | .copy | .clear | .delete | .unsafeString=>true
  | _=>false
 | .call _=>true
 | _=>false
def FD (ops:Array Oper)(i:Nat):Bool:=
 match ops[i]? with
 | some o=>ahX o.op
 | none=>false
def canon (eff:Nat->Bool)(ms:List Nat)(n:Nat):List Nat:=
 let effs:=(List.range n).filter eff
 let step (acc:List Nat) (e:Nat):List Nat:=acc++(List.range n).filter (λi=>!acc.contains i&&Rh ms e i) ++ [e]
 let acc:=effs.foldl (λacc e=>if acc.contains e then acc else step acc e) []
 acc++(List.range n).filter (λi=>!acc.contains i)
def aQ (x:Inst):Bool:=match x.op with
 | .e _=>true
 | _=>false
def isA (x:Inst):Bool:=match x.op with
 | .a _=>true
 | _=>false
def isR (x:Inst):Bool:=match x.op with
 | .r _=>true
 | _=>false
def aeE (ms:List Nat)(i:Nat)(x:Inst)(effs:List Nat)(nal:Nat):Nat:=
 if isR x then (effs.takeWhile λe=>!Rh ms i e).length else nal
def numbered (ms:List Nat):List (Nat×Inst)->List Nat->Nat->List (Nat×Inst)
 | [],_,_=>[]
 | (i,x)::rest,effs,nal=>(aeE ms i x effs nal,x)::numbered ms rest (if aQ x then i::effs else effs) (if isA x then nal+1 else nal)
def yR (ops:Array Oper)(o:Oper):List Nat:=
 (o.op.operands.toList.filterMap fun | .tmp t=>some t | _=>none) ++
 (match o.guard with
  | some (g,_)=>((ops[g]?).bind (·.dst)).toList
  | none=>[])
def Oh:List Nat->Bool
 | []=>true
 | x::l=>!l.contains x&&Oh l
def Li:List Inst->Nat
 | []=>0
 | x::l=>(if isA x then 1 else 0)+Li l
def Tn (ms:List Nat)(i:Nat)(before:List (Nat×Inst)):Q8->Bool
 | .loc k=>match before[k]? with
  | some y=>Rh ms i y.1
  | none=>false
 | .slot j=>before.all λy=>y.2.dst != some j
 | .con _=>true
def vM (ms:List Nat)(ops:Array Oper)(i:Nat)(x:Inst)(before:List (Nat×Inst)):Bool:=
 (match x.op with
  | .e _=>before.all λy=>Rh ms i y.1
  | _=>true) &&
 (match ops[i]? with
  | some o=>(o.after.toList.all λe=>!Region.binds .any e||before.any λy=>y.1==e.on) &&
   ((yR ops o).all λt=>(List.range ops.size).all λq=>q==i||(match ops[q]? with
    | some oq=>oq.dst != some t
    | none=>true)||Rh ms i q||Rh ms q i)
  | none=>false) &&
 ((Fg x.op).all λy=>Tn ms i before y) &&
 (match x.guard with
  | some (y,_)=>Tn ms i before y
  | none=>true)
def xC (ms:List Nat)(ops:Array Oper):List (Nat×Inst)->List (Nat×Inst)->Bool
 | [],_=>true
 | y::rest,before=>vM ms ops y.1 y.2 before&&xC ms ops rest (y::before)
def XE (ms:List Nat)(ops:Array Oper)(ord:List Nat)(insts:List Inst):Bool:=
 Oh ord&&(ord.all λi=>Nat.blt i ops.size)&&((List.range ops.size).all λi=>ord.contains i)&&Oh (ops.toList.filterMap (·.dst))&&xC ms ops (ord.zip insts) []
def zV (P:Program)(slots:List Nat)(ops:Array Oper):Option V8:=
 match kI P slots ops [] (canon (FD ops) (masks ops.toList) ops.size) with
 | none=>none
 | some insts=>
  if XE (masks ops.toList) ops (canon (FD ops) (masks ops.toList) ops.size) insts then
   some (.dreg (Li insts) (numbered (masks ops.toList) ((canon (FD ops) (masks ops.toList) ops.size).zip insts) [] 0))
  else none
def Oi:Q8->Bool
 | .loc _=>false
 | _=>true
def Lj (ms:List Nat)(ops:Array Oper):Bool:=
 Nat.ble 3 ops.size &&
 ((List.range ops.size).all λi=>match ops[i]? with
  | some o=>(o.after.toList.all λe=>!Region.binds .any e||Nat.blt e.on i)&&o.guard.isNone
  | none=>false) &&
 ((List.range (ops.size-3)).all λj=>Rh ms (ops.size-3) j&&Rh ms (ops.size-2) j&&Rh ms (ops.size-1) j) &&
 Rh ms (ops.size-2) (ops.size-3)
def ED (x y z:Option (Inst×Option Nat))(n:Nat)(l:List (Nat×Inst)):Option V8:=
 match x,y,z with
 | some (⟨.p po,none,none⟩,_),some (⟨.e (.store s (.loc 0) v),none,none⟩,none),some (⟨.e (.store s' a' v'),none,none⟩,none)=>if Oi a'&&Oi v' then some (.dreg2 n l [⟨.p po,none,none⟩,⟨.e (.store s (.loc 0) v),none,none⟩,⟨.e (.storeAp s' a' v' (.loc 1)),none,none⟩]) else none
 | _,_,_=>none
def Tp:Option Oper->Bool
 | some o=>match o.op with
  | .store ..=>true
  | _=>false
 | none=>false
def splits (ops:Array Oper):Bool:=Tp ops[ops.size-1]? && Tp ops[ops.size-2]? && !Rh (masks ops.toList) (ops.size-1) (ops.size-2)
def FE (P:Program)(slots:List Nat)(ops:Array Oper):Option V8:=
 match zV P slots (ops.extract 0 (ops.size-3)) with
 | some (.dreg n l)=>
  if Lj (masks ops.toList) ops then
   ED (qA P slots [] ops (ops.size-3)) (qA P slots [(ops[ops.size-3]?).bind (·.dst)] ops (ops.size-2)) (qA P slots [] ops (ops.size-1)) n l
  else none
 | _=>none
def U2 (P:Program)(slots:List Nat):Code->Option V8
 | .skip=>some .skip
 | .region _ ops false=>match kI P slots ops [] (List.range ops.size) with
  | some l=>some (.reg l)
  | none=>none
 | .region _ ops true=>if splits ops then FE P slots ops else zV P slots ops
 | .seq a b=>match U2 P slots a,U2 P slots b with
  | some x,some y=>some (.seq x y)
  | _,_=>none
 | .cond c a b=>match N8 P slots [] c,U2 P slots a,U2 P slots b with
  | some z,some x,some y=>some (.cond z x y)
  | _,_,_=>none
 | .block id a=>match U2 P slots a with
  | some x=>some (.block id x)
  | none=>none
 | .loop a=>match U2 P slots a with
  | some x=>some (.loop x)
  | none=>none
 | .exit id=>some (.exit id)
 | .ret=>some .ret
 | .rangeFunc f ps a b=>match N8 P slots [] f,U2 P slots a,U2 P slots b with
  | some z,some x,some y=>some (.rangeFunc z (ps.toList.map λt=>idxOf t slots 0) x y)
  | _,_,_=>none
 | .refuse _=>some (.reg [⟨.e .bad,none,none⟩])
 | _=>none
def tmpsIn (nt:Nat):Code->Bool
 | .region _ ops _=>ops.toList.all λo=>match o.dst with
  | some t=>Nat.blt t nt
  | none=>true
 | .seq a b=>tmpsIn nt a&&tmpsIn nt b
 | .cond _ a b=>tmpsIn nt a&&tmpsIn nt b
 | .block _ a=>tmpsIn nt a
 | .loop a=>tmpsIn nt a
 | .rangeFunc _ _ a b=>tmpsIn nt a&&tmpsIn nt b
 | _=>true
def El (P:Program)(slots:List Nat):List ResultVar->Option (List qg)
 | []=>some []
 | .tmp t::l=>match idxOf t slots 0,El P slots l with
  | some j,some r=>some (.tmp j::r)
  | _,_=>none
 | .cell t ty::l=>match idxOf t slots 0,partT P ty,El P slots l with
  | some j,some s,some r=>some (.cell j s::r)
  | _,_,_=>none
def Ri (P:Program)(slots:List Nat)(f:FuncId):Option AFn:=
 match P.funcs[f]? with
 | none=>none
 | some fn=>match fn.body with
  | none=>none
  | some c=>match U2 P slots c,El P slots fn.results.toList with
   | some b,some r=>
    if tmpsIn fn.ntmps c&&(slots.all λt=>Nat.blt t fn.ntmps)&&Nat.blt slots.length 1152921504606846976&&fn.name != "runtime.NumGoroutine" then
     some ⟨fn.params.size+fn.nfree,(List.range (fn.params.size+fn.nfree)).map λt=>idxOf t slots 0,slots.length,r,b⟩
    else none
   | _,_=>none
section
variable {α β γ:Type}
@[simp] theorem O0 (a:α)(k:α->Option β):ob (some a) k=k a:=rfl
@[simp] theorem al7 (k:α->Option β):ob none k=none:=rfl
theorem D5 {o:Option α}{k:α->Option β}{b:β}(h:ob o k=some b):∃a,o=some a∧k a=some b:=by
 cases o with
 | none=>simp at h
 | some a=>exact⟨a,rfl,h⟩
@[simp] theorem Q9 (x y:α):bi true x y=x:=rfl
@[simp] theorem U5 (x y:α):bi false x y=y:=rfl
theorem D8 {b:Bool}{x:Option α}{a:α}(h:bi b x none=some a):b=true∧x=some a:=by
 cases b with
 | true=>exact⟨rfl,h⟩
 | false=>simp at h
theorem kJ {b:Bool}{x:Option α}{a:α}(h:bi b none x=some a):b=false∧x=some a:=by
 cases b with
 | true=>simp at h
 | false=>exact⟨rfl,h⟩
end
namespace T
variable {α:Type}
@[simp] theorem aqC (i:Nat):(T.e:T α).get i=none:=rfl
@[simp] theorem ahY (l:T α)(x:α)(r:T α):(T.nd l x r).get 0=some x:=rfl
theorem eD (l:T α)(x:α)(r:T α)(i:Nat):(T.nd l x r).get (i+1)=if i%2=0 then l.get (i / 2) else r.get (i / 2):=by show (Nat.rec (l.get (Nat.div i 2)) (λ_ _=>r.get (Nat.div i 2)) (Nat.mod i 2):Option α)=_;have h:Nat.mod i 2=i%2:=rfl;rcases aaG i with h0 | h1;rw [h,h0];rfl;rw [h,h1];rfl
@[simp] theorem ahZ (i:Nat)(x:α):(T.e:T α).put i x=.nd .e x .e:=rfl
@[simp] theorem Oj (l:T α)(y:α)(r:T α)(x:α):(T.nd l y r).put 0 x=.nd l x r:=rfl
theorem aD (l:T α)(y:α)(r:T α)(i:Nat)(x:α):(T.nd l y r).put (i+1) x=if i%2=0 then .nd (l.put (i / 2) x) y r else .nd l y (r.put (i / 2) x):=by show (Nat.rec (T.nd (l.put (Nat.div i 2) x) y r) (λ_ _=>T.nd l y (r.put (Nat.div i 2) x)) (Nat.mod i 2):T α)=_;have h:Nat.mod i 2=i%2:=rfl;rcases aaG i with h0 | h1;rw [h,h0];rfl;rw [h,h1];rfl
inductive Ok:T α->Nat->Prop
 | e:Ok .e 0
 | nd {l r:T α} {x:α} {n:Nat} (hl:Ok l ((n+1) / 2)) (hr:Ok r (n / 2)):Ok (.nd l x r) (n+1)
theorem Ok.get {t:T α}{n:Nat}(h:Ok t n):∀i,(∃x,t.get i=some x)↔i<n:=by
 induction h with
 | e=>intro i;simp
 | @nd l r x n hl hr ihl ihr=>
  intro i;cases i with
  | zero=>simp
  | succ i=>rw [eD];split;rw [ihl];omega;rw [ihr];omega
theorem Ok.put {t:T α}{n:Nat}(h:Ok t n):∀i (x:α),i<n->Ok (t.put i x) n:=by
 induction h with
 | e=>intro i x a;omega
 | @nd l r y n hl hr ihl ihr=>
  intro i x a;cases i with
  | zero=>exact .nd hl hr
  | succ i=>rw [aD];split;exact .nd (ihl _ _ (by omega)) hr;exact .nd hl (ihr _ _ (by omega))
theorem Ok.push {t:T α}{n:Nat}(h:Ok t n):∀(x:α),Ok (t.put n x) (n+1):=by
 induction h with
 | e=>intro x;exact .nd .e .e
 | @nd l r y n hl hr ihl ihr=>intro x;rw [aD];split;rename_i a;refine .nd ?_ ?_;have:=ihl x;rw [show (n+1) / 2=n / 2 from by omega] at this;rw [show (n+1+1) / 2=n / 2+1 from by omega];exact this;rw [show (n+1) / 2=n / 2 from by omega];exact hr;rename_i a;refine .nd ?_ ?_;rw [show (n+1+1) / 2=(n+1) / 2 from by omega];exact hl;have:=ihr x;rw [show (n+1) / 2=n / 2+1 from by omega];exact this
theorem bM {t:T α}{n:Nat}(h:Ok t n):∀i (x:α),i<=n->(t.put i x).get i=some x:=by
 induction h with
 | e=>intro i x b;obtain rfl:i=0:=by omega
      rfl
 | @nd l r y n hl hr ihl ihr=>
  intro i x b;cases i with
  | zero=>rfl
  | succ i=>rw [aD];split;rename_i a;rw [eD,if_pos a];exact ihl _ _ (by omega);rename_i a;rw [eD,if_neg a];exact ihr _ _ (by omega)
theorem bY {t:T α}{n:Nat}(h:Ok t n):∀i j (x:α),i<=n->i≠j->(t.put i x).get j=t.get j:=by
 induction h with
 | e=>
  intro i j x b d;obtain rfl:i=0:=by omega
  cases j with
  | zero=>omega
  | succ j=>rw [ahZ,eD];simp
 | @nd l r y n hl hr ihl ihr=>
  intro i j x b c;cases i with
  | zero=>
   cases j with
   | zero=>omega
   | succ j=>rw [Oj,eD,eD]
  | succ i=>
   rw [aD];cases j with
   | zero=>split<;>rfl
   | succ j=>split;rename_i a;rw [eD,eD];split;exact ihl _ _ _ (by omega) (by omega);rfl;rename_i a;rw [eD,eD];split;rfl;exact ihr _ _ _ (by omega) (by omega)
theorem uG (x:α)(l:List α)(t:T α)(i:Nat):oG (x::l) t i=oG l (t.put i x) (i+1):=rfl
theorem IQ (l:List α):∀(t:T α) (i:Nat),Ok t i->Ok (oG l t i) (i+l.length):=by
 induction l with
 | nil=>intro t i h;exact h
 | cons x l ih=>intro t i h;rw [uG,J6,show i+(l.length+1)=i+1+l.length from by omega];exact ih _ _ (h.push x)
theorem FH (l:List α):∀(t:T α) (i:Nat),Ok t i->∀j,(oG l t i).get j=if j<i then t.get j else l[j-i]?:=by
 induction l with
 | nil=>
  intro t i h j;show t.get j=_;split;rfl;rename_i a;cases hg:t.get j with
  | none=>simp
  | some x=>exact absurd ((h.get j).1 ⟨x,hg⟩) a
 | cons x l ih=>intro t i h j;rw [uG,ih _ _ (h.push x)];by_cases h1:j<i;rw [if_pos (by omega),if_pos h1,bY h _ _ _ (aP _) (by omega)];by_cases h2:j=i;subst h2;rw [if_pos (by omega),bM h _ _ (aP _)];simp;rw [if_neg (by omega),if_neg h1,show j-i=(j-(i+1))+1 from by omega];simp
theorem au (l:List α)(j:Nat):(ofList l).get j=l[j]?:=by have:=FH l .e 0 .e j;simpa [ofList] using this
theorem fO (l:List α):Ok (ofList l) l.length:=by have:=IQ l .e 0 .e;simpa [ofList] using this
theorem FI (x:α)(n:Nat)(t:T α)(i:Nat):rep x (n+1) t i=rep x n (t.put i x) (i+1):=rfl
theorem Rj (x:α)(n:Nat):∀(t:T α) (i:Nat),Ok t i->Ok (rep x n t i) (i+n):=by
 induction n with
 | zero=>intro t i h;exact h
 | succ n ih=>intro t i h;rw [FI,show i+(n+1)=i+1+n from by omega];exact ih _ _ (h.push x)
theorem Tq (x:α)(n:Nat):∀(t:T α) (i:Nat),Ok t i->∀j,(rep x n t i).get j=if j<i then t.get j else if j<i+n then some x else none:=by
 induction n with
 | zero=>
  intro t i h j;show t.get j=_;split;rfl;rename_i a;rw [if_neg (by omega)];cases hg:t.get j with
  | none=>rfl
  | some y=>exact absurd ((h.get j).1 ⟨y,hg⟩) a
 | succ n ih=>intro t i h j;rw [FI,ih _ _ (h.push x)];by_cases h1:j<i;rw [if_pos (by omega),if_pos h1,bY h _ _ _ (aP _) (by omega)];by_cases h2:j=i;subst h2;rw [if_pos (by omega),bM h _ _ (aP _),if_neg h1,if_pos (by omega)];rw [if_neg (by omega),if_neg h1];by_cases h3:j<i+1+n;rw [if_pos h3,if_pos (by omega)];rw [if_neg h3,if_neg (by omega)]
theorem FJ (t:T α)(i:Nat):t.slice 0 i=some []:=rfl
theorem yS (t:T α)(n i:Nat):t.slice (n+1) i=ob (t.get i) λx=>ob (t.slice n (i+1)) λxs=>some (x::xs):=rfl
theorem Rk (t:T α)(n:Nat):∀i l,t.slice n i=some l->l.length=n∧∀j,j<n->t.get (i+j)=l[j]?:=by
 induction n with
 | zero=>intro i l h;rw [FJ] at h;cases h;simp
 | succ n ih=>
  intro i l h;rw [yS] at h;obtain⟨x,d,h⟩:=D5 h;obtain⟨f,a,h⟩:=D5 h;cases h;obtain⟨c,b⟩:=ih _ _ a;refine⟨by simp [c],λj e=>?_⟩;cases j with
  | zero=>simpa using d
  | succ j=>rw [show i+(j+1)=i+1+j from by omega,b j (by omega)];simp
end T
section
variable {α:Type}
@[simp] theorem I9 (l:List α):len' l=l.length:=by
 induction l with
 | nil=>rfl
 | cons x l ih=>show Nat.succ (len' l)=_;rw [ih];rfl
@[simp] theorem P8 (l m:List α):aJ l m=l++m:=by
 induction l with
 | nil=>rfl
 | cons x l ih=>show x::aJ l m=_;rw [ih];rfl
@[simp] theorem jE (n:Nat):∀l:List α,kF n l=l.drop n:=by
 induction n with
 | zero=>intro l;rfl
 | succ n ih=>
  intro l;cases l with
  | nil=>rfl
  | cons x l=>exact ih l
@[simp] theorem jN (n:Nat):∀l:List α,nO n l=l[n]?:=by
 induction n with
 | zero=>intro l;cases l<;>rfl
 | succ n ih=>
  intro l;cases l with
  | nil=>rfl
  | cons x l=>show nO n l=_;rw [ih];rfl
@[simp] theorem XF (n:Nat):∀l:List o7,nth n l=l[n]?.getD .undef:=by
 induction n with
 | zero=>intro l;cases l<;>rfl
 | succ n ih=>
  intro l;cases l with
  | nil=>rfl
  | cons x l=>show nth n l=_;rw [ih];rfl
theorem lQ (n:Nat):∀(l r:List α),takeN n l=some r->r=l.take n∧n<=l.length:=by
 induction n with
 | zero=>intro l r h;cases h;simp
 | succ n ih=>
  intro l r h;cases l with
  | nil=>cases h
  | cons x l=>
   change ob (takeN n l) (λr=>some (x::r))=some r at h
   obtain⟨d,b,h⟩:=D5 h;cases h;obtain⟨a,c⟩:=ih _ _ b;exact⟨by simp [a],by simp;omega⟩
theorem jQ (n:Nat):∀(l:List α),n<=l.length->takeN n l=some (l.take n):=by
 induction n with
 | zero=>intro l _;rfl
 | succ n ih=>
  intro l h;cases l with
  | nil=>simp at h
  | cons x l=>
   change ob (takeN n l) (λr=>some (x::r))=_
   rw [ih l (by simpa using h)];rfl
theorem mV (n:Nat)(a:List α):∀(l:List α),n<=l.length->mM n a l=l.take n++(a++l.drop (n+a.length)):=by
 induction n with
 | zero=>intro l _;show aJ a (kF (len' a) l)=_;simp
 | succ n ih=>
  intro l h;cases l with
  | nil=>simp at h
  | cons x l=>show x::mM n a l=_;rw [ih l (by simpa using h),show n+1+a.length=(n+a.length)+1 from by omega];simp
theorem zW (n:Nat)(a l:List α)(h:n+a.length<=l.length):(mM n a l).length=l.length:=by rw [mV n a l (by omega)];simp;omega
theorem UO (n:Nat)(a l:List α)(h:n+a.length<=l.length)(j:Nat):
  (mM n a l)[j]?=if n<=j∧j<n+a.length then a[j-n]? else l[j]?:=by
 rw [mV n a l (by omega)];rw [List.getElem?_append];simp only [ahv,show min n l.length=n from by omega];split;rw [if_neg (by omega),ae6,if_pos (by omega)];rw [List.getElem?_append];split;rw [if_pos (by omega)];rw [if_neg (by omega),afx];congr 1;omega
end
structure Loc where
 b:Nat
 base:Nat
 cap:Nat
 spot:Option Nat
abbrev K7:=Nat->Loc
def K7.at (ι:K7)(i o:Nat):Addr:=⟨(ι i).b,(ι i).base+o,if o=0 then (ι i).spot else none⟩
theorem K7.zX {ι:K7}{i:Nat}(h:(ι i).spot=none)(o:Nat):ι.at i o=⟨(ι i).b,(ι i).base+o,none⟩:=by simp [K7.at,h]
def jR (ι:K7):Fn->Fn
 | .yield l=>.yield (ι l).b
 | f=>f
mutual
def u6 (ι:K7):o7->Value
 | .undef=>.tuple #[]
 | .bool b=>.bool b
 | .int k n=>.int k n
 | .str s=>.string ⟨s.toArray⟩
 | .nilPtr=>.pointer none
 | .ptr i o=>.pointer (some (ι.at i o))
 | .nilSlice=>.slice none 0 0
 | .slice i o l c=>.slice (some (ι.at i o)) l c
 | .sliceU i o l es=>.slice (some (ι.at i o)) l (((ι i).cap-o) / es)
 | .nilMap=>.map none
 | .map i=>.map (some (ι i).b)
 | .nilFunc=>.nilFunc
 | .func fn a b=>.func (jR ι fn) (z8 ι a).toArray (z8 ι b).toArray
 | .nilIface=>.nilIface
 | .iface t v=>.iface t (u6 ι v)
 | .agg l=>.agg (z8 ι l).toArray
 | .tuple l=>.tuple (z8 ι l).toArray
 | .nN v=>.tuple #[u6 ι v]
def z8 (ι:K7):List o7->List Value
 | []=>[]
 | v::l=>u6 ι v::z8 ι l
end
structure Nm where
 has:Nat->Prop
 cap:Nat->Nat
instance:CoeFun Nm (λ_=>Nat->Prop):=⟨Nm.has⟩
def Nm.le (n m:Nm):Prop:=∀i,n i->m i∧m.cap i=n.cap i
theorem Nm.le_refl (n:Nm):n.le n:=λ_ h=>⟨h,rfl⟩
theorem Nm.le_trans {a b c:Nm}(h:a.le b)(k:b.le c):a.le c:=λi d=>⟨(k i (h i d).1).1,(k i (h i d).1).2.trans (h i d).2⟩
def aaO (n:Nm):Fn->Prop
 | .yield l=>n l
 | _=>True
mutual
def o7.lt (n:Nm):o7->Prop
 | .ptr i _=>n i
 | .slice i _ _ _=>n i
 | .sliceU i o l es=>n i∧1<=es∧o+l*es<=n.cap i
 | .map i=>n i
 | .func fn a b=>aaO n fn∧bB n a∧bB n b
 | .iface _ v=>v.lt n
 | .agg l=>bB n l
 | .tuple l=>bB n l
 | .nN _=>False
 | _=>True
def bB (n:Nm):List o7->Prop
 | []=>True
 | v::l=>v.lt n∧bB n l
end
theorem bQ (ι:K7)(l:List o7):z8 ι l=l.map (u6 ι):=by
 induction l with
 | nil=>simp [z8]
 | cons v l ih=>simp [z8,ih]
theorem dR {n:Nm}{l:List o7}:bB n l↔∀v∈l,v.lt n:=by
 induction l with
 | nil=>simp [bB]
 | cons v l ih=>simp [bB,ih]
@[simp] theorem Y9 (ι:K7)(l:List o7):(z8 ι l).length=l.length:=by simp [bQ]
theorem aX (ι:K7)(l:List o7)(i:Nat):(z8 ι l)[i]?=l[i]?.map (u6 ι):=by simp [bQ]
mutual
theorem U0 {n:Nm}{ι ι':K7}(h:∀i,n i->ι' i=ι i):∀v:o7,v.lt n->u6 ι' v=u6 ι v
 | .undef,_ | .bool _,_ | .int _ _,_ | .str _,_ | .nilPtr,_ | .nilSlice,_ | .nilMap,_ | .nilFunc,_ | .nilIface,_=>by simp [u6]
 | .ptr i o,hv=>by simp only [o7.lt] at hv;simp [u6,K7.at,h i hv]
 | .slice i o l c,hv=>by simp only [o7.lt] at hv;simp [u6,K7.at,h i hv]
 | .sliceU i o l c,hv=>by simp only [o7.lt] at hv;simp [u6,K7.at,h i hv.1]
 | .map i,hv=>by simp only [o7.lt] at hv;simp [u6,h i hv]
 | .func fn a b,hv=>by
  simp only [o7.lt] at hv;obtain⟨hf,ha,hb⟩:=hv;have e:jR ι' fn=jR ι fn:=by cases fn<;>simp_all [jR,aaO]
  simp [u6,e,gD h a ha,gD h b hb]
 | .iface t v,hv=>by simp only [o7.lt] at hv;simp [u6,U0 h v hv]
 | .agg l,hv=>by simp only [o7.lt] at hv;simp [u6,gD h l hv]
 | .tuple l,hv=>by simp only [o7.lt] at hv;simp [u6,gD h l hv]
 | .nN v,hv=>by simp only [o7.lt] at hv
theorem gD {n:Nm}{ι ι':K7}(h:∀i,n i->ι' i=ι i):∀l:List o7,bB n l->z8 ι' l=z8 ι l
 | [],_=>by simp [z8]
 | v::l,hl=>by simp only [bB] at hl;simp [z8,U0 h v hl.1,gD h l hl.2]
end
mutual
theorem o7.O6 {n m:Nm}(h:n.le m):∀v:o7,v.lt n->v.lt m
 | .undef,_ | .bool _,_ | .int _ _,_ | .str _,_ | .nilPtr,_ | .nilSlice,_ | .nilMap,_ | .nilFunc,_ | .nilIface,_=>by simp [o7.lt]
 | .ptr i o,hv=>by simp only [o7.lt] at *;exact (h _ hv).1
 | .slice i o l c,hv=>by simp only [o7.lt] at *;exact (h _ hv).1
 | .sliceU i o l c,hv=>by simp only [o7.lt] at *;exact⟨(h _ hv.1).1,hv.2.1,by rw [(h _ hv.1).2];exact hv.2.2⟩
 | .map i,hv=>by simp only [o7.lt] at *;exact (h _ hv).1
 | .func fn a b,hv=>by simp only [o7.lt] at *;exact⟨by cases fn<;>first | trivial | exact (h _ hv.1).1,eF h a hv.2.1,eF h b hv.2.2⟩
 | .iface t v,hv=>by simp only [o7.lt] at *;exact o7.O6 h v hv
 | .agg l,hv=>by simp only [o7.lt] at *;exact eF h l hv
 | .tuple l,hv=>by simp only [o7.lt] at *;exact eF h l hv
 | .nN v,hv=>by simp only [o7.lt] at hv
theorem eF {n m:Nm}(h:n.le m):∀l:List o7,bB n l->bB m l
 | [],_=>by simp [bB]
 | v::l,hl=>by simp only [bB] at *;exact⟨o7.O6 h v hl.1,eF h l hl.2⟩
end
theorem lS (ι:K7)(v:o7):(u6 ι v).cells=(z8 ι v.cells).toArray:=by cases v<;>simp [u6,Value.cells,o7.cells,z8]
theorem vN {n:Nm}{v:o7}(h:v.lt n):bB n v.cells:=by cases v<;>simp_all [o7.lt,o7.cells,bB]
mutual
theorem nP (ι:K7):∀(v:Value) (a:o7),ofValue v=some a->u6 ι a=v∧∀n,a.lt n
 | .bool b,a,h=>by simp only [ofValue,Hl] at h;subst h;simp [u6,o7.lt]
 | .int k n,a,h=>by simp only [ofValue,Hl] at h;subst h;simp [u6,o7.lt]
 | .string s,a,h=>by simp only [ofValue,Hl] at h;subst h;simp [u6,o7.lt]
 | .pointer none,a,h=>by simp only [ofValue,Hl] at h;subst h;simp [u6,o7.lt]
 | .pointer (some _),a,h=>by simp [ofValue] at h
 | .slice none 0 0,a,h=>by simp only [ofValue,Hl] at h;subst h;simp [u6,o7.lt]
 | .slice (some _) _ _,a,h=>by simp [ofValue] at h
 | .slice none (_+1) _,a,h=>by simp [ofValue] at h
 | .slice none 0 (_+1),a,h=>by simp [ofValue] at h
 | .map none,a,h=>by simp only [ofValue,Hl] at h;subst h;simp [u6,o7.lt]
 | .map (some _),a,h=>by simp [ofValue] at h
 | .nilFunc,a,h=>by simp only [ofValue,Hl] at h;subst h;simp [u6,o7.lt]
 | .nilIface,a,h=>by simp only [ofValue,Hl] at h;subst h;simp [u6,o7.lt]
 | .func (.func f) ⟨[]⟩ ⟨[]⟩,a,h=>by simp only [ofValue,Hl] at h;subst h;simp [u6,o7.lt,jR,z8,aaO,bB]
 | .func (.func f) ⟨_ :: _⟩ _,a,h=>by simp [ofValue] at h
 | .func (.func f) ⟨[]⟩ ⟨_ :: _⟩,a,h=>by simp [ofValue] at h
 | .func (.method _) _ _,a,h=>by simp [ofValue] at h
 | .func (.methodOf _ _) _ _,a,h=>by simp [ofValue] at h
 | .func (.via _ _ _ _) _ _,a,h=>by simp [ofValue] at h
 | .func (.yield _) _ _,a,h=>by simp [ofValue] at h
 | .agg ⟨l⟩,a,h=>by
  simp only [ofValue] at h;cases hx:ofValues l with
  | none=>simp [hx] at h
  | some x=>simp only [hx,Hl] at h;subst h;obtain⟨h1,h2⟩:=vO ι l x hx;simp [u6,o7.lt,h1];exact h2
 | .tuple ⟨[]⟩,a,h=>by simp only [ofValue,Hl] at h;subst h;simp [u6,o7.lt,z8,bB]
 | .tuple ⟨_ :: _⟩,a,h=>by simp [ofValue] at h
 | .float _ _,a,h=>by simp [ofValue] at h
 | .complex _ _ _,a,h=>by simp [ofValue] at h
 | .chan _,a,h=>by simp [ofValue] at h
 | .iface _ _,a,h=>by simp [ofValue] at h
theorem vO (ι:K7):∀(l:List Value) (x:List o7),ofValues l=some x->z8 ι x=l∧∀n,bB n x
 | [],x,h=>by simp only [ofValues,Hl] at h;subst h;simp [z8,bB]
 | v::l,x,h=>by
  simp only [ofValues] at h;cases hv:ofValue v with
  | none=>simp [hv] at h
  | some a=>
   cases hl:ofValues l with
   | none=>simp [hv,hl] at h
   | some y=>simp only [hv,hl,Hl] at h;subst h;obtain⟨h1,h2⟩:=nP ι v a hv;obtain⟨h3,h4⟩:=vO ι l y hl;simp [z8,bB,h1,h3];exact λn=>⟨h2 n,h4 n⟩
end
theorem aeF:∀(n j:Nat) (t:T o7),j+1<2^n->way n j t=(t.get j).getD .undef:=by
 intro n;induction n with
 | zero=>intro j t h;simp at h
 | succ n ih=>
  intro j t h;cases j with
  | zero=>cases t<;>rfl
  | succ j=>
   have a:j / 2+1<2^n:=by rw [alY] at h;omega
   rcases aaG j with h0 | h0;simp only [way,h0];cases t with
   | e=>rfl
   | nd l x r=>rw [T.eD,if_pos h0];exact ih _ l a
   simp only [way,h0];cases t with
   | e=>rfl
   | nd l x r=>rw [T.eD,if_neg (by omega)];exact ih _ r a
theorem aaP (v:o7):∀(n j:Nat) (t:T o7) (x:o7),j+1<2^n->t.get j=some x->vv n j v t=t.put j v:=by
 intro n;induction n with
 | zero=>intro j t x h;simp at h
 | succ n ih=>
  intro j t x h a;cases t with
  | e=>simp at a
  | nd l y r=>
   cases j with
   | zero=>rfl
   | succ j=>have b:j / 2+1<2^n:=(by rw [alY] at h;omega);rw [T.eD] at a;rcases aaG j with h0 | h0;rw [if_pos h0] at a;simp only [vv,h0];rw [T.aD,if_pos h0];show T.nd (vv n (j / 2) v l) y r=_;rw [ih _ l x b a];rw [if_neg (by omega)] at a;simp only [vv,h0];rw [T.aD,if_neg (by omega)];show T.nd l y (vv n (j / 2) v r)=_;rw [ih _ r x b a]
theorem vP {t:Nat}{l:List Nat}{i j:Nat}(h:idxOf t l i=some j):i<=j∧j<i+l.length∧l[j-i]?=some t:=by
 induction l generalizing i with
 | nil=>simp [idxOf] at h
 | cons x l ih=>
  simp only [idxOf] at h;cases hx:Nat.beq x t with
  | true=>simp only [hx,cond_true,Hl] at h;subst h;have:=q9 hx;simp [this]
  | false=>simp only [hx,cond_false] at h;obtain⟨b,c,a⟩:=ih h;refine⟨by omega,by simp;omega,?_⟩;rw [show j-i=(j-(i+1))+1 from by omega];simpa using a
theorem UQ {t u:Nat}{l:List Nat}{i j:Nat}(h:idxOf t l i=some j)(h':idxOf u l i=some j):t=u:=by have a:=(vP h).2.2;have b:=(vP h').2.2;rw [a] at b;exact Y5 b
structure W9 (ι:K7)(n:Nm)(slots:List Nat)(env:T o7)(tmps:Array Value):Prop where
 ok:T.Ok env slots.length
 small:slots.length<2^60
 val:∀t j,idxOf t slots 0=some j->t<tmps.size∧∃v,env.get j=some v∧v.lt n∧tmps.getD t undef=u6 ι v
theorem W9.mono {ι ι':K7}{n b:Nm}{slots:List Nat}{env:T o7}{tmps:Array Value}(h:W9 ι n slots env tmps)
  (hi:∀i,n i->ι' i=ι i) (f:n.le b):W9 ι' b slots env tmps:=
 ⟨h.ok,h.small,λt j g=>by
  obtain⟨c,v,d,a,e⟩:=h.val t j g;exact⟨c,v,d,v.O6 f a,by rw [e,U0 hi v a]⟩⟩
theorem bH (a:Array Value)(i j:Nat)(v:Value)(hi:i<a.size):
  (a.setIfInBounds i v).getD j undef=if i=j then v else a.getD j undef:=by
 rw [J7,J7];by_cases h:i=j;subst h;rw [if_pos rfl,Y6 hi];rfl;rw [if_neg h,Xl h]
theorem W9.put {ι:K7}{n:Nm}{slots:List Nat}{env:T o7}{tmps:Array Value}(h:W9 ι n slots env tmps)(d:Option Tmp){v:o7}(s:v.lt n):
  W9 ι n slots (dS (IL slots d) v env) (match d with | some t=>tmps.setIfInBounds t (u6 ι v) | none=>tmps):=by
 cases d with
 | none=>exact h
 | some t=>
  simp only [IL];cases ht:idxOf t slots 0 with
  | none=>
   refine⟨h.ok,h.small,λu j a=>?_⟩;obtain⟨c,i,f,r,l⟩:=h.val u j a;refine⟨by simpa using c,i,f,r,?_⟩;have g:t≠u:=λe=>by subst e;rw [ht] at a;cases a
   by_cases hts:t<tmps.size;rw [bH _ _ _ _ hts,if_neg g];exact l;rw [show tmps.setIfInBounds t (u6 ι v)=tmps from ahK (adN hts)];exact l
  | some k=>
   obtain⟨c,x,f,_,_⟩:=h.val t k ht;have w:=(vP ht).2.1
   have b:dS (some k) v env=env.put k v:=aaP v 64 k env x (by have:=h.small;have:(2:Nat)^60<2^64:=by decide
                                                              omega) f
   rw [b];refine⟨h.ok.put _ _ (by omega),h.small,λu j a=>?_⟩;obtain⟨m,i,o,p,q⟩:=h.val u j a;refine⟨by simpa using m,?_⟩;rw [bH _ _ _ _ c];by_cases he:t=u;subst he;rw [ht] at a;cases a;exact⟨v,T.bM h.ok _ _ (by omega),s,by simp⟩;refine⟨i,?_,p,by rw [if_neg he];exact q⟩;rw [T.bY h.ok _ _ _ (by omega) (λe=>he (by subst e;exact UQ ht a))];exact o
def U8:P9->Bool
 | .cells .. | .map _ | .iter .. | .loop .. | .deferred | .siter .. | .buf .. | .mapU _=>true
 | _=>false
def exitCode:dG->Code
 | .normal=>.skip
 | .exit id=>.exit id
 | .ret=>.ret
section
variable (P:Program)
structure yT (ι:K7)(n:Nm)(L:Loop)(st:LoopState)(pend:Option dG)(env:T o7)(params:List (Option Nat))(assign body:V8):Prop where
 state:L.state=st
 pending:L.pending=pend.map exitCode
 code:∃slots,W9 ι n slots env L.tmps∧params=L.params.toList.map (λt=>idxOf t slots 0)∧U2 P slots L.assign=some assign∧U2 P slots L.body=some body∧
  ∃nt,nt<=L.tmps.size∧tmpsIn nt L.assign=true∧tmpsIn nt L.body=true
def J5 (ι:K7):List (o7×o7)->Nat->List MapEntry
 | [],_=>[]
 | e::es,i=>{key:=u6 ι e.1,val:=u6 ι e.2,born:=i}::J5 ι es (i+1)
def XG (P:Program)(l:Loc)(e:TypeId)(sz k:Nat)(rows:T (List o7)):Prop:=∀ty,k=1->Fh rows=some ty->e=ty∧l.base=0∧sz=P.cellsOf ty
theorem yU {P:Program}{l:Loc}{e:TypeId}{c k:Nat}{rows:T (List o7)}(h:k=1->rows.get 1=none):XG P l e c k rows:=λd b a=>by unfold Fh at a;rw [h b] at a;cases a
theorem vQ {P:Program}{l:Loc}{e:TypeId}{b k:Nat}{rows:T (List o7)}(h:T.Ok rows k):XG P l e b k rows:=yU λa=>by
 subst a;cases hg:rows.get 1 with
 | none=>rfl
 | some x=>exact absurd ((h.get 1).1 ⟨x,hg⟩) (by omega)
theorem UR {rows:T (List o7)}{N i:Nat}(h:T.Ok rows N)(hi:i<=N)(a:i≠1)(r:List o7):Fh (rows.put i r)=Fh rows:=by unfold Fh;rw [T.bY h _ _ _ hi a]
def UOk (ι:K7)(es:List (o7×o7))(L:List MapEntry):Prop:=
 (L.map λx=>(x.key,x.val)).Perm (es.map λe=>(u6 ι e.1,u6 ι e.2))∧(∀e∈es,∃s,e.1=.str s)∧(es.map (·.1)).Nodup
def dN (ι:K7)(n:Nm)(h:Array Obj)(l:Loc):P9->Prop
 | .void=>True
 | .dead=>True
 | .cells rs k rows=>∃c e fz,h[l.b]?=some (.cells c e fz)∧l.base+l.cap<=c.size∧(k*rs<=l.cap∧∃N,k<=N∧T.Ok rows N∧XG P l e c.size k rows)∧
   ∀i,i<k->∃row,rows.get i=some row∧row.length=rs∧bB n row∧∀j,j<rs->c[l.base+(i*rs+j)]?=(row[j]?).map (u6 ι)
 | .map es=>h[l.b]?=some (.map (J5 ι es 0).toArray es.length)∧∀e∈es,e.1.lt n∧e.2.lt n
 | .iter mp since seen=>l.base=0∧(∀x,mp=some x->n x)∧∃sn st,h[l.b]?=some (.mapIter (mp.map λx=>(ι x).b) since sn st)∧sn.toList.reverse=seen∧(mp≠none->st=since)
 | .tail p=>n p∧(l.cap=0∨(l.b=(ι p).b∧l.base+l.cap<=(ι p).base+(ι p).cap∧((ι p).spot=none->l.spot=none)))
 | .loop st pend env params assign body=>∃L,h[l.b]?=some (.loop L)∧yT P ι n L st pend env params assign body
 | .deferred=>h[l.b]?=some (.deferred (some []))
 | .siter s pos=>l.base=0∧h[l.b]?=some (.stringIter ⟨s.toArray⟩ pos)
 | .buf ty s=>l.base=0∧∃c fz,h[l.b]?=some (.cells c ty fz)∧s.length<=l.cap∧l.cap<=c.size∧∀(j:Nat) (b:UInt8),s[j]?=some b->c[j]?=some (Value.int .u8 (b.toNat:Int))
 | .mapU es=>∃L ck,h[l.b]?=some (.map L.toArray ck)∧UOk ι es L∧∀e∈es,e.1.lt n∧e.2.lt n
structure amN (ι:K7)(m:Mem)(h:Array Obj)(i:Nat):Prop where
 alone:∀j b,j≠i->m.get j=some b->U8 b=true->(ι j).b≠(ι i).b
 free:∀c e fz,h[(ι i).b]?=some (.cells c e fz)->∀k,k<c.size->¬ (fz.1<=k∧k<fz.2)
def dO:P9->Bool
 | .void=>true
 | _=>false
def Mem.has (m:Mem)(i:Nat):Prop:=∃b,m.get i=some b∧dO b=false
def Mem.nm (m:Mem)(ι:K7):Nm:=⟨m.has,λi=>(ι i).cap⟩
theorem Mem.aH {m m':Mem}{ι ι':K7}(h:∀i,m.has i->m'.has i)(hi:∀i,m.has i->ι' i=ι i):(m.nm ι).le (m'.nm ι'):=
 λi a=>⟨h i a,congrArg Loc.cap (hi i a)⟩
def GSz (P:Program)(G:Mem)(h:Array Obj):Prop:=∀i rs k rows,i<P.globals.size->G.get i=some (.cells rs k rows)->∃c e fz,h[i]?=some (.cells c e fz)∧c.size=k*rs
structure RM (G:Mem)(ι:K7)(m:Mem)(h:Array Obj):Prop where
 ok:T.Ok m.t m.nx
 blk:∀i b,m.get i=some b->dN P ι (m.nm ι) h (ι i) b
 own:∀i b,m.lim<=i->m.get i=some b->U8 b=true->amN ι m h i
 glim:G.nx<=m.lim
 limn:m.lim<=m.nx
 gle:P.globals.size<=G.nx
 base:∀i,i<G.nx->m.get i=G.get i
 ghas:∀i,i<P.globals.size->m.has i
 glob:∀i,i<P.globals.size->(ι i).b=i∧(ι i).base=0∧(ι i).spot=none
 spot:∀i b,m.get i=some b->U8 b=true->(ι i).spot=none
 gsz:GSz P G h
end
def Ol (ι:K7)(m:Mem)(b:Nat):Prop:=∃i x,m.lim<=i∧m.get i=some x∧U8 x=true∧(ι i).b=b
theorem RM.Om {P:Program}{G:Mem}{ι:K7}{m:Mem}{h h':Array Obj}(d:RM P G ι m h)(u:∀b,b<h.size->¬ Ol ι m b->h'[b]?=h[b]?):GSz P G h':=by
 intro i r k a g q;obtain⟨c,e,s,p,t⟩:=d.gsz i r k a g q;have l:i<h.size:=(J4.1 p).1;have f:i<G.nx:=J3 g d.gle;have n:m.get i=some (.cells r k a):=(d.base i f).trans q;refine⟨c,e,s,?_,t⟩;rw [u i l];exact p;rintro⟨j,x,hj,hx,hlx,hb⟩;have o:i≠j:=by have:=d.glim;omega
 exact (d.own j x hj hx hlx).alone i _ o n rfl (by rw [(d.glob i g).1,hb])
structure Step (P:Program)(G:Mem)(ι:K7)(m:Mem)(w:World)(ι':K7)(m':Mem)(w':World):Prop where
 rm:RM P G ι' m' w'.heap
 ext:∀i,m.has i->ι' i=ι i
 has:∀i,m.has i->m'.has i
 nx:m.nx<=m'.nx
 lim:m'.lim=m.lim
 old:∀i,i<m.lim->m'.get i=m.get i
 size:w.heap.size<=w'.heap.size
 frame:∀b,b<w.heap.size->¬ Ol ι m b->w'.heap[b]?=w.heap[b]?
 own:∀b,Ol ι' m' b->Ol ι m b∨w.heap.size<=b
 os:w'.os=w.os
 out:w'.output=w.output
 tape:w'.tape=w.tape
theorem Step.refl {P:Program}{G:Mem}{ι:K7}{m:Mem}{w:World}(h:RM P G ι m w.heap):Step P G ι m w ι m w:=
 ⟨h,λ_ _=>rfl,λ_ h=>h,aP _,rfl,λ_ _=>rfl,aP _,λ_ _ _=>rfl,λ_ h=>.inl h,rfl,rfl,rfl⟩
theorem Step.drew {P:Program}{G:Mem}{ι:K7}{m:Mem}{w:World}(h:RM P G ι m w.heap)(n:Nat):Step P G ι m w ι m {w with drawn:=n}:=
 ⟨h,λ_ _=>rfl,λ_ h=>h,aP _,rfl,λ_ _=>rfl,aP _,λ_ _ _=>rfl,λ_ h=>.inl h,rfl,rfl,rfl⟩
theorem Step.trans {P:Program}{G:Mem}{c d e:K7}{f g j:Mem}{k l m:World}(a:Step P G c f k d g l)(b:Step P G d g l e j m):
  Step P G c f k e j m where
 rm:=b.rm
 ext i hi:=(b.ext i (a.has i hi)).trans (a.ext i hi)
 has i hi:=b.has i (a.has i hi)
 nx:=gI a.nx b.nx
 lim:=b.lim.trans a.lim
 old i hi:=(b.old i (by rw [a.lim];exact hi)).trans (a.old i hi)
 size:=gI a.size b.size
 frame x hx ho:=by refine (b.frame x (J3 hx a.size) λh=>?_).trans (a.frame x hx ho);rcases a.own x h with h | h;exact ho h;omega
 own x h:=by rcases b.own x h with h | h;exact a.own x h;exact .inr (gI a.size h)
 os:=b.os.trans a.os
 out:=b.out.trans a.out
 tape:=b.tape.trans a.tape
theorem Step.u6 {P:Program}{G:Mem}{ι ι':K7}{m m':Mem}{w w':World}(a:Step P G ι m w ι' m' w'){v:o7}(h:v.lt (m.nm ι)):AM.u6 ι' v=AM.u6 ι v:=
 U0 (n:=m.nm ι) a.ext v h
theorem Step.env {P:Program}{G:Mem}{ι ι':K7}{m m':Mem}{w w':World}(a:Step P G ι m w ι' m' w'){slots:List Nat}{env:T o7}{tmps:Array Value}
  (h:W9 ι (m.nm ι) slots env tmps):W9 ι' (m'.nm ι') slots env tmps:=h.mono (n:=m.nm ι) a.ext (Mem.aH a.has a.ext)
theorem yT.mono {P:Program}{ι ι':K7}{n e:Nm}{L:Loop}{f:LoopState}{c:Option dG}{env:T o7}{b:List (Option Nat)}{a body:V8}
  (h:yT P ι n L f c env b a body) (hi:∀i,n i->ι' i=ι i) (m:n.le e):yT P ι' e L f c env b a body:=by
 obtain⟨g,j,d,k,l⟩:=h;exact⟨g,j,d,k.mono hi m,l⟩
theorem yB {ι ι':K7}{n:Nm}(hi:∀i,n i->ι' i=ι i):∀(es:List (o7×o7)) (i:Nat),(∀e∈es,e.1.lt n∧e.2.lt n)->J5 ι' es i=J5 ι es i
 | [],_,_=>rfl
 | e::es,i,h=>by simp only [J5];rw [U0 hi _ (h e (by simp)).1,U0 hi _ (h e (by simp)).2,yB hi es (i+1) (λe he=>h e (by simp [he]))]
@[simp] theorem FK (ι:K7):∀(es:List (o7×o7)) (i:Nat),(J5 ι es i).length=es.length
 | [],_=>rfl
 | e::es,i=>by simp [J5,FK ι es]
theorem mW (ι:K7):∀(es:List (o7×o7)) (i j:Nat),(J5 ι es i)[j]?=(es[j]?).map λe=>{key:=u6 ι e.1,val:=u6 ι e.2,born:=i+j}
 | [],_,_=>by simp [J5]
 | e::es,i,0=>by simp [J5]
 | e::es,i,j+1=>by simp [J5,mW ι es,show i+1+j=i+(j+1) from by omega]
theorem dN.mono {P:Program}{ι ι':K7}{n z:Nm}{h h':Array Obj}{l:Loc}{b:P9}(hb:dN P ι n h l b)
  (hi:∀i,n i->ι' i=ι i) (m:n.le z) (g:U8 b=true->h'[l.b]?=h[l.b]?):dN P ι' z h' l b:=by
 cases b with
 | void=>trivial
 | dead=>trivial
 | cells rs k rows=>
  obtain⟨c,e,u,a,d,q,r⟩:=hb;refine⟨c,e,u,by rw [g rfl];exact a,d,q,λi G=>?_⟩;obtain⟨o,C,D,y,E⟩:=r i G;refine⟨o,C,D,eF m o y,λj F=>?_⟩;rw [E j F];cases hr:o[j]? with
  | none=>rfl
  | some v=>simp [U0 hi v (dR.1 y v (Xb hr))]
 | map es=>obtain⟨a,d⟩:=hb;refine⟨?_,λe f=>⟨e.1.O6 m (d e f).1,e.2.O6 m (d e f).2⟩⟩;rw [g rfl,a,yB hi es 0 d]
 | iter mp since seen=>
  obtain⟨w,a,I,A,d,q,r⟩:=hb;refine⟨w,λx H=>(m x (a x H)).1,I,A,?_,q,r⟩;rw [g rfl,d];cases mp with
  | none=>rfl
  | some x=>simp [hi x (a x rfl)]
 | tail p=>obtain⟨a,d⟩:=hb;exact⟨(m p a).1,by rw [hi p a];exact d⟩
 | loop A pend env params assign body=>obtain⟨L,a,d⟩:=hb;exact⟨L,by rw [g rfl];exact a,d.mono hi m⟩
 | deferred=>exact (g rfl).trans hb
 | siter s pos=>exact⟨hb.1,(g rfl).trans hb.2⟩
 | buf ty s=>obtain⟨w,c,u,a,d⟩:=hb;exact⟨w,c,u,(g rfl).trans a,d⟩
 | mapU es=>
  obtain⟨L,B,a,⟨d,q,r⟩,t⟩:=hb;refine⟨L,B,(g rfl).trans a,⟨?_,q,r⟩,λe f=>⟨e.1.O6 m (t e f).1,e.2.O6 m (t e f).2⟩⟩;have:es.map (λe=>(u6 ι' e.1,u6 ι' e.2))=es.map λe=>(u6 ι e.1,u6 ι e.2):=aiZ λe f=>by rw [U0 hi _ (t e f).1,U0 hi _ (t e f).2]
  rw [this];exact d
theorem Mem.K6 {m:Mem}(h:T.Ok m.t m.nx)(b:P9)(i:Nat):(m.new b).get i=if i=m.nx then some b else m.get i:=by show (m.t.put m.nx b).get i=_;split;rename_i e;subst e;exact T.bM h _ _ (aP _);rename_i e;exact T.bY h _ _ _ (aP _) (λh=>e h.symm)
theorem Mem.aB {m:Mem}(h:T.Ok m.t m.nx){j:Nat}(a:j<m.nx)(b:P9)(i:Nat):(m.set j b).get i=if i=j then some b else m.get i:=by show (m.t.put j b).get i=_;split;rename_i e;subst e;exact T.bM h _ _ (ahs a);rename_i e;exact T.bY h _ _ _ (ahs a) (λh=>e h.symm)
theorem Mem.I8 {m:Mem}(h:T.Ok m.t m.nx){i:Nat}{b:P9}(hi:m.get i=some b):i<m.nx:=(h.get i).1 ⟨b,hi⟩
@[simp] theorem Mem.Oo (m:Mem)(b:P9):(m.new b).nx=m.nx+1:=rfl
@[simp] theorem Mem.aaQ (m:Mem)(b:P9):(m.new b).lim=m.lim:=rfl
@[simp] theorem Mem.ai0 (m:Mem)(i:Nat)(b:P9):(m.set i b).nx=m.nx:=rfl
@[simp] theorem Mem.al8 (m:Mem)(i:Nat)(b:P9):(m.set i b).lim=m.lim:=rfl
def K7.upd (ι:K7)(i:Nat)(l:Loc):K7:=λj=>if j=i then l else ι j
@[simp] theorem K7.U3 (ι:K7)(i:Nat)(l:Loc):ι.upd i l i=l:=by simp [K7.upd]
theorem K7.upd_ne (ι:K7){i j:Nat}(l:Loc)(h:j≠i):ι.upd i l j=ι j:=by simp [K7.upd,h]
theorem eG {P:Program}{ι:K7}{n:Nm}{h:Array Obj}{l:Loc}{b:P9}(hb:dN P ι n h l b)(d:U8 b=true):l.b<h.size:=by
 cases b with
 | void=>cases d
 | dead=>cases d
 | tail=>cases d
 | cells rs k rows=>obtain⟨c,e,f,a,_⟩:=hb;exact (J4.1 a).1
 | map es=>obtain⟨a,_⟩:=hb;exact (J4.1 a).1
 | iter mp since seen=>obtain⟨_,_,i,j,a,_⟩:=hb;exact (J4.1 a).1
 | loop=>obtain⟨L,a,_⟩:=hb;exact (J4.1 a).1
 | deferred=>exact (J4.1 hb).1
 | siter s pos=>exact (J4.1 hb.2).1
 | buf ty s=>obtain⟨_,c,f,a,_⟩:=hb;exact (J4.1 a).1
 | mapU es=>obtain⟨L,g,a,_⟩:=hb;exact (J4.1 a).1
structure Laid (m m':Mem)(nid:Nat)(b:P9):Prop where
 ok:T.Ok m'.t m'.nx
 get:∀i,m'.get i=if i=nid then some b else m.get i
 lim:m'.lim=m.lim
 nx:m.nx<=m'.nx
 le:m.lim<=nid
 free:¬ m.has nid
 live:dO b=false
theorem Laid.new {m:Mem}(h:T.Ok m.t m.nx)(a:m.lim<=m.nx)(b:P9)(hb:dO b=false):Laid m (m.new b) m.nx b:=
 ⟨h.push b,Mem.K6 h b,rfl,amj _,a,λ⟨_,h1,_⟩=>afw _ (Mem.I8 h h1),hb⟩
theorem Laid.set {m:Mem}(h:T.Ok m.t m.nx){i:Nat}(hi:m.get i=some .void)(a:m.lim<=i)(b:P9)(hb:dO b=false):Laid m (m.set i b) i b:=
 ⟨h.put i b (Mem.I8 h hi),Mem.aB h (Mem.I8 h hi) b,rfl,aP _,a,λ⟨_,h1,h2⟩=>(by rw [hi] at h1;cases h1;cases h2),hb⟩
theorem Laid.has {m m':Mem}{nid:Nat}{b:P9}(h:Laid m m' nid b)(i:Nat)(hi:m.has i):m'.has i:=by have a:i≠nid:=λe=>h.free (e▸hi);obtain⟨x,c,d⟩:=hi;exact⟨x,by rw [h.get,if_neg a];exact c,d⟩
theorem Laid.self {m m':Mem}{nid:Nat}{b:P9}(h:Laid m m' nid b):m'.has nid:=⟨b,by rw [h.get,if_pos rfl],h.live⟩
theorem rO {m:Mem}{i:Nat}{b:P9}(h:m.get i=some b)(a:U8 b=true):m.has i:=⟨b,h,by cases b<;>first | rfl | cases a⟩
structure XH (w w':World)(o:Obj):Prop where
 heap:w'.heap=w.heap.push o
 os:w'.os=w.os
 out:w'.output=w.output
 tape:w'.tape=w.tape
theorem Step.lay {P:Program}{G:Mem}{ι:K7}{m m':Mem}{w w':World}(h:RM P G ι m w.heap){nid:Nat}{b:P9}(a:Laid m m' nid b){o:Obj}(v:XH w w' o){l:Loc}
  (C:l.b=w.heap.size) (hs:l.spot=none)
  (hb:dN P (ι.upd nid l) (m'.nm (ι.upd nid l)) (w.heap.push o) l b)
  (I:∀c e fz,o=.cells c e fz->∀k,k<c.size->¬ (fz.1<=k∧k<fz.2)):
  Step P G ι m w (ι.upd nid l) m' w':=by
 have r:∀i x,m.get i=some x->U8 x=true->(ι i).b<w.heap.size:=λi x f d=>eG (h.blk i x f) d;have g:∀k,k<w.heap.size->w'.heap[k]?=w.heap[k]?:=λk B=>by rw [v.heap];exact ahM B |>.trans (aav B).symm
 have p:∀j,m.has j->ι.upd nid l j=ι j:=λj A=>ι.upd_ne l λe=>a.free (e▸A);refine⟨⟨a.ok,?_,?_,by rw [a.lim];exact h.glim,by rw [a.lim];exact gI h.limn a.nx,h.gle,λi q=>by rw [a.get,if_neg (by have:=a.le;have:=h.glim;omega)];exact h.base i q,λi q=>a.has i (h.ghas i q),?_,?_,h.Om λk B _=>g k B⟩,p,a.has,a.nx,a.lim,?_,by rw [v.heap];simp,?_,?_,v.os,v.out,v.tape⟩;intro i x f;rw [a.get] at f;split at f;rename_i e;subst e;cases f;rw [v.heap];simpa using hb;rename_i e;rw [ι.upd_ne l e];exact (h.blk i x f).mono (n:=m.nm ι) p (Mem.aH a.has p) (λd=>g _ (r i x f d));intro i x q f d;rw [a.lim] at q;rw [a.get] at f;split at f;rename_i e;subst e;cases f;refine⟨λj y A z u=>?_,λc e fz t=>?_⟩;rw [a.get,if_neg A] at z;rw [ι.upd_ne l A,ι.U3,C];have:=r j y z u;omega;rw [ι.U3,C,v.heap] at t;simp at t;exact I c e fz t;rename_i e;have F:=h.own i x q f d;have s:=r i x f d;refine⟨λj y A z u=>?_,λc H fz t=>?_⟩;rw [ι.upd_ne l e];rw [a.get] at z;split at z;rename_i D;subst D;cases z;rw [ι.U3,C];omega;rename_i D;rw [ι.upd_ne l D];exact F.alone j y A z u;rw [ι.upd_ne l e] at t;rw [g _ s] at t;exact F.free c H fz t;intro i q;rw [p i (h.ghas i q)];exact h.glob i q;intro i x f d;rw [a.get] at f;split at f;rename_i e;subst e;rw [ι.U3];exact hs;rename_i e;rw [ι.upd_ne l e];exact h.spot i x f d;intro i q;rw [a.get,if_neg (by have:=a.le;omega)];intro E s _;exact g E s;rintro E ⟨i,x,q,f,d,rfl⟩;rw [a.lim] at q;rw [a.get] at f;split at f;rename_i e;subst e;right;rw [ι.U3,C];exact aP _;rename_i e;left;rw [ι.upd_ne l e];exact⟨i,x,q,f,d,rfl⟩
theorem Step.name {P:Program}{G:Mem}{ι:K7}{m m':Mem}{w:World}(h:RM P G ι m w.heap){nid:Nat}{b:P9}(d:Laid m m' nid b)(C:U8 b=false){l:Loc}
  (hb:dN P (ι.upd nid l) (m'.nm (ι.upd nid l)) w.heap l b):Step P G ι m w (ι.upd nid l) m' w:=by
 have g:∀j,m.has j->ι.upd nid l j=ι j:=λj s=>ι.upd_ne l λe=>d.free (e▸s);have o:∀i x,m'.get i=some x->U8 x=true->i≠nid∧m.get i=some x:=λi x f a=>by rw [d.get] at f;split at f;cases f;rw [C] at a;cases a;exact⟨by assumption,f⟩
 refine⟨⟨d.ok,?_,?_,by rw [d.lim];exact h.glim,by rw [d.lim];exact gI h.limn d.nx,h.gle,λi k=>by rw [d.get,if_neg (by have:=d.le;have:=h.glim;omega)];exact h.base i k,λi k=>d.has i (h.ghas i k),?_,?_,h.gsz⟩,g,d.has,d.nx,d.lim,?_,aP _,λ_ _ _=>rfl,?_,rfl,rfl,rfl⟩;intro i x f;rw [d.get] at f;split at f;rename_i e;subst e;cases f;simpa using hb;rename_i e;rw [ι.upd_ne l e];exact (h.blk i x f).mono (n:=m.nm ι) g (Mem.aH d.has g) (λ_=>rfl);intro i x k f a;rw [d.lim] at k;obtain⟨p,q⟩:=o i x f a;have u:=h.own i x k q a;refine⟨λj y s D r=>?_,λc v z t=>?_⟩;obtain⟨A,B⟩:=o j y D r;rw [ι.upd_ne l p,ι.upd_ne l A];exact u.alone j y s B r;rw [ι.upd_ne l p] at t;exact u.free c v z t;intro i k;rw [g i (h.ghas i k)];exact h.glob i k;intro i x f a;obtain⟨p,q⟩:=o i x f a;rw [ι.upd_ne l p];exact h.spot i x q a;intro i k;rw [d.get,if_neg (by have:=d.le;omega)];rintro b' ⟨i,x,k,f,a,rfl⟩;rw [d.lim] at k;obtain⟨p,q⟩:=o i x f a;rw [ι.upd_ne l p];exact .inl ⟨i,x,k,q,a,rfl⟩
def amO (ι:K7)(n:Nm)(done:List (Option Nat))(ls:List o7)(tmps:Array Value):Prop:=
 ∀t k,jw t done 0=some k->∃v,ls[k]?=some v∧v.lt n∧tmps.getD t undef=u6 ι v
structure St (P:Program)(ι:K7)(n:Nm)(slots:List Nat)(done:List (Option Nat))(ls:List o7)(env:T o7)(tmps:Array Value):Prop where
 ls:amO ι n done ls tmps
 env:W9 ι n slots env tmps
 glob:∀i,i<P.globals.size->(ι i).b=i∧(ι i).base=0∧(ι i).spot=none
 gn:∀g,g<P.globals.size->n g
section
variable {P:Program}{G:Mem}{ι:K7}{n:Nm}{slots:List Nat}{done:List (Option Nat)}{ls:List o7}{env:T o7}{a:Act}
theorem FL (k:Nat):∀(ls:List o7) (env:T o7),G9 (.loc k) ls env=ls[k]?.getD .undef:=by
 intro ls env;match k with
 | 0=>cases ls<;>rfl
 | 1=>match ls with | [] | [_] | _ :: _ :: _=>rfl
 | 2=>match ls with | [] | [_] | [_,_] | _ :: _ :: _ :: _=>rfl
 | 3=>match ls with | [] | [_] | [_,_] | [_,_,_] | _ :: _ :: _ :: _ :: _=>rfl
 | k+4=>show nth (k+4) ls=_;exact XF _ _
theorem XI (j:Nat)(h:j<2^60)(ls:List o7)(env:T o7):G9 (.slot j) ls env=(env.get j).getD .undef:=by
 show way 64 j env=_
 exact aeF 64 j env (by have:(2:Nat)^60+1<2^64:=by decide
                        omega)
theorem A9 (s:St P ι n slots done ls env a.tmps){x:Operand}{o:Q8}(h:N8 P slots done x=some o):
  a.eval x=u6 ι (G9 o ls env)∧(G9 o ls env).lt n:=by
 cases x with
 | tmp t=>
  simp only [N8] at h;cases hk:jw t done 0 with
  | some k=>simp only [hk,Hl] at h;subst h;obtain⟨v,b,d,e⟩:=s.ls t k hk;rw [FL,b];exact⟨e,d⟩
  | none=>
   simp only [hk] at h;cases hj:idxOf t slots 0 with
   | none=>simp [hj] at h
   | some j=>simp only [hj,Hl] at h;subst h;obtain⟨_,v,b,d,e⟩:=s.env.val t j hj;rw [XI j (by have:=(vP hj).2.1;have:=s.env.small;omega),b];exact⟨e,d⟩
 | const v=>
  simp only [N8] at h;cases hv:ofValue v with
  | none=>simp [hv] at h
  | some c=>simp only [hv,Hl] at h;subst h;obtain⟨b,d⟩:=nP ι v c hv;exact⟨b.symm,d n⟩
 | global g=>simp only [N8] at h;split at h;rename_i i;cases h;obtain⟨b,d,e⟩:=s.glob g i;refine⟨?_,?_⟩;show Value.pointer (some ⟨g,0,none⟩)=.pointer (some (ι.at g 0));rw [K7.zX e,b,d];exact s.gn g i;cases h
 | func f=>simp only [N8,Hl] at h;subst h;exact⟨by simp [Act.eval,G9,G6,u6,jR,z8],by simp [G9,G6,o7.lt,aaO,bB]⟩
theorem lT (s:St P ι n slots done ls env a.tmps):∀{l:List Operand} {os:List Q8},jY P slots done l=some os->
  l.map a.eval=z8 ι (evs (gY os) ls env)∧bB n (evs (gY os) ls env)
 | [],os,h=>by simp only [jY,Hl] at h;subst h;simp [gY,evs,z8,bB]
 | x::l,os,h=>by
  simp only [jY] at h;cases hx:N8 P slots done x with
  | none=>simp [hx] at h
  | some o=>
   cases hl:jY P slots done l with
   | none=>simp [hx,hl] at h
   | some r=>simp only [hx,hl,Hl] at h;subst h;obtain⟨h1,h2⟩:=A9 s hx;obtain⟨h3,h4⟩:=lT s hl;refine⟨?_,?_⟩;show a.eval x::l.map a.eval=u6 ι (G9 o ls env)::z8 ι (evs (gY r) ls env);rw [h1,h3];exact⟨h2,h4⟩
end
section
variable {P:Program}{G:Mem}{w:World}
theorem run_underlying {t:TypeId}{d:TypeDesc}(h:P.underlying t=some d):(underlying t).run P w=.ok d w:=by simp [underlying,h]
theorem run_sizeOf {t:TypeId}{k:Nat}(h:aY P t=some k):(sizeOf t).run P w=.ok k w:=by simp only [aY,abr] at h;obtain⟨i,a,b⟩:=h;simp [sizeOf,typeInfo,a,b]
theorem xD {t:TypeId}{k:Nat}(h:gZ P t=some k):∃i,(typeInfo t).run P w=.ok i w∧i.bytes=k:=by simp only [gZ,abr] at h;obtain⟨i,a,b⟩:=h;exact⟨i,by simp [typeInfo,a],b⟩
theorem rP {t:TypeId}{b:Bool}(h:yg P t=some b):(isAgg t).run P w=.ok b w:=by
 simp only [yg] at h;cases hu:P.underlying t with
 | none=>simp [hu] at h
 | some d=>simp only [isAgg,J8,run_underlying hu,J2];cases d<;>simp_all
theorem FM {t:TypeId}{s:Option Nat}(h:partT P t=some s):(s=none∧yg P t=some false∧∃k,aY P t=some k)∨(∃k,s=some k∧yg P t=some true∧aY P t=some k):=by simp only [partT] at h;split at h;rename_i k a b;cases h;exact .inr ⟨k,rfl,a,b⟩;rename_i k a b;cases h;exact .inl ⟨rfl,a,k,b⟩;cases h
theorem dZ {t:TypeId}{z:List o7}(h:rM P t=some z)(ι:K7):∃v,(zeroValue t).run P w=.ok v w∧v.cells=(z8 ι z).toArray∧∀n,bB n z:=by
 simp only [rM] at h;cases hi:P.info? t with
 | none=>simp [hi] at h
 | some i=>
  cases hz:i.zero with
  | none=>simp [hi,hz] at h
  | some v=>
   cases ha:ofValue v with
   | none=>simp [hi,hz,ha] at h
   | some a=>simp only [hi,hz,ha,adQ,Hl] at h;subst h;obtain⟨b,c⟩:=nP ι v a ha;exact⟨v,by simp [zeroValue,typeInfo,hi,hz],by rw [← b,lS],λn=>vN (c n)⟩
theorem ou {t:TypeId}{z:o7}(h:zeroV P t=some z)(ι:K7):(zeroValue t).run P w=.ok (u6 ι z) w∧∀n,z.lt n:=by
 simp only [zeroV] at h;cases hi:P.info? t with
 | none=>simp [hi] at h
 | some i=>
  cases hz:i.zero with
  | none=>simp [hi,hz] at h
  | some v=>simp only [hi,hz,adQ] at h;obtain⟨a,b⟩:=nP ι v z h;exact⟨by simp [zeroValue,typeInfo,hi,hz,a],b⟩
end
theorem zY (n:Int)(h:-9223372036854775808<=n∧n<9223372036854775808):IntKind.i64.wrap n=n:=by
 have a:((2:Int)^IntKind.i64.bits)=18446744073709551616:=rfl;have b:((2:Int)^(IntKind.i64.bits-1))=9223372036854775808:=rfl;unfold IntKind.wrap;rw [a,b];show (if (true&&decide (n%18446744073709551616≥9223372036854775808))=true then n%18446744073709551616-18446744073709551616 else n%18446744073709551616)=n;obtain⟨c,d⟩:=h;by_cases hn:0<=n;have:n%18446744073709551616=n:=Int.emod_eq_of_lt hn (by omega);rw [this,if_neg (by simp only [aeb,decide_eq_true_eq];omega)];have:n%18446744073709551616=n+18446744073709551616:=by rw [← Int.add_emod_right];exact Int.emod_eq_of_lt (by omega) (by omega)
 rw [this,if_pos (by simp only [aeb,decide_eq_true_eq];omega)];omega
theorem aeG (n:Int):rz n=IntKind.i64.wrap n:=by
 cases n with
 | ofNat m=>
  simp only [rz];cases h:Nat.blt m 9223372036854775808 with
  | true=>
   have:m<9223372036854775808:=(Eq.mp Y3 h)
   have a:=zY (Int.ofNat m) ⟨by have:(0:Int)<=Int.ofNat m:=Int.natCast_nonneg m
                                omega,by have:Int.ofNat m=(m:Int):=rfl
                                         omega⟩
   exact (Q9 _ _).trans a.symm
  | false=>exact U5 _ _
 | negSucc m=>
  simp only [rz];cases h:Nat.blt m 9223372036854775808 with
  | true=>have:m<9223372036854775808:=(Eq.mp Y3 h);have e:=ahF m;have a:=zY (Int.negSucc m) ⟨by omega,by omega⟩;exact (Q9 _ _).trans a.symm
  | false=>exact U5 _ _
theorem vR (k:IntKind)(n:Int):vB k n=k.wrap n:=by cases k<;>first | exact aeG n | rfl
theorem iR (a b:Int):bJ a b=(a==b):=by
 cases a with
 | ofNat a=>
  cases b with
  | ofNat b=>show Nat.beq a b=_;by_cases h:a=b;subst h;simp [aaz];rw [show Nat.beq a b=false from aa4.2 λe=>h (q9 e)];exact (beq_eq_false_iff_ne.2 (λe=>h (Int.ofNat.inj e))).symm
  | negSucc b=>exact (beq_eq_false_iff_ne.2 (λe=>by cases e)).symm
 | negSucc a=>
  cases b with
  | ofNat b=>exact (beq_eq_false_iff_ne.2 (λe=>by cases e)).symm
  | negSucc b=>show Nat.beq a b=_;by_cases h:a=b;subst h;simp [aaz];rw [show Nat.beq a b=false from aa4.2 λe=>h (q9 e)];exact (beq_eq_false_iff_ne.2 (λe=>h (Int.negSucc.inj e))).symm
theorem blt_eq (a b:Nat):Nat.blt a b=decide (a<b):=by by_cases h:a<b;rw [decide_eq_true h];exact (Eq.mpr Y3 h);rw [decide_eq_false h];exact aa4.2 λe=>h (Eq.mp Y3 e)
theorem kK (a b:Int):uE a b=decide (a<b):=by
 cases a with
 | ofNat a=>
  cases b with
  | ofNat b=>exact (blt_eq a b).trans (decide_eq_decide.2 (by show a<b↔(a:Int)<(b:Int);omega))
  | negSucc b=>exact (decide_eq_false (by rw [ahF];show ¬ (a:Int) < _;omega)).symm
 | negSucc a=>
  cases b with
  | ofNat b=>exact (decide_eq_true (by rw [ahF];show _<(b:Int);omega)).symm
  | negSucc b=>exact (blt_eq b a).trans (decide_eq_decide.2 (by rw [ahF,ahF];omega))
theorem Rm (a b:IntKind):kEq a b=decide (a=b):=by cases a<;>cases b<;>rfl
theorem iT:∀a b:List UInt8,strEq a b=(a==b)
 | [],[]=>rfl
 | [],_ :: _=>rfl
 | _ :: _,[]=>rfl
 | x::a,y::b=>by
  show bi (Nat.beq x.toNat y.toNat) (strEq a b) false=_;rw [iT a b];by_cases h:x=y;subst h;simp [aaz];have:Nat.beq x.toNat y.toNat=false:=by rw [aa4];intro e;exact h (adT.1 (q9 e))
  rw [this];simp [h]
theorem FN:∀a b:List UInt8,sU a b=Op.bytesLess a b
 | _,[]=>by cases ‹List UInt8› <;> rfl
 | [],_ :: _=>rfl
 | x::a,y::b=>by simp [sU,Op.bytesLess,FN a b]
theorem K7.oP (ι:K7)(i o k:Nat):(ι.at i o).add k=ι.at i (o+k):=by
 unfold Addr.add K7.at
 split;rename_i h;subst h;rfl;rename_i h;have:¬ (o+k=0):=by omega
 simp [afp,this];intro _ a;exact absurd a h
section
variable {β:Type}{v:o7}{r:β}
theorem fG {k:Nat->Nat->Option β}(h:iM v k=some r):∃i o,v=.ptr i o∧k i o=some r:=by cases v<;>first | exact⟨_,_,rfl,h⟩ | (simp [iM] at h)
theorem kL {k:IntKind->Int->Option β}(h:sS v k=some r):∃i n,v=.int i n∧k i n=some r:=by cases v<;>first | exact⟨_,_,rfl,h⟩ | (simp [sS] at h)
theorem rQ {k:Bool->Option β}(h:oH v k=some r):∃b,v=.bool b∧k b=some r:=by cases v<;>first | exact⟨_,rfl,h⟩ | (simp [oH] at h)
theorem jg {k:List UInt8->Option β}(h:mO v k=some r):∃s,v=.str s∧k s=some r:=by cases v<;>first | exact⟨_,rfl,h⟩ | (simp [mO] at h)
theorem fH {k:List o7->Option β}(h:vg v k=some r):∃l,v=.agg l∧k l=some r:=by cases v<;>first | exact⟨_,rfl,h⟩ | (simp [vg] at h)
theorem aaR {k:List o7->Option β}(h:NS v k=some r):∃l,v=.tuple l∧k l=some r:=by cases v<;>first | exact⟨_,rfl,h⟩ | (simp [NS] at h)
theorem xE {a:Option β}{k:Nat->Option β}(h:vk v a k=some r):(v=.nilMap∧a=some r)∨∃i,v=.map i∧k i=some r:=by cases v<;>first | exact .inl ⟨rfl,h⟩ | exact .inr ⟨_,rfl,h⟩ | (simp [vk] at h)
theorem tJ {e:Option β}{k u:Nat->Nat->Nat->Nat->Option β}(h:lG v e k u=some r):
  (v=.nilSlice∧e=some r)∨(∃a b c d,v=.slice a b c d∧k a b c d=some r)∨∃a b c d,v=.sliceU a b c d∧u a b c d=some r:=by
 cases v<;>first | exact .inl ⟨rfl,h⟩ | exact .inr (.inl ⟨_,_,_,_,rfl,h⟩) | exact .inr (.inr ⟨_,_,_,_,rfl,h⟩) | (simp [lG] at h)
theorem Ll {k:Fn->List o7->List o7->Option β}(h:NT v k=some r):∃f a b,v=.func f a b∧k f a b=some r:=by cases v<;>first | exact⟨_,_,_,rfl,h⟩ | (simp [NT] at h)
theorem aaS {n:Int}{k:Nat->Option β}(h:NU n k=some r):∃m:Nat,n=(m:Int)∧k m=some r:=by
 cases n with
 | ofNat m=>exact⟨m,rfl,h⟩
 | negSucc m=>simp [NU] at h
theorem gT {k:Nat->Option β}(h:jC v k=some r):∃i,∃m:Nat,v=.int i (m:Int)∧k m=some r:=by obtain⟨i,n,rfl,h⟩:=kL h;obtain⟨m,rfl,h⟩:=aaS h;exact⟨i,m,rfl,h⟩
theorem idx_eq {len:Nat}{k:Nat->Option β}(h:idx len v k=some r):∃i,∃m:Nat,v=.int i (m:Int)∧m<len∧k m=some r:=by obtain⟨i,m,rfl,h⟩:=gT h;obtain⟨a,b⟩:=D8 h;exact⟨i,m,rfl,Eq.mp Y3 a,b⟩
end
section
variable {P:Program}{G:Mem}{ι:K7}{n:Nm}
theorem tK {c:BinOp}{t:TypeId}{x y:Operand}{a b:Value}{w:World}
  (h:∀p q,a≠.agg p∨b≠.agg q) (h':a≠.nilIface∨b≠.nilIface∨yA x=true∨yA y=true):(eqGuard c t x y a b).run P w=.ok () w:=by
 unfold eqGuard;cases c<;>simp<;>(
  split;rename_i d e;rcases h' with h' | h' | h' | h';exact absurd rfl h';exact absurd rfl h';cases x<;>simp_all [yA]
  cases y<;>simp_all [yA]
  rename_i p q;rcases h p q with h | h<;>exact absurd rfl h
  rfl)
theorem Lm {c:BinOp}(e:c≠.shl)(f:c≠.shr){k:IntKind}{a b:Int}{v:o7}(h:KX c k a b=some v)(t:TypeId)(w:World):
  (binOp c t (.int k a) (.int k b)).run P w=.ok (u6 ι v) w∧v.lt n:=by
 cases c<;>first
  | exact absurd rfl e
  | exact absurd rfl f
  | (simp only [KX,cO,KU,aaD,iO,NI,KV,QX,NJ,WU,ahU,iOr,ahV,Tg,Hl] at h
     subst h;simp [binOp,Op.intArith,Op.intCmp,Op.intBits,u6,o7.lt,vR,iR,kK,zR,bne]
     done)
  | (simp only [KX,Xi,ahT,aeu] at h
     have d:b≠0:=(by rintro rfl;simp at h);split at h;exact absurd rfl d;cases h;simp [binOp,Op.intDiv,d,u6,o7.lt,vR])
  | (simp only [KX,QX,WU,Hl] at h
     subst h;simp [binOp,Op.intCmp,u6,o7.lt,kK];rw [aaH];simp)
theorem oQ (s:List UInt8):(⟨s.toArray⟩:ByteArray).size=s.length:=by simp [ByteArray.size]
theorem Lr {c:BinOp}{a b:List UInt8}{v:o7}(h:KY c a b=some v)(t:TypeId)(w:World):
  (binOp c t (.string ⟨a.toArray⟩) (.string ⟨b.toArray⟩)).run P w=.ok (u6 ι v) w∧v.lt n:=by
 cases c<;>first
  | (simp only [KY,vC] at h;cases h;done)
  | (simp only [KY,iP,NK,NM,UK,NV,sGe,Hl] at h
     subst h;simp [binOp,Op.stringOp,u6,o7.lt,iT,FN]
     done)
  | (simp only [KY,Q0] at h
     obtain⟨d,e⟩:=D8 h;cases e;have f:len' a+len' b<9223372036854775808:=Eq.mp Y3 d;simp only [I9] at f;simp [binOp,Op.stringOp,oQ,u6,o7.lt];rw [if_neg (by omega)];congr 3)
theorem tL {c:BinOp}(e:c≠.shl)(f:c≠.shr){x y v:o7}(h:Ef (KX c) (KY c) x y=some v)(t:TypeId)(w:World):
  (binOp c t (u6 ι x) (u6 ι y)).run P w=.ok (u6 ι v) w∧v.lt n:=by
 cases x<;>try (simp [Ef] at h;done)
 rename_i k a;simp only [Ef] at h;obtain⟨i,b,rfl,h⟩:=kL h;obtain⟨d,g⟩:=D8 h;rw [Rm,decide_eq_true_eq] at d;subst d;exact Lm e f g t w;rename_i a;simp only [Ef] at h;obtain⟨b,rfl,h⟩:=jg h;exact Lr h t w
theorem UU {b:BinOp}{x y v:o7}(h:Ef (KX b) (KY b) x y=some v):
  (∃k a,x=.int k a)∨∃a,x=.str a:=by
 cases x<;>first | exact .inl ⟨_,_,rfl⟩ | exact .inr ⟨_,rfl⟩ | (simp [Ef] at h;done)
theorem Jw {x y v:o7}(h:aaE x y=some v)(t:TypeId)(w:World):(binOp .shl t (u6 ι x) (u6 ι y)).run P w=.ok (u6 ι v) w∧v.lt n:=by simp only [aaE] at h;obtain⟨k,a,rfl,h⟩:=kL h;obtain⟨i,m,rfl,h⟩:=gT h;cases h;simp [binOp,Op.shift,u6,o7.lt,vR,show ¬ ((m:Int)<0) from by omega]
theorem Jy {x y v:o7}(h:aaF x y=some v)(t:TypeId)(w:World):(binOp .shr t (u6 ι x) (u6 ι y)).run P w=.ok (u6 ι v) w∧v.lt n:=by simp only [aaF] at h;obtain⟨k,a,rfl,h⟩:=kL h;obtain⟨i,m,rfl,h⟩:=gT h;cases h;simp [binOp,Op.shift,u6,o7.lt,show ¬ ((m:Int)<0) from by omega]
theorem BZ (a b:Bool):Fj a b=(a==b):=by cases a<;>cases b<;>rfl
theorem oU {x y:o7}{r:Bool}(h:aK x y=some r):∃k a b,x=.int k a∧y=.int k b∧r=(a==b):=by obtain⟨k,a,d,e⟩:=kL h;obtain⟨j,b,f,g⟩:=kL e;obtain⟨c,i⟩:=D8 g;rw [Rm,decide_eq_true_eq] at c;subst c;cases i;exact⟨_,_,_,d,f,iR _ _⟩
theorem iU {x y:o7}{r:Bool}(h:sV x y=some r):∃a b,x=.bool a∧y=.bool b∧r=(a==b):=by obtain⟨a,c,d⟩:=rQ h;obtain⟨b,e,f⟩:=rQ d;cases f;exact⟨_,_,c,e,BZ _ _⟩
theorem jS {x y:o7}{r:Bool}(h:eqStr x y=some r):∃a b,x=.str a∧y=.str b∧r=(a==b):=by obtain⟨a,c,d⟩:=jg h;obtain⟨b,e,f⟩:=jg d;cases f;exact⟨_,_,c,e,iT _ _⟩
end
section
variable {P:Program}{G:Mem}{ι:K7}{n:Nm}
theorem lU (a b:List o7):dz [] a b=some true:=rfl
theorem jZ (k:PK)(c:List PK)(x y:o7)(a b:List o7):dz (k::c) (x::a) (y::b)=ob (IE k x y) λr=>bi r (dz c a b) (some false):=rfl
theorem kg {k:PK}{c:List PK}{a b:List o7}{r:Bool}(h:dz (k::c) a b=some r):
  ∃x xs y ys s,a=x::xs∧b=y::ys∧IE k x y=some s∧bi s (dz c xs ys) (some false)=some r:=by
 cases a with
 | nil=>cases h
 | cons x xs=>
  cases b with
  | nil=>cases h
  | cons y ys=>rw [jZ] at h;obtain⟨s,d,e⟩:=D5 h;exact⟨x,xs,y,ys,s,rfl,rfl,d,e⟩
theorem Rn (c e:List PK):∀(a b:List o7) (r:Bool),dz (c++e) a b=some r->
  (dz c a b=some false∧r=false)∨(dz c a b=some true∧dz e (a.drop c.length) (b.drop c.length)=some r):=by
 induction c with
 | nil=>intro a b r h;right;exact⟨rfl,by simpa using h⟩
 | cons k c ih=>
  intro a b r h;obtain⟨x,g,y,i,s,rfl,rfl,f,d⟩:=kg h;rw [jZ,f];cases s with
  | false=>left;cases d;exact⟨rfl,rfl⟩
  | true=>simpa using ih g i r d
theorem Dn (c:List PK):∀(m:Nat) (a b:List o7),c.length<=m->dz c (a.take m) (b.take m)=dz c a b:=by
 induction c with
 | nil=>intro m a b _;rfl
 | cons k c ih=>
  intro m a b h;obtain⟨m,rfl⟩:∃m',m=m'+1:=⟨m-1,by simp at h;omega⟩;cases a with
  | nil=>rfl
  | cons x xs=>
   cases b with
   | nil=>rfl
   | cons y ys=>rw [adI,adI,jZ,jZ,ih m xs ys (by simpa using h)]
def mkV (ι:K7)(agg:Bool)(l:List o7):Value:=if agg then .agg (z8 ι l).toArray else u6 ι (l.headD .undef)
theorem Ls (ι:K7)(l:List o7)(o k:Nat):((z8 ι l).toArray.extract o (o+k))=(z8 ι ((l.drop o).take k)).toArray:=by rw [List.extract_toArray];congr 1;rw [bQ,bQ,ahA,ame];simp [amv,amw]
theorem vS {t:TypeId}{a:Bool}{k:Nat}(b:yg P t=some a)(hs:aY P t=some k)(l:List o7)(o:Nat)(c:a=false->o<l.length∧k=1)(w:World):
  (part t (z8 ι l).toArray o).run P w=.ok (mkV ι a ((l.drop o).take k)) w:=by
 simp only [part,J8,rP b,J2];cases a with
 | true=>simp only [if_true,J8,run_sizeOf hs,J2,Z7,Ls];rfl
 | false=>
  obtain⟨h,rfl⟩:=c rfl;have:(z8 ι l).toArray[o]?=some (u6 ι l[o]):=by simp [aX,y7 h]
  simp only [Xd,if_false,this,mkV,Z7];congr 2;rw [Z6 h];rfl
theorem FP {t:TypeId}{k:IntKind}(h:P.underlying t=some (.int k)):yg P t=some false:=by simp [yg,h]
theorem UW {t:TypeId}(h:P.underlying t=some .bool):yg P t=some false:=by simp [yg,h]
theorem Oq {t:TypeId}(h:P.underlying t=some .string):yg P t=some false:=by simp [yg,h]
theorem qB {t:TypeId}{a:Array Field}(h:P.underlying t=some (.struct a)):yg P t=some true:=by simp [yg,h]
theorem vT {t:TypeId}{k:IntKind}(h:P.underlying t=some (.int k)){x y:o7}{r:Bool}(c:aK x y=some r)(d:Nat)(w:World):
  (Op.equalIn (d+1) t (u6 ι x) (u6 ι y)).run P w=.ok r w:=by
 obtain⟨k,a,b,rfl,rfl,rfl⟩:=oU c;simp [Op.equalIn,run_underlying h,u6]
theorem zZ {t:TypeId}(h:P.underlying t=some .bool){x y:o7}{r:Bool}(c:sV x y=some r)(d:Nat)(w:World):
  (Op.equalIn (d+1) t (u6 ι x) (u6 ι y)).run P w=.ok r w:=by
 obtain⟨a,b,rfl,rfl,rfl⟩:=iU c;simp [Op.equalIn,run_underlying h,u6]
theorem mD (a b:List UInt8):((⟨a.toArray⟩:ByteArray)==⟨b.toArray⟩)=(a==b):=by show ByteArray.beq _ _=_;simp [ByteArray.beq]
theorem Dp {t:TypeId}(h:P.underlying t=some .string){x y:o7}{r:Bool}(c:eqStr x y=some r)(d:Nat)(w:World):
  (Op.equalIn (d+1) t (u6 ι x) (u6 ι y)).run P w=.ok r w:=by
 obtain⟨a,b,rfl,rfl,rfl⟩:=jS c;simp [Op.equalIn,run_underlying h,u6,mD]
def ko (d:Nat)(X Y:Array Value):List Field->Sem Bool
 | []=>pure true
 | f::l=>do
  if f.name≠ "_" then
   if !(← Op.equalIn d f.type (← part f.type X f.offset) (← part f.type Y f.offset)) then return false
  ko d X Y l
theorem Lu (d:Nat)(X Y:Array Value)(l:List Field):
  (do
   let s ← forIn l ((none,()):Option Bool×Unit) λf _=>
    if f.name≠ "_" then do
     let a ← part f.type X f.offset
     let b ← part f.type Y f.offset
     let e ← Op.equalIn d f.type a b
     if (!e)=true then pure (ForInStep.done (some false,())) else pure (ForInStep.yield (none,()))
    else pure (ForInStep.yield (none,()))
   match s.fst with
   | some r=>pure r
   | none=>pure true:Sem Bool)=ko d X Y l:=by
 induction l with
 | nil=>simp [ko]
 | cons f l ih=>rw [aiY];simp only [ko];rw [← ih];by_cases hf:f.name= "_";simp [hf];simp only [ne_eq,hf,not_false_eq_true,if_true,bind_assoc];congr 1;funext a;congr 1;funext b;congr 1;funext e;cases e<;>simp
theorem FQ {t:TypeId}{b:Array Field}(h:P.underlying t=some (.struct b))(hs:P.stoodInHeld t=false)(X Y:Array Value)(d:Nat)(w:World):
  (Op.equalIn (d+1) t (.agg X) (.agg Y)).run P w=(ko d X Y b.toList).run P w:=by
 simp only [Op.equalIn,J8,run_underlying h,J2,run_program,hs];rw [← ajR,← Lu];simp;congr 1;funext a w';obtain⟨o,u⟩:=a;cases o<;>rfl
theorem Jz:∀(d:Nat) (t:TypeId) (ks:List PK),gQ P d t=some ks->∃agg,yg P t=some agg∧aY P t=some ks.length∧(agg=false->ks.length=1)∧
  ∀D,d<=D->∀(a b:List o7) (r:Bool),dz ks a b=some r->∀w,(Op.equalIn D t (mkV ι agg a) (mkV ι agg b)).run P w=.ok r w:=by
 intro d;induction d with
 | zero=>intro t ks h;simp [gQ] at h
 | succ d ih=>
  intro t ks h;simp only [gQ] at h;cases hu:P.underlying t with
  | none=>simp [hu] at h
  | some u=>
   rw [hu] at h;cases u<;>try (simp at h;done)
   ·
    simp only at h;split at h;rename_i k;cases h;refine⟨false,UW hu,k,λ_=>rfl,λD F a b r n w=>?_⟩;obtain⟨x,I,y,J,s,rfl,rfl,m,q⟩:=kg n;obtain⟨D,rfl⟩:∃D',D=D'+1:=⟨D-1,by omega⟩;have:s=r:=by cases s<;>simpa [lU] using q
    subst this;exact zZ hu m D w;cases h
   simp only at h;split at h;rename_i k;cases h;refine⟨false,FP hu,k,λ_=>rfl,λD F a b r n w=>?_⟩;obtain⟨x,I,y,J,s,rfl,rfl,m,q⟩:=kg n;obtain⟨D,rfl⟩:∃D',D=D'+1:=⟨D-1,by omega⟩;have:s=r:=by cases s<;>simpa [lU] using q
   subst this;exact vT hu m D w;cases h;simp only at h;split at h;rename_i k;cases h;refine⟨false,Oq hu,k,λ_=>rfl,λD F a b r n w=>?_⟩;obtain⟨x,I,y,J,s,rfl,rfl,m,q⟩:=kg n;obtain⟨D,rfl⟩:∃D',D=D'+1:=⟨D-1,by omega⟩;have:s=r:=by cases s<;>simpa [lU] using q
   subst this;exact Dp hu m D w;cases h;rename_i K;simp only at h;cases hf:oO (gQ P d) K.toList 0 with
   | none=>simp [hf] at h
   | some ks'=>
    simp only [hf] at h;split at h;rename_i k;cases h;refine⟨true,qB hu,k.2,(λh=>by cases h),λD F a b r n w=>?_⟩;obtain⟨D,rfl⟩:∃D',D=D'+1:=⟨D-1,by omega⟩;simp only [mkV,if_true];rw [FQ hu k.1];have H:∀(l:List Field) (g:Nat) (e:List PK) (j:List PK),ks=j++e->j.length=g->oO (gQ P d) l g=some e->
      ∀r,dz e (a.drop g) (b.drop g)=some r->(ko D (z8 ι a).toArray (z8 ι b).toArray l).run P w=.ok r w:=by
     intro l;induction l with
     | nil=>intro g e j _ _ i r B;simp only [oO,Hl] at i;subst i;rw [lU] at B;cases B;simp [ko]
     | cons f l ihl=>
      intro g e j G A i r B;simp only [oO] at i;split at i;rename_i N;cases hk:gQ P d f.type with
      | none=>simp [hk] at i
      | some kf=>
       simp only [hk] at i;cases hrest:oO (gQ P d) l (g+kf.length) with
       | none=>simp [hrest] at i
       | some kr=>
        simp only [hrest,Hl] at i;subst i;obtain⟨agg,M,C,m,L⟩:=ih f.type kf hk;have z:∀(c:List o7),(a=c∨b=c)->agg=false->g<c.length∧kf.length=1:=by
         intro c O v;have p:=m v;refine⟨?_,p⟩;cases kf with
         | nil=>simp at p
         | cons k0 kf=>obtain⟨x,I,y,J,s,o,E,_,_⟩:=kg B;rcases O with rfl | rfl;have:=congrArg List.length o;simp at this;omega;have:=congrArg List.length E;simp at this;omega
        simp only [ko,if_pos N.1,J8];rw [N.2,vS M C _ _ (z a (.inl rfl)),J2,vS M C _ _ (z b (.inr rfl)),J2];rcases Rn kf kr _ _ r B with⟨o,rfl⟩ | ⟨o,E⟩;rw [L D (by omega) _ _ _ ((Dn kf _ _ _ (aP _)).trans o) w];simp;rw [L D (by omega) _ _ _ ((Dn kf _ _ _ (aP _)).trans o) w];simp only [J2,aj0,Xd,if_false];refine ihl (g+kf.length) kr (j++kf) (by rw [G];simp) (by simp [A]) hrest r ?_;simpa [adS] using E
      cases i
    exact H K.toList 0 ks [] rfl rfl hf r (by simpa using n);cases h
end
section
variable {P:Program}{G:Mem}{ι:K7}{n:Nm}
theorem XJ {t:TypeId}{x y:o7}{r:Bool}(d:(∀k a,x≠.int k a)∧∀s,x≠.str s)(h:∀w,(Op.equal t (u6 ι x) (u6 ι y)).run P w=.ok r w)(w:World):
  (binOp .eql t (u6 ι x) (u6 ι y)).run P w=.ok (.bool r) w∧(binOp .neq t (u6 ι x) (u6 ι y)).run P w=.ok (.bool (!r)) w:=by
 have b:binOp .eql t (u6 ι x) (u6 ι y)=(do pure (.bool (← Op.equal t (u6 ι x) (u6 ι y)))):=by cases x<;>simp_all [u6,binOp]
 have c:binOp .neq t (u6 ι x) (u6 ι y)=(do pure (.bool (!(← Op.equal t (u6 ι x) (u6 ι y))))):=by cases x<;>simp_all [u6,binOp]
 rw [b,c];simp [h]
theorem Ot {t e:TypeId}(g:P.underlying t=some (.pointer e)){j:Nat}(hs:aY P e=some j){x y:o7}{r:Bool}(f:zS x y=some r)(d:Nat)(w:World):
  (Op.equalIn (d+1) t (u6 ι x) (u6 ι y)).run P w=.ok r w:=by
 cases x<;>cases y<;>simp only [zS,Hl,reduceCtorEq] at f
 case ptr.ptr a b c d'=>obtain⟨h,f⟩:=D8 f;obtain⟨i,f⟩:=D8 f;cases f;obtain rfl:=q9 h;obtain rfl:=q9 i;simp only [Op.equalIn,J8,run_underlying g,u6,J2,run_sizeOf hs];split<;>simp [sameAddr]
 all_goals (subst f;simp [Op.equalIn,run_underlying g,u6])
theorem IU {t e:TypeId}(b:P.underlying t=some (.slice e)){x y:o7}{r:Bool}(a:zT x y=some r)(d:Nat)(w:World):
  (Op.equalIn (d+1) t (u6 ι x) (u6 ι y)).run P w=.ok r w:=by
 cases x<;>cases y<;>simp only [zT,Hl,reduceCtorEq] at a<;>subst a<;>simp [Op.equalIn,run_underlying b,u6]
theorem Ou {t k e:TypeId}(b:P.underlying t=some (.map k e)){x y:o7}{r:Bool}(a:NW x y=some r)(d:Nat)(w:World):
  (Op.equalIn (d+1) t (u6 ι x) (u6 ι y)).run P w=.ok r w:=by
 cases x<;>cases y<;>simp only [NW,Hl,reduceCtorEq] at a<;>subst a<;>simp [Op.equalIn,run_underlying b,u6]
theorem Lv {t:TypeId}{a b:Array TypeId}{c:Bool}(f:P.underlying t=some (.func a b c)){x y:o7}{r:Bool}(e:Fp x y=some r)(d:Nat)(w:World):
  (Op.equalIn (d+1) t (u6 ι x) (u6 ι y)).run P w=.ok r w:=by
 cases x<;>cases y<;>simp only [Fp,Hl,reduceCtorEq] at e<;>subst e<;>simp [Op.equalIn,run_underlying f,u6]
theorem IV {t:TypeId}{c:Array (String×TypeId)}(b:P.underlying t=some (.interface c)){x y:o7}{r:Bool}(a:iF x y=some r)(d:Nat)(w:World):
  (Op.equalIn (d+1) t (u6 ι x) (u6 ι y)).run P w=.ok r w:=by
 cases x<;>cases y<;>simp only [iF,Hl,reduceCtorEq] at a<;>subst a<;>simp [Op.equalIn,run_underlying b,u6]
theorem LA {c:Bool}{t:TypeId}{k:BJ}(a:XC P c t=some k){x y:o7}{r:Bool}(b:nA k x y=some r)(d:Nat)(n:10<=d+1)(w:World):
  (Op.equalIn (d+1) t (u6 ι x) (u6 ι y)).run P w=.ok r w:=by
 simp only [XC] at a;cases hu:P.underlying t with
 | none=>simp [hu] at a
 | some u=>
  rw [hu] at a;cases u<;>try (simp at a;done)
  simp only [Hl] at a;subst a;exact zZ hu b d w;simp only [Hl] at a;subst a;exact vT hu b d w;simp only [Hl] at a;subst a;exact Dp hu b d w;rename_i e;simp only at a;cases hs:aY P e with
  | none=>rw [hs] at a;cases a
  | some sz=>rw [hs] at a;cases a;exact Ot hu hs b d w
  simp only [Hl] at a;subst a;exact IU hu b d w;simp only [Hl] at a;subst a;exact Ou hu b d w;rename_i p;simp only at a;cases hf:gQ P 10 t with
  | none=>simp [hf] at a
  | some ks=>simp only [hf] at a;split at a;cases a;obtain⟨l,rfl,h⟩:=fH b;obtain⟨m,rfl,i⟩:=fH h;obtain⟨g,f,o,q,j⟩:=Jz (P:=P) (ι:=ι) 10 t ks hf;rw [qB hu] at f;cases f;have:=j (d+1) n l m r i w;simpa [mkV,u6] using this;cases a
  simp only [Hl] at a;subst a;exact Lv hu b d w;simp only at a;split at a;cases a;exact IV hu b d w;cases a
theorem Dq {c:Bool}{t:TypeId}{k:BJ}(b:XC P c t=some k){x y:o7}{r:Bool}(a:nA k x y=some r)(w:World):
  (Op.equal t (u6 ι x) (u6 ι y)).run P w=.ok r w:=LA b a 9999 (by omega) w
theorem XK {c:Bool}{t:TypeId}{k:BJ}(g:XC P c t=some k)(e:k≠.prim .i)(f:k≠.prim .s){x y:o7}{r:Bool}(d:nA k x y=some r)(w:World):
  (binOp .eql t (u6 ι x) (u6 ι y)).run P w=.ok (.bool r) w∧(binOp .neq t (u6 ι x) (u6 ι y)).run P w=.ok (.bool (!r)) w:=by
 refine XJ ?_ (λw=>Dq g d w) w;cases k<;>first
  | (rename_i p;cases p<;>first
    | exact absurd rfl e
    | exact absurd rfl f
    | (obtain⟨a,b,rfl,rfl,rfl⟩:=iU d;simp))
  | (obtain⟨l,rfl,_⟩:=fH d;simp)
  | (cases x<;>cases y<;>simp [nA,zS,zT,NW,Fp,iF] at d ⊢)
def qC (d:Nat)(e:TypeId)(X Y:Array Value):List Nat->Sem Bool
 | []=>pure true
 | i::l=>do
  if !(← Op.equalIn d e (← part e X (i*1)) (← part e Y (i*1))) then return false
  qC d e X Y l
theorem Ro (d:Nat)(e:TypeId)(X Y:Array Value)(l:List Nat):
  (do
   let s ← forIn l ((none,()):Option Bool×Unit) λi _=>do
       let a ← part e X (i*1)
       let b ← part e Y (i*1)
       let r ← Op.equalIn d e a b
       if (!r)=true then pure (ForInStep.done (some false,())) else pure (ForInStep.yield (none,()))
   match s.fst with
   | some r=>pure r
   | none=>pure true:Sem Bool)=qC d e X Y l:=by
 induction l with
 | nil=>simp [qC]
 | cons f l ih=>rw [aiY];simp only [qC];rw [← ih];simp only [bind_assoc];congr 1;funext a;congr 1;funext b;congr 1;funext r;cases r<;>simp
theorem IW {t e:TypeId}{k:Nat}(h:P.underlying t=some (.array k e))(hs:aY P e=some 1)(X Y:Array Value)(d:Nat)(w:World):
  (Op.equalIn (d+1) t (.agg X) (.agg Y)).run P w=(qC d e X Y (List.range k)).run P w:=by
 simp only [Op.equalIn,J8,run_underlying h,J2,run_sizeOf hs];rw [Std.Legacy.Range.forIn_eq_forIn_range'];rw [← Ro,ahS];simp;congr 1;funext a w';obtain⟨o,u⟩:=a;cases o<;>rfl
theorem UY {e:TypeId}{kk:IntKind}(m:P.underlying e=some (.int kk))(hs:aY P e=some 1)(a b:List o7)(d:Nat)(w:World):∀(j off:Nat) (r:Bool),
  dz (List.replicate j .i) (a.drop off) (b.drop off)=some r->(qC (d+1) e (z8 ι a).toArray (z8 ι b).toArray (List.range' off j)).run P w=.ok r w:=by
 intro j;induction j with
 | zero=>intro off r h;rw [List.replicate_zero,lU] at h;cases h;simp [qC]
 | succ j ih=>
  intro off r h;rw [List.replicate_succ] at h;obtain⟨x,xs,y,ys,s,k,l,p,c⟩:=kg h;have t:off<a.length:=by have:=congrArg List.length k;simp at this;omega
  have u:off<b.length:=by have:=congrArg List.length l;simp at this;omega
  have f:=vS (P:=P) (ι:=ι) (FP m) hs a off (λ_=>⟨t,rfl⟩) w;have g:=vS (P:=P) (ι:=ι) (FP m) hs b off (λ_=>⟨u,rfl⟩) w;rw [k] at f;rw [l] at g;have f:(part e (z8 ι a).toArray off).run P w=.ok (u6 ι x) w:=f;have g:(part e (z8 ι b).toArray off).run P w=.ok (u6 ι y) w:=g;have q:=vT (ι:=ι) m p d w;rw [List.range'_succ];simp only [qC,aml,J8,f,g,q,J2];cases s with
  | false=>have c:some false=some r:=c;cases c;simp
  | true=>
   have c:dz (List.replicate j .i) xs ys=some r:=c;simp only [aj0,Xd,if_false];refine ih (off+1) r ?_;have n:a.drop (off+1)=xs:=by rw [← adS,k];rfl
   have o:b.drop (off+1)=ys:=by rw [← adS,l];rfl
   rw [n,o];exact c
theorem Ca {t:TypeId}{k:BJ}(h:aaN P t=some k):∃n e kk,P.underlying t=some (.array n e)∧P.underlying e=some (.int kk)∧aY P e=some 1∧P.eqGuardType P.depth t=false∧k=.flat (List.replicate n .i):=by unfold aaN at h;split at h;rename_i n e c;split at h;rename_i kk b;split at h;rename_i a;cases h;exact⟨n,e,kk,c,b,a.1,a.2,rfl⟩;cases h;cases h;cases h
theorem yV {c:Bool}{t:TypeId}{k:BJ}(h:XD P c t=some k):XC P c t=some k∨aaN P t=some k:=by unfold XD at h;split at h;rename_i b a;cases h;exact .inl a;exact .inr h
theorem UZ {c:Bool}{t:TypeId}{k:BJ}(a:XD P c t=some k)(b:k≠.prim .i)(d:k≠.prim .s){x y:o7}{r:Bool}(g:nA k x y=some r)(w:World):
  (binOp .eql t (u6 ι x) (u6 ι y)).run P w=.ok (.bool r) w∧(binOp .neq t (u6 ι x) (u6 ι y)).run P w=.ok (.bool (!r)) w:=by
 rcases yV a with a | a;exact XK a b d g w;obtain⟨n,e,q,p,f,h,_,rfl⟩:=Ca a;obtain⟨l,rfl,j⟩:=fH g;obtain⟨m,rfl,o⟩:=fH j;refine XJ (by simp) (λw=>?_) w;have:Op.equal t (u6 ι (.agg l)) (u6 ι (.agg m))=Op.equalIn (9999+1) t (.agg (z8 ι l).toArray) (.agg (z8 ι m).toArray):=by simp [u6,Op.equal,Op.maxDepth]
 rw [this,IW p h,ahS];exact UY f h l m 9998 w n 0 r (by simpa using o)
end
section
variable {P:Program}{G:Mem}{ι:K7}{n:Nm}{slots:List Nat}{done:List (Option Nat)}{ls:List o7}{env:T o7}{a:Act}
def Gives (P:Program)(ρ:Operand->Value)(op:Op)(v:Value):Prop:=
 ∀(o:Oper),o.op=op->∀w,(execOp ρ o).run P w=.ok (.value v) w
theorem nD {a:BinOp}(b:a≠.eql)(c:a≠.neq){t:TypeId}{x y:Operand}{u v:Value}{w:World}:(eqGuard a t x y u v).run P w=.ok () w:=by unfold eqGuard;cases a<;>first | exact absurd rfl b | exact absurd rfl c | simp
theorem Ov {a:BinOp}{t:TypeId}{x y:Operand}{u v:Array Value}{w:World}(h:P.eqGuardType P.depth t=false):(eqGuard a t x y (.agg u) (.agg v)).run P w=.ok () w:=by unfold eqGuard;cases a<;>simp [h]
theorem rR {b:BinOp}{t:TypeId}{x y:Operand}{e:TypeId}{a:Operand->Value}{v:Value}
  (c:∀w,(eqGuard b t x y (a x) (a y)).run P w=.ok () w) (h:∀w,(binOp b t (a x) (a y)).run P w=.ok v w):Gives P a (.binOp b t x y e) v:=by
 intro o d w;simp [execOp,d,c,h]
theorem bind_eq {α β:Type}{o:Option α}{f:α->Option β}{b:β}(h:(o >>= f)=some b):∃a,o=some a∧f a=some b:=by
 cases o with
 | none=>cases h
 | some a=>exact⟨a,rfl,h⟩
theorem XL (p:Nat×Nat×OF)(ps:List (Nat×Nat×OF))(ls:List o7)(env:T o7)(cs:List o7):
  lay (p::ps) ls env cs=bi (Nat.beq (len' (p.2.2 ls env).cells) p.2.1) (bi (Nat.ble (Nat.add p.1 p.2.1) (len' cs)) (lay ps ls env (mM p.1 (p.2.2 ls env).cells cs)) none) none:=rfl
theorem Cb (a:List Value):∀(A:Array Value) (off i:Nat),off+i+a.length<=A.size->
  ((a.zipIdx i).foldl (λcs (p:Value×Nat)=>cs.setIfInBounds (off+p.2) p.1) A).toList=A.toList.take (off+i)++(a++A.toList.drop (off+i+a.length)):=by
 induction a with
 | nil=>intro A off i h;simp
 | cons v a ih=>
  intro A off i h;simp only [List.zipIdx_cons,amh,J6] at h ⊢;rw [ih _ _ _ (by simp;omega)];simp only [Array.toList_setIfInBounds];have b:off+i<A.toList.length:=by simp;omega
  rw [List.take_set,show off+(i+1)=off+i+1 from by omega];rw [List.drop_set_of_lt (by omega)];rw [abA b,List.set_append_right _ _ (by simp;omega)];simp [show min (off+i) A.size=off+i from by simp at b;omega];congr 1;omega
theorem Cc (s:St P ι n slots done ls env a.tmps)(d:Nat->Option (Nat×Nat)):∀(parts:List (Nat×Operand)) (ps:List (Nat×Nat×Q8)),
  vK P slots done d parts=some ps->∀(cs r:List o7),bB n cs->lay (BO ps) ls env cs=some r->
   Instr.fill d (z8 ι cs).toArray (parts.map λp=>(p.1,a.eval p.2))=some (z8 ι r).toArray∧bB n r∧r.length=cs.length:=by
 intro parts;induction parts with
 | nil=>intro ps h cs r c f;simp only [vK,Hl] at h;subst h;cases f;exact⟨rfl,c,rfl⟩
 | cons p parts ih=>
  intro ps h cs r c f;simp only [vK] at h;split at h;rename_i b k x j C D g;cases h;simp only [BO,XL] at f;obtain⟨o,f⟩:=D8 f;obtain⟨q,f⟩:=D8 f;obtain⟨t,u⟩:=A9 s D;simp only [I9] at o q;have l:=q9 o;have A:b+k<=cs.length:=U9 q;have i:b+((G9 x ls env).cells).length<=cs.length:=by omega
  have m:=zW b ((G9 x ls env).cells) cs i;obtain⟨w,y,z⟩:=ih j g _ r (by
   rw [dR] at c ⊢;intro v e;rw [mV b _ cs (by omega)] at e;simp only [aau] at e;rcases e with e | e | e;exact c v (afr e);exact dR.1 (vN u) v e;exact c v (aaA e)) f
  refine⟨?_,y,by rw [z,m]⟩;simp only [Z5,Instr.fill,C];rw [t,lS];simp only [ad5,Y9];rw [if_neg (by simp [l];omega)];rw [← w];congr 1;have B:=Cb (z8 ι (G9 x ls env).cells) (z8 ι cs).toArray b 0 (by simp;omega);apply alW.1;rw [← Array.foldl_toList];simp only [Array.toList_zipIdx];refine B.trans ?_;simp only [bQ,mV b _ cs (show b<=cs.length by omega),adJ,amv,amw,adK,Y7];cases h
theorem IX:∀(fs:List Field) (pl:List (Nat×Nat)),placesOf P fs=some pl->∀w,
  ((fs.mapM λf=>do pure (f.offset,← sizeOf f.type):Sem (List (Nat×Nat)))).run P w=.ok pl w:=by
 intro fs;induction fs with
 | nil=>intro pl h w;simp only [placesOf,Hl] at h;subst h;simp
 | cons f fs ih=>intro pl h w;simp only [placesOf] at h;split at h;rename_i s r b c;cases h;have a:=ih r c w;simp only [bind_pure_comp] at a;simp [amr,run_sizeOf b,a];cases h
theorem Ow (s:St P ι n slots done ls env a.tmps){t:TypeId}{b:Array (Nat×Operand)}{o:zP}(h:yQ P slots done t b.toList=some o):
  ∃zero ps,o=.p (.build zero ps)∧∀v,oh (.build zero ps) ls env=some v->v.lt n∧Gives P a.eval (.build t b) (u6 ι v):=by
 simp only [yQ] at h;have j:(b.map λp=>(p.1,a.eval p.2)).toList=b.toList.map λp=>(p.1,a.eval p.2):=by simp
 split at h;rename_i zero c q G;split at h;rename_i I E;split at h;rename_i ps l;cases h;refine⟨zero,ps,rfl,λv H=>?_⟩;obtain⟨r,A,B⟩:=D5 H;cases B;obtain⟨z,d,e,g⟩:=dZ (P:=P) (w:=default) q ι;obtain⟨u,y,_⟩:=Cc s _ b.toList ps l zero r (g n) A;refine⟨y,λo D w=>?_⟩;obtain⟨z,d,e,g⟩:=dZ (P:=P) (w:=w) q ι;simp only [execOp,D,Instr.build,J8,d,J2,run_underlying G,e];have K:=IX (P:=P) c.toList I E w;have C:(c.mapM λf=>do pure (f.offset,← sizeOf f.type):Sem (Array (Nat×Nat)))=Functor.map List.toArray (c.toList.mapM λf=>do pure (f.offset,← sizeOf f.type):Sem (List (Nat×Nat))):=by rw [← List.mapM_toArray]
 rw [C];simp only [Sem.run_map,K,J2,j];have m:(λx:Nat=>I.toArray[x]?)=λi:Nat=>I[i]?:=by funext i;simp
 rw [m,u];simp [u6];cases h;cases h;rename_i zero k J q G;split at h;rename_i L F;split at h;rename_i ps l;cases h;refine⟨zero,ps,rfl,λv H=>?_⟩;obtain⟨r,A,B⟩:=D5 H;cases B;obtain⟨z,d,e,g⟩:=dZ (P:=P) (w:=default) q ι;obtain⟨u,y,_⟩:=Cc s _ b.toList ps l zero r (g n) A;refine⟨y,λo D w=>?_⟩;obtain⟨z,d,e,g⟩:=dZ (P:=P) (w:=w) q ι;simp only [execOp,D,Instr.build,J8,d,J2,run_underlying G,e,run_sizeOf F,j];rw [u];simp [u6];cases h;cases h;cases h
end
section
variable {P:Program}{G:Mem}{ι:K7}{n:Nm}{slots:List Nat}{done:List (Option Nat)}{ls:List o7}{env:T o7}{a:Act}
theorem vU {α:Type}(p q:Nat)(x y:α):bi (Nat.beq p q) x y=if p=q then x else y:=by by_cases h:p=q;subst h;rw [aaz,if_pos rfl];rfl;rw [show Nat.beq p q=false from aa4.2 λe=>h (q9 e),if_neg h];rfl
theorem P5 {l:List o7}{v:o7}(h:bB n l)(a:v∈l):v.lt n:=dR.1 h v a
def Aa (sz:Option Nat)(l:List o7)(o:Nat):Option o7:=match sz with
 | none=>l[o]?
 | some k=>ob (takeN k (l.drop o)) λr=>some (.agg r)
theorem FT {t:TypeId}{c:Option Nat}(f:partT P t=some c){l:List o7}(b:bB n l)(o:Nat){v:o7}
  (a:Aa c l o=some v):
  v.lt n∧∀w,(part t (z8 ι l).toArray o).run P w=.ok (u6 ι v) w:=by
 rcases FM f with⟨rfl,ha,k,hk⟩ | ⟨k,rfl,ha,hk⟩;simp only [Aa] at a;refine⟨P5 b (Xb a),λw=>?_⟩;simp [part,rP ha,aX,a];simp only [Aa] at a;obtain⟨r,d,e⟩:=D5 a;cases e;obtain⟨rfl,_⟩:=lQ _ _ _ d;refine⟨dR.2 λv a=>P5 b (aaA (afr a)),λw=>?_⟩;simp [part,rP ha,run_sizeOf hk,u6,bQ,amv,amw]
theorem JA (s:St P ι n slots done ls env a.tmps){x:Option Operand}{o:Option Q8}(h:cOpt P slots done x=some o):
  (x=none∧o=none)∨∃y z,x=some y∧o=some z∧a.eval y=u6 ι (G9 z ls env):=by
 cases x with
 | none=>simp only [cOpt,Hl] at h;exact .inl ⟨rfl,h.symm⟩
 | some y=>
  simp only [cOpt] at h;cases hy:N8 P slots done y with
  | none=>simp [hy] at h
  | some z=>simp only [hy,Hl] at h;exact .inr ⟨y,z,rfl,h.symm,(A9 s hy).1⟩
theorem tN (s:St P ι n slots done ls env a.tmps){lo hi:Option Operand}{p j:Option Q8}(u:cOpt P slots done lo=some p)(t:cOpt P slots done hi=some j)
  {β:Type} {k:Nat->Nat->Option β} {d:Nat} {r:β} (h:gM (lK p) 0 ls env (λl=>gM (lK j) d ls env λh=>k l h)=some r):
  ∃l h,k l h=some r∧(hi=none->h=d)∧(lo=none->l=0)∧
   (∀(isSlice:Bool) (len cap:Nat) (w:World),len=d->l<=h->h<=cap->(Instr.sliceBounds isSlice len cap (lo.map a.eval) (hi.map a.eval) none).run P w=.ok (l,h,cap) w):=by
 rcases JA s u with⟨rfl,rfl⟩ | ⟨y,z,rfl,rfl,hy⟩<;>rcases JA s t with⟨rfl,rfl⟩ | ⟨y',z',rfl,rfl,hy'⟩
 exact⟨0,d,h,λ_=>rfl,λ_=>rfl,λo len cap w g _ _=>by subst g;simp [Instr.sliceBounds]⟩;obtain⟨i,m,b,f⟩:=gT h;refine⟨0,m,f,(by simp),(by simp),λo len cap w g c e=>?_⟩;have b:G9 z' ls env=.int i (m:Int):=b;simp only [aa1,afy,hy',b,u6,Instr.sliceBounds,Instr.sliceBound,asIntOf];cases o<;>simp [e]
 obtain⟨i,m,b,f⟩:=gT h;refine⟨m,d,f,(by simp),(by simp),λo len cap w g c e=>?_⟩;have b:G9 z ls env=.int i (m:Int):=b;subst g;simp only [aa1,afy,hy,b,u6,Instr.sliceBounds,Instr.sliceBound,asIntOf];simp [c];obtain⟨i,m,b,f⟩:=gT h;obtain⟨A,v,q,x⟩:=gT f;refine⟨m,v,x,(by simp),(by simp),λo len cap w g c e=>?_⟩;have b:G9 z ls env=.int i (m:Int):=b;have q:G9 z' ls env=.int A (v:Int):=q;simp only [aa1,hy,b,hy',q,u6,Instr.sliceBounds,Instr.sliceBound,asIntOf];cases o<;>simp [c,e]
theorem yC {t e:TypeId}{es:Nat}(b:P.underlying t=some (.slice e))(hs:aY P e=some es)(a:Addr)(len cap:Nat)(k:IntKind)(i:Nat)(hi:i<len)(w:World):
  (Instr.indexAt t (.slice (some a) len cap) (.int k (i:Int))).run P w=.ok (.pointer (some (a.add (i*es)))) w:=by
 simp [Instr.indexAt,asIntOf,run_underlying b,run_sizeOf hs,hi]
theorem IY {t e:TypeId}{es len:Nat}(b:P.underlying t=some (.array len e))(hs:aY P e=some es)(a:Addr)(k:IntKind)(i:Nat)(hi:i<len)(w:World):
  (Instr.indexAt t (.pointer (some a)) (.int k (i:Int))).run P w=.ok (.pointer (some (a.add (i*es)))) w:=by
 simp [Instr.indexAt,asIntOf,run_underlying b,run_sizeOf hs,hi,Instr.sureAddr]
theorem Ox (a:Bool):∀(ys:List o7) (x v:o7),bB n ys->x.lt n->Oa a ys x=some v->v.lt n∧
  ∀w,((z8 ι ys).foldlM (if a then Builtin.max2 else Builtin.min2) (u6 ι x)).run P w=.ok (u6 ι v) w:=by
 intro ys;induction ys with
 | nil=>intro x v _ d h;cases h;exact⟨d,λw=>by simp [z8]⟩
 | cons y ys ih=>
  intro x v c d h;have h:ob (mm2 a x y) (λz=>Oa a ys z)=some v:=h;obtain⟨z,b,j⟩:=D5 h;simp only [mm2] at b;obtain⟨k,p,e,b⟩:=kL b;obtain⟨l,q,f,b⟩:=kL b;cases b;obtain⟨g,i⟩:=ih _ v c.2 (by simp [o7.lt]) j;refine⟨g,λw=>?_⟩;subst e;subst f;simp only [z8,List.foldlM_cons,J8,u6];have:((if a=true then Builtin.max2 else Builtin.min2) (.int k p) (.int l q)).run P w=.ok (.int k (bi a (bi (uE p q) q p) (bi (uE q p) q p))) w:=by cases a;simp only [Xd,if_false,Builtin.min2,Z7,U5,kK];by_cases hlt:q<p;simp [hlt];simp [hlt];simp only [if_true,Builtin.max2,Z7,Q9,kK];by_cases hlt:p<q;simp [hlt];simp [hlt]
  rw [this];exact i w
end
section
variable {P:Program}{G:Mem}{ι:K7}{n:Nm}{slots:List Nat}{done:List (Option Nat)}{ls:List o7}{env:T o7}{a:Act}
theorem bn {x y:WS}(h:(pure (zP.p x):Option zP)=some (.p y)):x=y:=by cases h;rfl
theorem Va {f:FuncId}{a:Func}(h:P.funcs[f]?=some a)(hb:a.body.isNone=true)(b:a.name= "internal/abi.NoEscape")(i:(Extern.findNext a).isNone=true)(v:Value)(w:World):
  (callFunc f #[v]).run P w=.ok (.value v) w:=by
 have c:Extern.allGenericRows.lookup "internal/abi.NoEscape"=none:=by kernel_rfl
 have d:Extern.allTypedRows.lookup "internal/abi.NoEscape"=none:=by kernel_rfl
 have e:Extern.allRows.lookup "internal/abi.NoEscape"=some Extern.AbiNoEscape.same:=by kernel_rfl
 have g:Extern.find a=some Extern.AbiNoEscape.same:=by unfold Extern.find;simp only [b,c,d,e];rfl
 rw [run_callFunc_extern h (by rw [b];decide) hb (by simpa using i) g];rfl
set_option maxHeartbeats 1000000 in
theorem tO (s:St P ι n slots done ls env a.tmps){I:Op}{S:WS}(h:iA P slots done I=some (.p S)){v:o7}(F:oh S ls env=some v):
  v.lt n∧Gives P a.eval I (u6 ι v):=by
 cases I with
 | move x=>obtain⟨x',A,h⟩:=bind_eq h;obtain rfl:=bn h;cases F;obtain⟨B,E⟩:=A9 s A;exact⟨E,λo C w=>by simp [execOp,C,B]⟩
 | assign x=>obtain⟨x',A,h⟩:=bind_eq h;obtain rfl:=bn h;cases F;obtain⟨B,E⟩:=A9 s A;exact⟨E,λo C w=>by simp [execOp,C,B]⟩
 | pick c x y=>
  obtain⟨c',hc,h⟩:=bind_eq h;obtain⟨x',A,h⟩:=bind_eq h;obtain⟨y',hy,h⟩:=bind_eq h;obtain rfl:=bn h;obtain⟨b,d,D⟩:=rQ F;have d:G9 c' ls env=.bool b:=d;obtain⟨B,_⟩:=A9 s hc;obtain⟨E,ac⟩:=A9 s A;obtain⟨V,ad⟩:=A9 s hy;rw [d] at B;cases b with
  | true=>cases D;exact⟨ac,λo C w=>by simp [execOp,C,B,E,u6,asBool]⟩
  | false=>cases D;exact⟨ad,λo C w=>by simp [execOp,C,B,V,u6,asBool]⟩
 | build t parts=>obtain⟨zero,ps,e,hb⟩:=Ow s (show yQ P slots done t parts.toList=some (.p S) from h);cases e;exact hb v F
 | nilCheck x=>
  obtain⟨x',A,h⟩:=bind_eq h;obtain rfl:=bn h;obtain⟨B,E⟩:=A9 s A;have F:BM (G9 x' ls env)=some v:=F;generalize G9 x' ls env=u at *;have:v=u∧∀o:Oper,o.op=.nilCheck x->∀w,(execOp a.eval o).run P w=.ok (.value (u6 ι u)) w:=by
   cases u<;>simp only [BM,Hl,reduceCtorEq] at F<;>try (refine⟨F.symm,λo C w=>?_⟩;simp [execOp,C,B,u6];done)
   rename_i fn p q;cases fn<;>simp only [Hl,reduceCtorEq] at F
   refine⟨F.symm,λo C w=>?_⟩;simp [execOp,C,B,u6,jR]
  obtain⟨rfl,D⟩:=this;exact⟨E,D⟩
 | binOp I t x y yt=>
  simp only [iA] at h;by_cases d:I=.eql∨I=.neq
  ·have O:∃k x' y',XD P (yA x||yA y) t=some k∧N8 P slots done x=some x'∧N8 P slots done y=some y'∧
     ((k=.prim .i∨k=.prim .s)∧S=.ib I x' y'∨(k≠.prim .i∧k≠.prim .s)∧S=.eq (decide (I=.neq)) k x' y'):=by
    rcases d with rfl | rfl <;>
    ·simp only at h;obtain⟨k,K,h⟩:=bind_eq h;cases k with
     | prim p=>
      cases p <;>
      ·simp only at h;obtain⟨x',A,h⟩:=bind_eq h;obtain⟨y',hy,h⟩:=bind_eq h;have:=bn h;exact⟨_,x',y',K,A,hy,by simp [this]⟩
     | _=>simp only at h;obtain⟨x',A,h⟩:=bind_eq h;obtain⟨y',hy,h⟩:=bind_eq h;have:=bn h;exact⟨_,x',y',K,A,hy,by simp [this]⟩
   obtain⟨k,x',y',K,A,hy,O⟩:=O;obtain⟨B,_⟩:=A9 s A;obtain⟨E,_⟩:=A9 s hy;rcases O with⟨_,rfl⟩ | ⟨⟨hk1,hk2⟩,rfl⟩;have a0:I≠.shl:=by rcases d with rfl | rfl<;>simp
   have a1:I≠.shr:=by rcases d with rfl | rfl<;>simp
   have F:Ef (KX I) (KY I) (G9 x' ls env) (G9 y' ls env)=some v:=by rcases d with rfl | rfl<;>exact F
   refine⟨(tL (P:=P) (ι:=ι) a0 a1 F t default).2,rR (λw=>?_) (λw=>by rw [B,E];exact (tL (n:=n) a0 a1 F t w).1)⟩;rw [B,E];rcases UU F with⟨k,p,W⟩ | ⟨p,W⟩<;>rw [W]<;>exact tK (by simp [u6]) (by simp [u6])
   ·have F:∃r,nA k (G9 x' ls env) (G9 y' ls env)=some r∧v=.bool (if I=.neq then !r else r):=by
     rcases d with rfl | rfl <;>
     ·obtain⟨r,d,D⟩:=D5 F;cases D;exact⟨r,d,rfl⟩
    obtain⟨r,hr,rfl⟩:=F;refine⟨by simp [o7.lt],rR (λw=>?_) (λw=>?_)⟩
    ·rw [B,E];cases k with
     | prim p=>
      cases p with
      | b=>obtain⟨p,q,H,Q,_⟩:=iU hr;rw [H,Q];exact tK (by simp [u6]) (by simp [u6])
      | i=>exact absurd rfl hk1
      | s=>exact absurd rfl hk2
     | flat ks=>
      obtain⟨l,H,Q⟩:=fH hr;obtain⟨m,h5,h6⟩:=fH Q;rw [H,h5];refine Ov ?_;rcases (yV K).symm with K | K;obtain⟨_,_,_,_,_,_,h7,_⟩:=Ca K;exact h7;simp only [XC] at K;split at K<;>first | (simp at K;done) | (split at K<;>simp at K;done) | skip
      split at K;split at K;assumption;cases K;cases K
     | iface=>
      have hc:yA x=true∨yA y=true:=by
       rcases (yV K).symm with K | K;obtain⟨_,_,_,_,_,_,_,h7⟩:=Ca K;cases h7;simp only [XC] at K;split at K<;>first | (simp at K;done) | (split at K<;>simp at K;done) | (split at K<;>first | (split at K<;>simp at K;done) | (simp at K;done)) | skip
       split at K;rename_i hc;simpa using hc;simp at K
      exact tK (λp q=>by cases A:G9 x' ls env<;>simp_all [nA,iF,u6]) (hc.elim (λh=>.inr (.inr (.inl h))) (λh=>.inr (.inr (.inr h))))
     | _=>refine tK (λp q=>?_) (.inl ?_)<;>cases A:G9 x' ls env<;>simp_all [nA,zS,zT,NW,Fp,u6]
    rw [B,E];have:=UZ K hk1 hk2 (ι:=ι) hr w;rcases d with rfl | rfl;simpa [u6] using this.1;simpa [u6] using this.2
  ·have J:I≠.eql∧I≠.neq:=⟨λe=>d (.inl e),λe=>d (.inr e)⟩;have O:∃x' y',N8 P slots done x=some x'∧N8 P slots done y=some y'∧S=.ib I x' y':=by
    cases I<;>first
     | exact absurd rfl J.1
     | exact absurd rfl J.2
     | (simp only at h
        obtain⟨x',A,h⟩:=bind_eq h;obtain⟨y',hy,h⟩:=bind_eq h;exact⟨x',y',A,hy,(bn h).symm⟩)
   obtain⟨x',y',A,hy,rfl⟩:=O;obtain⟨B,_⟩:=A9 s A;obtain⟨E,_⟩:=A9 s hy;by_cases a0:I=.shl;subst a0;refine⟨(Jw (P:=P) (ι:=ι) F t default).2,rR (λw=>nD (by simp) (by simp)) (λw=>by rw [B,E];exact (Jw (n:=n) F t w).1)⟩;by_cases a1:I=.shr;subst a1;refine⟨(Jy (P:=P) (ι:=ι) F t default).2,rR (λw=>nD (by simp) (by simp)) (λw=>by rw [B,E];exact (Jy (n:=n) F t w).1)⟩;have F:Ef (KX I) (KY I) (G9 x' ls env) (G9 y' ls env)=some v:=by cases I<;>first | exact absurd rfl a0 | exact absurd rfl a1 | exact F
   exact⟨(tL (P:=P) (ι:=ι) a0 a1 F t default).2,rR (λw=>nD J.1 J.2) (λw=>by rw [B,E];exact (tL (n:=n) a0 a1 F t w).1)⟩
 | unOp I t x=>
  have O:∃x',N8 P slots done x=some x'∧(I=.not∧S=.not x'∨I=.neg∧S=.neg x'∨I=.xor∧S=.inv x'):=by
   simp only [iA] at h;cases I<;>simp only at h<;>first
    | (cases h;done)
    | (obtain⟨x',A,h⟩:=bind_eq h
       exact⟨x',A,by simp [bn h]⟩)
  obtain⟨x',A,O⟩:=O;obtain⟨B,_⟩:=A9 s A;rcases O with⟨rfl,rfl⟩ | ⟨rfl,rfl⟩ | ⟨rfl,rfl⟩;obtain⟨b,d,D⟩:=rQ F;have d:G9 x' ls env=.bool b:=d;cases D;exact⟨by simp [o7.lt],λo C w=>by simp [execOp,C,B,d,u6,Op.unary]⟩;obtain⟨k,m,d,D⟩:=kL F;have d:G9 x' ls env=.int k m:=d;cases D;exact⟨by simp [o7.lt],λo C w=>by simp [execOp,C,B,d,u6,Op.unary,Op.intArith,vR]⟩;obtain⟨k,m,d,D⟩:=kL F;have d:G9 x' ls env=.int k m:=d;cases D;exact⟨by simp [o7.lt,zR],λo C w=>by cases K:k.signed<;>simp [execOp,C,B,d,u6,Op.unary,Op.intBits,zR,K]⟩
 | convert src dst x=>
  simp only [iA] at h;obtain⟨us,ag,h⟩:=bind_eq h;obtain⟨ud,af,h⟩:=bind_eq h;have O:∃x',N8 P slots done x=some x'∧∃j k,us=.int j∧ud=.int k∧S=.conv k x':=by split at h;obtain⟨x',A,h⟩:=bind_eq h;exact⟨x',A,_,_,rfl,rfl,(bn h).symm⟩;obtain⟨ue,_,h⟩:=bind_eq h;split at h;obtain⟨x',A,h⟩:=bind_eq h;cases h;cases h;obtain⟨ue,_,h⟩:=bind_eq h;split at h;obtain⟨x',A,h⟩:=bind_eq h;cases h;cases h;obtain⟨_,_,h⟩:=bind_eq h;split at h;cases h;obtain⟨_,_,h⟩:=bind_eq h;cases h;obtain⟨_,_,h⟩:=bind_eq h;split at h;cases h;obtain⟨_,_,h⟩:=bind_eq h;cases h;cases h
  obtain⟨x',A,j,k,rfl,rfl,rfl⟩:=O;obtain⟨B,E⟩:=A9 s A;obtain⟨k',m,d,D⟩:=kL F;have d:G9 x' ls env=.int k' m:=d;cases D;exact⟨by simp [o7.lt],λo C w=>by simp [execOp,C,convert,run_underlying ag,run_underlying af,B,d,u6,Conv.intToInt,vR]⟩
 | makeInterface t x=>
  simp only [iA] at h;obtain⟨u,L,h⟩:=bind_eq h;have O:∃x',N8 P slots done x=some x'∧S=.mkIface t x'∧∀ms,u≠.interface ms:=by split at h;cases h;rename_i J;obtain⟨x',A,h⟩:=bind_eq h;exact⟨x',A,(bn h).symm,λms e=>J ms e⟩
  obtain⟨x',A,rfl,J⟩:=O;obtain⟨B,E⟩:=A9 s A;cases F;refine⟨by simpa [o7.lt] using E,λo C w=>?_⟩;simp only [execOp,C,Instr.makeInterface,J8,run_underlying L,J2,B];cases u<;>first | exact absurd rfl (J _) | simp [u6]
 | typeAssert x xt t ok=>
  simp only [iA] at h;obtain⟨u,L,h⟩:=bind_eq h;have O:∃z x',zeroV P t=some z∧N8 P slots done x=some x'∧S=.assert t z ok x'∧∀ms,u≠.interface ms:=by split at h;cases h;rename_i J;obtain⟨z,hz,h⟩:=bind_eq h;obtain⟨x',A,h⟩:=bind_eq h;exact⟨z,x',hz,A,(bn h).symm,λms e=>J ms e⟩
  obtain⟨z,x',hz,A,rfl,J⟩:=O;obtain⟨B,E⟩:=A9 s A;have G:Ti t z ok (G9 x' ls env)=some v:=F;clear F;generalize G9 x' ls env=y at *;cases y with
  | nilIface=>
   cases ok with
   | false=>cases G
   | true=>have G:some (o7.tuple [z,.bool false])=some v:=G;cases G;refine⟨⟨(ou (w:=default) hz ι).2 n,trivial,trivial⟩,λo C w=>?_⟩;have a8:=(ou (w:=w) hz ι).1;simp only [execOp,C,Instr.typeAssert,J8,run_underlying L,J2,B,u6];cases u<;>first | exact absurd rfl (J _) | simp [a8,z8,u6]
  | iface t' y=>
   have G:bi (Nat.beq t' t) (some (bi ok (.tuple [y,.bool true]) y)) (bi ok (some (.tuple [z,.bool false])) none)=some v:=G;cases hb:Nat.beq t' t with
   | true=>
    have he:=q9 hb;rw [hb] at G;have G:some (bi ok (.tuple [y,.bool true]) y)=some v:=G;cases ok with
    | false=>have G:some y=some v:=G;cases G;refine⟨E,λo C w=>?_⟩;simp only [execOp,C,Instr.typeAssert,J8,run_underlying L,J2,B,u6];cases u<;>first | exact absurd rfl (J _) | simp [he]
    | true=>have G:some (o7.tuple [y,.bool true])=some v:=G;cases G;refine⟨⟨E,trivial,trivial⟩,λo C w=>?_⟩;simp only [execOp,C,Instr.typeAssert,J8,run_underlying L,J2,B,u6];cases u<;>first | exact absurd rfl (J _) | simp [he,z8,u6]
   | false=>
    have he:t'≠t:=Nat.ne_of_beq_eq_false hb;rw [hb] at G;cases ok with
    | false=>cases G
    | true=>have G:some (o7.tuple [z,.bool false])=some v:=G;cases G;refine⟨⟨(ou (w:=default) hz ι).2 n,trivial,trivial⟩,λo C w=>?_⟩;have a8:=(ou (w:=w) hz ι).1;simp only [execOp,C,Instr.typeAssert,J8,run_underlying L,J2,B,u6];cases u<;>first | exact absurd rfl (J _) | simp [a8,he,z8,u6]
  | _=>cases G
 | makeFunc fn f c=>
  simp only [iA] at h;have O:∃g f' c',fn=.func g∧jY P slots done f.toList=some f'∧jY P slots done c.toList=some c'∧S=.mkFunc (.func g) f' c':=by split at h;obtain⟨f',W,h⟩:=bind_eq h;obtain⟨c',hc,h⟩:=bind_eq h;exact⟨_,f',c',rfl,W,hc,(bn h).symm⟩;cases h
  obtain⟨g,f',c',rfl,W,hc,rfl⟩:=O;cases F;obtain⟨B,E⟩:=lT s W;obtain⟨V,e4⟩:=lT s hc;refine⟨⟨trivial,E,e4⟩,λo C w=>?_⟩;have q1:f.map a.eval=(z8 ι (evs (gY f') ls env)).toArray:=by apply alW.1;rw [aj7];exact B
  have q2:c.map a.eval=(z8 ι (evs (gY c') ls env)).toArray:=by apply alW.1;rw [aj7];exact V
  simp [execOp,C,Instr.makeFunc,q1,q2,u6,jR]
 | slice t x lo hi mx=>
  simp only [iA] at h;cases mx with
  | some _=>simp at h
  | none=>
  simp only at h;obtain⟨u,L,h⟩:=bind_eq h;split at h;obtain⟨x',A,h⟩:=bind_eq h;obtain⟨ab,a5,h⟩:=bind_eq h;obtain⟨a9,a4,h⟩:=bind_eq h;obtain rfl:=bn h;obtain⟨B,E⟩:=A9 s A;obtain⟨str,d,D⟩:=jg F;have d:G9 x' ls env=.str str:=d;obtain⟨l,h,H,_,_,Q⟩:=tN s a5 a4 D;obtain⟨Z,H⟩:=D8 H;obtain⟨g2,H⟩:=D8 H;obtain⟨r,h5,h6⟩:=D5 H;cases h6;have Z:=U9 Z;have g2:=U9 g2;simp only [I9,jE] at *;obtain⟨rfl,_⟩:=lQ _ _ _ h5;refine⟨by simp [o7.lt],λo C w=>?_⟩;simp only [execOp,C,Instr.sliceAt,J8,run_underlying L,J2,Instr.slice,B,d,u6];simp only [afy,Option.isSome_none,Xd,if_false,J8,oQ,Z7,J2];rw [Q false str.length str.length w rfl Z g2];simp only [J2,Z7];congr 3;apply ByteArray.ext;simp [ByteArray.data_extract,ahA];obtain⟨es,_,h⟩:=bind_eq h;obtain⟨x',A,h⟩:=bind_eq h;obtain⟨ab,a5,h⟩:=bind_eq h;obtain⟨a9,a4,h⟩:=bind_eq h;cases h;rename_i n' e';obtain⟨es,U,h⟩:=bind_eq h;obtain⟨x',A,h⟩:=bind_eq h;obtain⟨ab,a5,h⟩:=bind_eq h;obtain⟨a9,a4,h⟩:=bind_eq h;obtain rfl:=bn h;obtain⟨B,E⟩:=A9 s A;obtain⟨i,o,d,D⟩:=fG F;have d:G9 x' ls env=.ptr i o:=d;rw [d] at B E;obtain⟨l,h,H,_,_,Q⟩:=tN s a5 a4 D;obtain⟨Z,H⟩:=D8 H;obtain⟨g2,H⟩:=D8 H;cases H;have Z:=U9 Z;have g2:=U9 g2;refine⟨E,λI C w=>?_⟩;simp only [execOp,C,Instr.sliceAt,J8,run_underlying L,J2,B,u6,Instr.sureAddr,Z7,afy];rw [Q false _ _ w rfl Z g2];simp only [J2,J8,run_sizeOf U,Z7];rw [vU,K7.oP];by_cases hl:n'=l;rw [if_pos hl,if_pos hl.symm];rfl;rw [if_neg hl,if_neg (λe=>hl e.symm)];rfl;cases h
 | fieldAddr t x f=>
  simp only [iA] at h;obtain⟨u,L,h⟩:=bind_eq h;have O:∃fs Y x' X,u=.struct fs∧fs[f]?=some Y∧aY P Y.type=some X∧X≠0∧N8 P slots done x=some x'∧S=.fAddr Y.offset x':=by split at h;obtain⟨Y,W,h⟩:=bind_eq h;obtain⟨X,R,h⟩:=bind_eq h;split at h;cases h;obtain⟨x',A,h⟩:=bind_eq h;exact⟨_,Y,x',X,rfl,W,R,by assumption,A,(bn h).symm⟩;cases h
  obtain⟨fs,Y,x',X,rfl,W,R,J,A,rfl⟩:=O;obtain⟨B,E⟩:=A9 s A;obtain⟨i,o,d,D⟩:=fG F;have d:G9 x' ls env=.ptr i o:=d;cases D;rw [d] at B E;refine⟨E,λI C w=>?_⟩;simp only [execOp,C,Instr.fieldAt,J8,run_underlying L,J2,W,B,u6,Instr.sureAddr,Z7,fieldPlace,run_sizeOf R,if_neg J,K7.oP];rfl
 | field t x f=>
  simp only [iA] at h;obtain⟨u,L,h⟩:=bind_eq h;have O:∃fs Y x' X,u=.struct fs∧fs[f]?=some Y∧partT P Y.type=some X∧N8 P slots done x=some x'∧S=.fld Y.offset X x':=by split at h;obtain⟨Y,W,h⟩:=bind_eq h;obtain⟨X,R,h⟩:=bind_eq h;obtain⟨x',A,h⟩:=bind_eq h;exact⟨_,Y,x',X,rfl,W,R,A,(bn h).symm⟩;cases h
  obtain⟨fs,Y,x',X,rfl,W,R,A,rfl⟩:=O;obtain⟨B,E⟩:=A9 s A;have a6:∃l,G9 x' ls env=.agg l∧Aa X l Y.offset=some v:=by
   cases X with
   | none=>obtain⟨l,d,D⟩:=fH F;exact⟨l,d,by simpa [Aa] using D⟩
   | some k=>obtain⟨l,d,D⟩:=fH F;exact⟨l,d,by simpa [Aa] using D⟩
  obtain⟨l,d,D⟩:=a6;rw [d] at B E;obtain⟨Z,g2⟩:=FT (ι:=ι) R (show bB n l from E) Y.offset D;refine⟨Z,λI C w=>?_⟩;simp [execOp,C,Instr.field,run_underlying L,W,B,u6,asAgg,g2]
 | indexAddr t x i=>simp only [iA] at h;obtain⟨u,L,h⟩:=bind_eq h;split at h;obtain⟨es,U,h⟩:=bind_eq h;obtain⟨x',A,h⟩:=bind_eq h;obtain⟨i',hi,h⟩:=bind_eq h;obtain rfl:=bn h;obtain⟨B,E⟩:=A9 s A;obtain⟨V,_⟩:=A9 s hi;rcases tJ F with⟨_,D⟩ | ⟨id,off,N,cap,d,D⟩ | ⟨id,off,N,es',d,D⟩;cases D;obtain⟨k,m,H,M,Q⟩:=idx_eq D;cases Q;have d:G9 x' ls env=.slice id off N cap:=d;have H:G9 i' ls env=.int k (m:Int):=H;rw [d] at B E;refine⟨E,λI C w=>?_⟩;simp only [execOp,C,J8,B,V,H,u6,yC L U _ _ _ _ _ M,K7.oP,J2,Z7];rfl;obtain⟨k,m,H,M,Q⟩:=idx_eq D;cases Q;have d:G9 x' ls env=.sliceU id off N es':=d;have H:G9 i' ls env=.int k (m:Int):=H;rw [d] at B E;refine⟨E.1,λI C w=>?_⟩;simp only [execOp,C,J8,B,V,H,u6,yC L U _ _ _ _ _ M,K7.oP,J2,Z7];rfl;obtain⟨es,U,h⟩:=bind_eq h;obtain⟨x',A,h⟩:=bind_eq h;obtain⟨i',hi,h⟩:=bind_eq h;obtain rfl:=bn h;obtain⟨B,E⟩:=A9 s A;obtain⟨V,_⟩:=A9 s hi;obtain⟨id,off,d,D⟩:=fG F;obtain⟨k,m,H,M,Q⟩:=idx_eq D;cases Q;have d:G9 x' ls env=.ptr id off:=d;have H:G9 i' ls env=.int k (m:Int):=H;rw [d] at B E;refine⟨E,λI C w=>?_⟩;simp only [execOp,C,J8,B,V,H,u6,IY L U _ _ _ M,K7.oP,J2,Z7];rfl;cases h
 | index t x i=>
  simp only [iA] at h;obtain⟨u,L,h⟩:=bind_eq h;split at h;obtain⟨x',A,h⟩:=bind_eq h;obtain⟨i',hi,h⟩:=bind_eq h;obtain rfl:=bn h;obtain⟨B,E⟩:=A9 s A;obtain⟨V,_⟩:=A9 s hi;obtain⟨str,d,D⟩:=jg F;obtain⟨k,m,H,Q⟩:=gT D;obtain⟨b,h5,h6⟩:=D5 Q;cases h6;have d:G9 x' ls env=.str str:=d;have H:G9 i' ls env=.int k (m:Int):=H;rw [jN] at h5;refine⟨by simp [o7.lt],λI C w=>?_⟩;obtain⟨M,hb⟩:=y8.1 h5;have aa:(⟨str.toArray⟩:ByteArray)[m]?=some b:=by rw [ByteArray.getElem?_lt' _ _ (by rw [oQ];exact M)];congr 1
  simp only [execOp,C,Instr.index,J8,run_underlying L,B,d,V,H,u6,asIntOf,Z7,J2];rw [if_pos (Int.natCast_nonneg m),aj4,aa];rfl;rename_i N ai;obtain⟨es,U,h⟩:=bind_eq h;obtain⟨X,R,h⟩:=bind_eq h;obtain⟨x',A,h⟩:=bind_eq h;obtain⟨i',hi,h⟩:=bind_eq h;obtain rfl:=bn h;obtain⟨B,E⟩:=A9 s A;obtain⟨V,_⟩:=A9 s hi;have a6:∃l k,∃m:Nat,G9 x' ls env=.agg l∧G9 i' ls env=.int k (m:Int)∧m<N∧Aa X l (m*es)=some v:=by
   cases X with
   | none=>obtain⟨l,d,D⟩:=fH F;obtain⟨k,m,H,M,Q⟩:=idx_eq D;exact⟨l,k,m,d,H,M,by simpa [Aa] using Q⟩
   | some k=>obtain⟨l,d,D⟩:=fH F;obtain⟨k',m,H,M,Q⟩:=idx_eq D;exact⟨l,k',m,d,H,M,by simpa [Aa] using Q⟩
  obtain⟨l,k,m,d,H,M,D⟩:=a6;rw [d] at B E;obtain⟨Z,g2⟩:=FT (ι:=ι) R (show bB n l from E) (m*es) D;refine⟨Z,λI C w=>?_⟩;simp [execOp,C,Instr.index,run_underlying L,run_sizeOf U,B,V,H,u6,asIntOf,M,g2];cases h
 | extract x i=>simp only [iA] at h;obtain⟨x',A,h⟩:=bind_eq h;obtain rfl:=bn h;obtain⟨B,E⟩:=A9 s A;obtain⟨l,d,D⟩:=aaR F;have d:G9 x' ls env=.tuple l:=d;rw [jN] at D;rw [d] at B E;refine⟨P5 (show bB n l from E) (Xb D),λI C w=>?_⟩;simp [execOp,C,Instr.extract,B,u6,aX,D]
 | call c=>
  obtain⟨a3,T,ts⟩:=c;simp only [iA] at h;cases a3 with
  | invoke _ _=>cases h
  | value f=>
   cases f with
   | func f=>
    obtain⟨fn,ae,h⟩:=bind_eq h;split at h;obtain⟨os,_,h⟩:=bind_eq h;cases h;split at h;rename_i a2;obtain⟨T⟩:=T;simp only [l9,beq_iff_eq] at a2;match T,h with
    | [x],h=>obtain⟨x',A,h⟩:=bind_eq h;obtain rfl:=bn h;cases F;obtain⟨B,E⟩:=A9 s A;refine⟨E,λo C w=>?_⟩;have:=Va ae a2.1.1 a2.1.2 a2.2 (u6 ι (G9 x' ls env)) w;have W:a.eval (.func f)=.func (.func f) #[] #[]:=rfl;simp [execOp,C,resolve,invoke,W,Deferred.ofValue,this,B]
    | [],h=>cases h
    | _ :: _ :: _,h=>cases h
    cases h
   | _=>obtain⟨x',_,h⟩:=bind_eq h;obtain⟨os,_,h⟩:=bind_eq h;cases h
  | builtin b=>
   obtain⟨T⟩:=T;obtain⟨ts⟩:=ts;simp only [vL] at h;split at h
   ·
    rename_i t x;obtain⟨u,L,h⟩:=bind_eq h;have O:∃x',(N8 P slots done x=some x'∧u=.string∧S=.fE x')∨(N8 P slots done x=some x'∧(∃e,u=.slice e)∧S=.len x')∨∃k e,u=.array k e∧S=.mov (.con (.int .i64 k)):=by split at h;obtain⟨x',A,h⟩:=bind_eq h;exact⟨x',.inl ⟨A,rfl,(bn h).symm⟩⟩;obtain⟨x',A,h⟩:=bind_eq h;exact⟨x',.inr (.inl ⟨A,⟨_,rfl⟩,(bn h).symm⟩)⟩;exact⟨default,.inr (.inr ⟨_,_,rfl,(bn h).symm⟩)⟩;obtain⟨x',A,h⟩:=bind_eq h;cases h;cases h
    obtain⟨x',⟨A,rfl,rfl⟩ | ⟨A,⟨e,rfl⟩,rfl⟩ | ⟨k,e,rfl,rfl⟩⟩:=O;obtain⟨B,_⟩:=A9 s A;obtain⟨str,d,D⟩:=jg F;have d:G9 x' ls env=.str str:=d;cases D;exact⟨by simp [o7.lt],λo C w=>by simp [execOp,C,resolve,invoke,builtin,Builtin.len_,run_underlying L,B,d,u6,goInt,oQ]⟩;obtain⟨B,_⟩:=A9 s A;rcases tJ F with⟨d,D⟩ | ⟨id,off,N,cap,d,D⟩ | ⟨id,off,N,cap,d,D⟩;have d:G9 x' ls env=.nilSlice:=d;cases D;exact⟨by simp [o7.lt],λo C w=>by simp [execOp,C,resolve,invoke,builtin,Builtin.len_,run_underlying L,B,d,u6,goInt]⟩;have d:G9 x' ls env=.slice id off N cap:=d;cases D;exact⟨by simp [o7.lt],λo C w=>by simp [execOp,C,resolve,invoke,builtin,Builtin.len_,run_underlying L,B,d,u6,goInt]⟩;have d:G9 x' ls env=.sliceU id off N cap:=d;cases D;exact⟨by simp [o7.lt],λo C w=>by simp [execOp,C,resolve,invoke,builtin,Builtin.len_,run_underlying L,B,d,u6,goInt]⟩;cases F;refine⟨by simp [G9,G6,o7.lt],λo C w=>?_⟩;simp [execOp,C,resolve,invoke,builtin,Builtin.len_,run_underlying L,G9,G6,u6,goInt]
   ·
    rename_i t x;obtain⟨u,L,h⟩:=bind_eq h;split at h;obtain⟨x',A,h⟩:=bind_eq h;obtain rfl:=bn h;obtain⟨B,_⟩:=A9 s A;rcases tJ F with⟨d,D⟩ | ⟨id,off,N,cap,d,D⟩ | ⟨_,_,_,_,_,D⟩;have d:G9 x' ls env=.nilSlice:=d;cases D;exact⟨by simp [o7.lt],λo C w=>by simp [execOp,C,resolve,invoke,builtin,Builtin.cap_,run_underlying L,B,d,u6,goInt]⟩;have d:G9 x' ls env=.slice id off N cap:=d;cases D;exact⟨by simp [o7.lt],λo C w=>by simp [execOp,C,resolve,invoke,builtin,Builtin.cap_,run_underlying L,B,d,u6,goInt]⟩;cases D;cases h
   ·obtain⟨u,L,h⟩:=bind_eq h;split at h
    ·obtain⟨_,_,h⟩:=bind_eq h;split at h;all_goals (repeat' (first | (cases h;done) | (obtain⟨_,_,h⟩:=bind_eq h)))
    cases h
   obtain⟨u,L,h⟩:=bind_eq h;split at h;obtain⟨_,_,h⟩:=bind_eq h;obtain⟨_,_,h⟩:=bind_eq h;obtain⟨_,_,h⟩:=bind_eq h;cases h;cases h;obtain⟨u,L,h⟩:=bind_eq h;split at h;obtain⟨_,_,h⟩:=bind_eq h;obtain⟨_,_,h⟩:=bind_eq h;cases h;cases h
   ·
    rename_i x xs;obtain⟨x',A,h⟩:=bind_eq h;obtain⟨ah,a7,h⟩:=bind_eq h;obtain rfl:=bn h;obtain⟨B,E⟩:=A9 s A;obtain⟨V,e4⟩:=lT s a7;obtain⟨Z,g2⟩:=Ox (P:=P) (ι:=ι) true _ _ v e4 E F;refine⟨Z,λo C w=>?_⟩;have:=g2 w;simp only [if_true] at this;simp [execOp,C,resolve,invoke,builtin,Builtin.max_,B,V,this]
   rename_i x xs;obtain⟨x',A,h⟩:=bind_eq h;obtain⟨ah,a7,h⟩:=bind_eq h;obtain rfl:=bn h;obtain⟨B,E⟩:=A9 s A;obtain⟨V,e4⟩:=lT s a7;obtain⟨Z,g2⟩:=Ox (P:=P) (ι:=ι) false _ _ v e4 E F;refine⟨Z,λo C w=>?_⟩;have:=g2 w;simp only [Xd,if_false] at this;simp [execOp,C,resolve,invoke,builtin,Builtin.min_,B,V,this];cases h;obtain⟨u,L,h⟩:=bind_eq h;split at h;obtain⟨x',A,h⟩:=bind_eq h;cases h;cases h
   ·obtain⟨u,L,h⟩:=bind_eq h;repeat' (first | (cases h;done) | (obtain⟨_,_,h⟩:=bind_eq h) | split at h)
   cases h
 | alloc t=>simp only [iA] at h;split at h;all_goals (obtain⟨_,_,h⟩:=bind_eq h;cases h)
 | box t x=>simp only [iA] at h;split at h;obtain⟨_,_,h⟩:=bind_eq h;obtain⟨_,_,h⟩:=bind_eq h;cases h;obtain⟨_,_,h⟩:=bind_eq h;cases h
 | buildSlice t N parts=>simp only [iA] at h;obtain⟨_,_,h⟩:=bind_eq h;split at h;obtain⟨_,_,h⟩:=bind_eq h;obtain⟨_,_,h⟩:=bind_eq h;split at h;obtain⟨_,_,h⟩:=bind_eq h;cases h;cases h;cases h
 | insert t m k x=>simp only [iA] at h;obtain⟨_,_,h⟩:=bind_eq h;split at h;obtain⟨_,_,h⟩:=bind_eq h;obtain⟨_,_,h⟩:=bind_eq h;obtain⟨_,_,h⟩:=bind_eq h;obtain⟨_,_,h⟩:=bind_eq h;cases h;cases h
 | mapUpdate t m k x=>simp only [iA] at h;obtain⟨_,_,h⟩:=bind_eq h;split at h;obtain⟨_,_,h⟩:=bind_eq h;obtain⟨_,_,h⟩:=bind_eq h;obtain⟨_,_,h⟩:=bind_eq h;obtain⟨_,_,h⟩:=bind_eq h;cases h;cases h
 | load t x=>simp only [iA] at h;obtain⟨_,_,h⟩:=bind_eq h;obtain⟨_,_,h⟩:=bind_eq h;cases h
 | store t x y=>simp only [iA] at h;obtain⟨_,_,h⟩:=bind_eq h;obtain⟨_,_,h⟩:=bind_eq h;obtain⟨_,_,h⟩:=bind_eq h;cases h
 | makeMap t r=>simp only [iA] at h;repeat' (first | (cases h;done) | split at h)
 | makeSlice t l c=>simp only [iA] at h;obtain⟨_,_,h⟩:=bind_eq h;split at h;obtain⟨_,_,h⟩:=bind_eq h;obtain⟨_,_,h⟩:=bind_eq h;obtain⟨_,_,h⟩:=bind_eq h;obtain⟨_,_,h⟩:=bind_eq h;obtain⟨_,_,h⟩:=bind_eq h;cases h;cases h
 | lookup t x k ok=>simp only [iA] at h;obtain⟨_,_,h⟩:=bind_eq h;split at h;obtain⟨_,_,h⟩:=bind_eq h;obtain⟨_,_,h⟩:=bind_eq h;obtain⟨_,_,h⟩:=bind_eq h;obtain⟨_,_,h⟩:=bind_eq h;cases h;cases h
 | range t x=>simp only [iA] at h;obtain⟨_,_,h⟩:=bind_eq h;split at h;obtain⟨_,_,h⟩:=bind_eq h;cases h;obtain⟨_,_,h⟩:=bind_eq h;cases h;cases h
 | next it is=>cases is;simp only [iA] at h;obtain⟨_,_,h⟩:=bind_eq h;cases h;simp only [iA] at h;obtain⟨_,_,h⟩:=bind_eq h;cases h
 | entry it=>simp only [iA] at h;obtain⟨_,_,h⟩:=bind_eq h;cases h
 | panic x=>simp only [iA] at h;obtain⟨_,_,h⟩:=bind_eq h;cases h
 | defer c=>simp only [iA] at h;split at h;obtain⟨_,_,h⟩:=bind_eq h;obtain⟨_,_,h⟩:=bind_eq h;cases h;cases h
 | _=>simp only [iA] at h;cases h
end
end
end Go.AM
