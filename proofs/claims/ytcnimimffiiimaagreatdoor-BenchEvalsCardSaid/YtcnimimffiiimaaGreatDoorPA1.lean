/- A part of an evaluator for the model, proved sound: what it answers holds of the model; it speaks of every program, no condition. -/
import GoSem.Core.Code
import GoSem.Core.Program
import GoSem.Core.View
import GoSem.Core.World
import GoSem.Core.Utf8
import GoSem.Core.Region
import GoSem.Core.Layout
import GoSem.Op.Equal
import GoSem.Extern.Table
import Derived.CallsIn
import Derived.Laws.Sem
import GoSem.Dispatch
import Derived.Laws.Strings
import Derived.KernelRfl
import Derived.Laws.Externs
set_option linter.all false
namespace Go.AM
open Go
abbrev aA:=@List.mem_singleton
abbrev aP:=@Nat.eq_of_beq_eq_true
abbrev gq:=@List.getElem?_eq_some_iff
abbrev gy:=@List.getElem?_eq_getElem
abbrev gB:=@Option.some.injEq
abbrev gI:=@Bool.and_eq_true
abbrev gM:=@Result.andThen_ok
abbrev lM:=@Nat.le_refl
abbrev q8:=@Array.getElem?_eq_some_iff
abbrev q9:=@Nat.lt_of_lt_of_le
abbrev Hl:=@Array.getD_eq_getD_getElem?
abbrev J2:=@Nat.le_trans
abbrev J3:=@Sem.run_bind
abbrev J4:=@List.drop_zero
abbrev K9:=@Nat.le_of_ble_eq_true
abbrev U9:=@List.mem_of_getElem?
abbrev W9:=@Array.getElem?_setIfInBounds_ne
abbrev Xb:=@Nat.blt_eq
abbrev Xd:=@List.drop_eq_getElem_cons
abbrev Xl:=@Option.some.inj
abbrev X3:=@Array.getElem?_setIfInBounds_self_of_lt
abbrev X4:=@List.mem_cons
abbrev X6:=@List.getD_eq_getElem?_getD
abbrev Y1:=@List.mem_cons_of_mem
abbrev Y2:=@Sem.run_pure
abbrev Y3:=@List.length_cons
abbrev Y4:=@List.getElem?_append_left
abbrev Y5:=@Nat.add_zero
abbrev Y6:=@List.map_cons
abbrev Y7:=@List.take_of_length_le
abbrev Y8:=@Nat.mul_le_mul_right
abbrev Z4:=@Nat.ble_eq_true_of_le
abbrev Z5:=@List.mem_append
abbrev Z6:=@Array.getElem?_eq_getElem
abbrev Z7:=@List.length_append
abbrev Z8:=@Nat.zero_add
abbrev Z9:=@Array.toArray_toList
abbrev aao:=@List.getElem?_of_mem
abbrev aap:=@List.all_eq_true
abbrev aaq:=@List.getElem?_append_right
abbrev aar:=@Nat.mod_two_eq_zero_or_one
abbrev aas:=@List.getElem?_map
abbrev aat:=@Nat.beq_refl
abbrev aau:=@Bool.false_eq_true
abbrev aav:=@Option.map_some
abbrev aaw:=@Option.bind_eq_some_iff
abbrev aax:=@List.length_eq_zero_iff
abbrev aay:=@Option.map_eq_some_iff
abbrev aaz:=@Bool.eq_iff_iff
abbrev aaA:=@List.getElem_mem
abbrev aaB:=@Bool.eq_false_iff
abbrev aaC:=@List.drop_length
abbrev aaO:=@Bool.false_or
abbrev aaZ:=@Nat.succ_mul
abbrev abH:=@Array.getElem?_replicate
abbrev abT:=@List.mem_range
abbrev abU:=@List.mem_cons_self
abbrev abV:=@Nat.sub_add_cancel
abbrev abW:=@List.getElem?_cons_succ
abbrev abX:=@List.mem_append_left
abbrev abY:=@Bool.true_and
abbrev abZ:=@List.getElem_cons_zero
abbrev acN:=@List.getElem?_inj
abbrev ac0:=@List.mem_append_right
abbrev ac1:=@List.getElem?_toArray
abbrev ac2:=@Array.ext_getElem?
abbrev ac3:=@Option.bind_some
abbrev ac4:=@List.mem_map
abbrev ac5:=@List.map_append
abbrev ac6:=@List.drop_of_length_le
abbrev ac7:=@Nat.zero_mul
abbrev adw:=@Nat.add_mul
abbrev adB:=@Nat.le_of_not_lt
abbrev adC:=@List.take_succ_eq_append_getElem
abbrev adD:=@Nat.le_div_iff_mul_le
abbrev adE:=@Nat.mul_comm
abbrev adG:=@Bool.or_eq_false_iff
abbrev adH:=@List.mem_of_mem_drop
abbrev ad6:=@Prod.ext_iff
abbrev aev:=@List.length_map
abbrev aew:=@List.nodup_cons
abbrev aex:=@List.mem_filter
abbrev aey:=@List.size_toArray
abbrev aez:=@Nat.add_assoc
abbrev aeA:=@List.eq_nil_of_length_eq_zero
abbrev aeB:=@Array.getElem?_eq_none
abbrev aeC:=@List.getElem?_take
abbrev aeD:=@Nat.lt_or_ge
abbrev aeE:=@Bool.or_eq_true
abbrev aeF:=@List.getElem?_eq_none
abbrev aeG:=@List.cons.injEq
abbrev aeH:=@List.sum_cons
abbrev aeI:=@List.mem_of_mem_take
abbrev aeJ:=@List.getElem?_drop
abbrev aeK:=@Option.map_none
abbrev aeL:=@Nat.lt_of_lt_of_eq
abbrev aeM:=@List.getElem_cons_succ
abbrev aeN:=@Nat.zero_le
abbrev aeO:=@Nat.lt_trichotomy
abbrev aeP:=@List.map_map
abbrev aeQ:=@Nat.le_of_lt
abbrev aeR:=@Calls.mono
abbrev aeS:=@Nat.mod_eq_of_lt
abbrev aeT:=@Bool.or_assoc
abbrev aeU:=@List.all_cons
abbrev aeV:=@Nat.lt_irrefl
abbrev aeW:=@List.filter_eq_self
abbrev aeX:=@List.mem_map_of_mem
abbrev aeY:=@List.extract_eq_take_drop
abbrev aeZ:=@List.exists_mem_of_ne_nil
abbrev afa:=@List.getElem?_zip_eq_some
abbrev af0:=@Nat.mul_div_cancel
abbrev af3:=@Nat.pos_of_ne_zero
abbrev af4:=@Ne.symm
abbrev af5:=@Int.negSucc_eq
abbrev af6:=@List.filter_cons_of_neg
abbrev af7:=@List.filter_cons_of_pos
abbrev aga:=@List.length_range
abbrev agb:=@Array.getElem?_push_lt
abbrev agc:=@List.filter_eq_nil_iff
abbrev agd:=@Array.setIfInBounds_eq_of_size_le
abbrev agf:=@Bool.or_false
abbrev agh:=@Bool.not_true
abbrev agi:=@Array.getElem?_modify
abbrev agj:=@Bool.and_eq_false_iff
abbrev agk:=@Nat.mod_lt
abbrev agl:=@List.range_eq_range'
abbrev agm:=@List.nil_append
abbrev agn:=@List.forIn_cons
abbrev agp:=@Nat.add_comm
abbrev agq:=@List.append_nil
abbrev agr:=@Nat.ne_of_lt
abbrev ags:=@List.length_nil
abbrev agt:=@List.length_pos_iff
abbrev agu:=@List.take_succ_cons
abbrev ag5:=@List.map_congr_left
abbrev ag6:=@List.drop_drop
abbrev ag7:=@Bool.false_and
abbrev ag8:=@Nat.add_sub_cancel
abbrev ag9:=@Array.forIn_toList
abbrev ahN:=@Prod.mk.injEq
abbrev aic:=@Array.getElem?_append_left
abbrev aiB:=@Nat.le_succ_of_le
abbrev aiC:=@Int.toNat_natCast
abbrev aiL:=@Array.mapM_eq_mapM_toList
abbrev aiO:=@List.mem_reverse
abbrev ai1:=@List.length_take
abbrev ajy:=@CallsIn.mono
abbrev ajA:=@List.not_mem_nil
abbrev ajB:=@Array.toList_map
abbrev ajC:=@Nat.lt_succ_self
abbrev ajD:=@Array.size_setIfInBounds
abbrev ajE:=@Nat.pow_succ
abbrev ajF:=@Int.le_trans
abbrev ajG:=@Option.isSome_iff_exists
abbrev ajH:=@Array.toList_inj
abbrev ajI:=@Nat.div_eq_of_lt
abbrev ajJ:=@Nat.sub_zero
abbrev ajK:=@List.getElem?_cons_zero
abbrev ajL:=@Nat.add_sub_cancel_left
abbrev ajM:=@List.foldl_cons
abbrev ajN:=@UInt8.toNat_inj
abbrev ajO:=@Nat.mul_add_mod
abbrev ajP:=@Nat.div_add_mod
abbrev ajS:=@Nat.le_succ
abbrev ajT:=@Nat.mul_one
abbrev ajV:=@Bool.not_false
abbrev ajW:=@List.mapM_cons
abbrev ajZ:=@List.map_take
abbrev akb:=@List.map_drop
abbrev akc:=@Bool.and_true
end Go.AM
namespace Go.AM
open Go
noncomputable section
inductive T (α:Type) where
 | e:T α
 | nd:T α->α->T α->T α
inductive d9 where
 | undef
 | bool (b:Bool)
 | int (k:IntKind) (n:Int)
 | str (s:List UInt8)
 | nilPtr
 | ptr (id off:Nat)
 | nilSlice
 | slice (id off len cap:Nat)
 | sliceU (id off len es:Nat)
 | nilMap
 | map (id:Nat)
 | nilFunc
 | func (fn:Fn) (first captured:List d9)
 | nilIface
 | iface (t:TypeId) (v:d9)
 | agg (l:List d9)
 | tuple (l:List d9)
 | ng (v:d9)
 deriving Inhabited
def d9.cells:d9->List d9
 | .agg l=>l
 | v=>[v]
inductive N9 where
 | loc (k:Nat)
 | slot (j:Nat)
 | con (v:d9)
 deriving Inhabited
inductive PK where
 | i | b | s
 deriving Inhabited,DecidableEq
inductive yK where
 | prim (k:PK) | flat (ks:List PK) | ptr | slice | map | func | iface
 deriving Inhabited,DecidableEq
inductive Sn where
 | mov (x:N9)
 | pick (c a b:N9)
 | build (zero:List d9) (parts:List (Nat×Nat×N9))
 | nilCheck (x:N9)
 | ib (op:BinOp) (x y:N9)
 | eq (neg:Bool) (k:yK) (x y:N9)
 | not (x:N9)
 | neg (x:N9)
 | inv (x:N9)
 | conv (k:IntKind) (x:N9)
 | mkIface (t:TypeId) (x:N9)
 | mkFunc (fn:Fn) (first captured:List N9)
 | slStr (x:N9) (lo hi:Option N9)
 | slArr (es n:Nat) (x:N9) (lo hi:Option N9)
 | fAddr (off:Nat) (x:N9)
 | fld (off:Nat) (size:Option Nat) (x:N9)
 | iAddr (es:Nat) (x i:N9)
 | iAddrArr (es n:Nat) (x i:N9)
 | iArr (es n:Nat) (size:Option Nat) (x i:N9)
 | iStr (x i:N9)
 | ext (x:N9) (i:Nat)
 | len (x:N9)
 | lenS (x:N9)
 | cap (x:N9)
 | mm (max:Bool) (x:N9) (xs:List N9)
 | assert (t:TypeId) (zero:d9) (ok:Bool) (x:N9)
 deriving Inhabited
inductive MO where
 | load (size:Option Nat) (a:N9)
 | look (kk:yK) (zero:d9) (ok:Bool) (m k:N9)
 | lenM (x:N9)
 | bytesStr (x:N9)
 | entry (it:N9)
 | slData (x:N9)
 | toUns (x:N9)
 | fromUns (oks:List (Nat×Nat)) (x:N9)
 deriving Inhabited
inductive Qp where
 | alloc (zero:List d9)
 | box (x:N9)
 | allocT (ty:Nat) (zero:List d9)
 | boxT (ty k:Nat) (x:N9)
 | buildSlice (es len:Nat) (zero:List d9) (parts:List (Nat×Nat×N9))
 | mkMap
 | mkSlice (es bytes:Nat) (zero:List d9) (len cap:N9)
 | strBytes (x:N9)
 | sl (es:Nat) (x:N9) (lo hi:Option N9)
 deriving Inhabited
inductive Sq where
 | store (size:Nat) (a x:N9)
 | mapSet (kk:yK) (m k x:N9)
 | range (x:N9)
 | next (it:N9)
 | app (es:Nat) (zeros:Bool) (zero:List d9) (bytes:Nat) (s x:N9)
 | copy (es:Nat) (d s:N9)
 | clear (zero:List d9) (x:N9)
 | call (f:FuncId) (args:List N9)
 | callv (f:N9) (args:List N9)
 | defer (f:N9) (args:List N9)
 | panic (x:N9)
 | recover
 | bad
 | rangeS (x:N9)
 | nextS (it:N9)
 | appB (ty:Nat) (s x:N9)
 | ustr (ty:Nat) (p n:N9)
 | storeAp (size:Nat) (a x b:N9)
 deriving Inhabited
inductive wR where
 | p (o:Sn)
 | r (o:MO)
 | a (o:Qp)
 | e (o:Sq)
 deriving Inhabited
structure Inst where
 op:wR
 dst:Option Nat
 guard:Option (N9×Bool)
 deriving Inhabited
inductive P9 where
 | skip
 | reg (ops:List Inst)
 | dreg (ids:Nat) (ops:List (Nat×Inst))
 | dreg2 (ids:Nat) (ops:List (Nat×Inst)) (tail:List Inst)
 | seq (a b:P9)
 | cond (c:N9) (thn els:P9)
 | block (id:Nat) (body:P9)
 | loop (body:P9)
 | exit (id:Nat)
 | ret
 | rangeFunc (f:N9) (params:List (Option Nat)) (assign body:P9)
 deriving Inhabited
inductive aT where
 | normal
 | exit (id:Nat)
 | ret
 deriving Inhabited,DecidableEq
inductive Mk where
 | c (id:Nat)
 | d (f:d9) (args:List d9)
 deriving Inhabited
inductive nH where
 | tmp (j:Nat)
 | cell (j:Nat) (size:Option Nat)
 deriving Inhabited
structure AFn where
 nargs:Nat
 args:List (Option Nat)
 nslots:Nat
 results:List nH
 body:P9
 deriving Inhabited
def eH:Sn->List N9
 | .mov x=>[x]
 | .pick a b c=>[a,b,c]
 | .build _ ps=>ps.map (·.2.2)
 | .nilCheck x=>[x]
 | .ib _ x y=>[x,y]
 | .eq _ _ x y=>[x,y]
 | .not x=>[x]
 | .neg x=>[x]
 | .inv x=>[x]
 | .conv _ x=>[x]
 | .mkIface _ x=>[x]
 | .mkFunc _ a b=>a++b
 | .slStr x a b=>x::(a.toList++b.toList)
 | .slArr _ _ x a b=>x::(a.toList++b.toList)
 | .fAddr _ x=>[x]
 | .fld _ _ x=>[x]
 | .iAddr _ x i=>[x,i]
 | .iAddrArr _ _ x i=>[x,i]
 | .iArr _ _ _ x i=>[x,i]
 | .iStr x i=>[x,i]
 | .ext x _=>[x]
 | .len x=>[x]
 | .lenS x=>[x]
 | .cap x=>[x]
 | .mm _ x xs=>x::xs
 | .assert _ _ _ x=>[x]
def wS:MO->List N9
 | .load _ a=>[a]
 | .look _ _ _ m x=>[m,x]
 | .lenM x=>[x]
 | .bytesStr x=>[x]
 | .entry x=>[x]
 | .slData x=>[x]
 | .toUns x=>[x]
 | .fromUns _ x=>[x]
def opsL:Qp->List N9
 | .alloc _=>[]
 | .box x=>[x]
 | .allocT _ _=>[]
 | .boxT _ _ x=>[x]
 | .buildSlice _ _ _ ps=>ps.map (·.2.2)
 | .mkMap=>[]
 | .mkSlice _ _ _ l c=>[l,c]
 | .strBytes x=>[x]
 | .sl _ x a b=>x::(a.toList++b.toList)
def opsE:Sq->List N9
 | .store _ a x=>[a,x]
 | .mapSet _ a b c=>[a,b,c]
 | .range x=>[x]
 | .next x=>[x]
 | .app _ _ _ _ s x=>[s,x]
 | .copy _ d s=>[d,s]
 | .clear _ x=>[x]
 | .call _ a=>a
 | .callv g a=>g::a
 | .defer g a=>g::a
 | .panic x=>[x]
 | .recover=>[]
 | .bad=>[]
 | .rangeS x=>[x]
 | .nextS x=>[x]
 | .appB _ s x=>[s,x]
 | .ustr _ p n=>[p,n]
 | .storeAp _ a x b=>[a,x,b]
def BM:wR->List N9
 | .p o=>eH o
 | .r o=>wS o
 | .a o=>opsL o
 | .e o=>opsE o
variable {α β γ:Type}
def ob (o:Option α)(k:α->Option β):Option β:=Option.rec none (λa=>k a) o
def bi (b:Bool)(x y:α):α:=Bool.rec y x b
def T.get (t:T α):Nat->Option α:=
 T.rec (λ_=>none) (λ_ x _ ihl ihr i=>Nat.rec (some x) (λj _=>Nat.rec (ihl (Nat.div j 2)) (λ_ _=>ihr (Nat.div j 2)) (Nat.mod j 2)) i) t
def T.put (t:T α):Nat->α->T α:=
 T.rec (λ_ x=>.nd .e x .e) (λl y r ihl ihr i x=>Nat.rec (.nd l x r) (λj _=>Nat.rec (.nd (ihl (Nat.div j 2) x) y r) (λ_ _=>.nd l y (ihr (Nat.div j 2) x)) (Nat.mod j 2)) i) t
def T.mD (l:List α):T α->Nat->T α:=
 List.rec (λt _=>t) (λx _ ih t i=>ih (t.put i x) (Nat.succ i)) l
def T.ofList (l:List α):T α:=T.mD l .e 0
def T.slice (t:T α)(n:Nat):Nat->Option (List α):=
 Nat.rec (λ_=>some []) (λ_ ih i=>ob (t.get i) λx=>ob (ih (Nat.succ i)) λxs=>some (x::xs)) n
def T.rep (x:α)(n:Nat):T α->Nat->T α:=
 Nat.rec (λt _=>t) (λ_ ih t i=>ih (t.put i x) (Nat.succ i)) n
def takeN (n:Nat):List α->Option (List α):=
 Nat.rec (λ_=>some []) (λ_ ih l=>List.rec none (λx xs _=>ob (ih xs) λr=>some (x::r)) l) n
def jX (n:Nat):List α->List α:=
 Nat.rec (λl=>l) (λ_ ih l=>List.rec [] (λ_ xs _=>ih xs) l) n
def pq (n:Nat):List α->Option α:=
 Nat.rec (λl=>List.rec none (λx _ _=>some x) l) (λ_ ih l=>List.rec none (λ_ xs _=>ih xs) l) n
def nth (n:Nat):List d9->d9:=
 Nat.rec (λl=>List.rec d9.undef (λx _ _=>x) l) (λ_ ih l=>List.rec d9.undef (λ_ xs _=>ih xs) l) n
def ah (l m:List α):List α:=List.rec m (λx _ ih=>x::ih) l
def len' (l:List α):Nat:=List.rec 0 (λ_ _ ih=>Nat.succ ih) l
def jY (n:Nat)(vs:List α):List α->List α:=
 Nat.rec (λl=>ah vs (jX (len' vs) l)) (λ_ ih l=>List.rec [] (λx xs _=>x::ih xs) l) n
def eP (v:d9)(k:Nat->Nat->Option β):Option β:=match v with
 | .ptr i o=>k i o
 | _=>none
def qh (v:d9)(k:IntKind->Int->Option β):Option β:=match v with
 | .int a b=>k a b
 | _=>none
def nO (v:d9)(k:Bool->Option β):Option β:=match v with
 | .bool b=>k b
 | _=>none
def nI (v:d9)(k:List UInt8->Option β):Option β:=match v with
 | .str s=>k s
 | _=>none
def vL (v:d9)(k:List d9->Option β):Option β:=match v with
 | .agg l=>k l
 | _=>none
def Jz (v:d9)(k:List d9->Option β):Option β:=match v with
 | .tuple l=>k l
 | _=>none
def rJ (v:d9)(nl:Option β)(k:Nat->Option β):Option β:=match v with
 | .nilMap=>nl
 | .map i=>k i
 | _=>none
def qj (v:d9)(nl:Option β)(k:Nat->Nat->Nat->Nat->Option β)(u:Nat->Nat->Nat->Nat->Option β):Option β:=match v with
 | .nilSlice=>nl
 | .slice a b c d=>k a b c d
 | .sliceU a b c d=>u a b c d
 | _=>none
def JA (v:d9)(k:Fn->List d9->List d9->Option β):Option β:=match v with
 | .func f a b=>k f a b
 | _=>none
def JB (n:Int)(k:Nat->Option β):Option β:=match n with
 | .ofNat m=>k m
 | .negSucc _=>none
def iM (v:d9)(k:Nat->Option β):Option β:=qh v λ_ n=>JB n k
inductive N7 where
 | void
 | dead
 | cells (rs n:Nat) (rows:T (List d9))
 | map (es:List (d9×d9))
 | iter (m:Option Nat) (since:Nat) (seen:List Nat)
 | tail (parent:Nat)
 | loop (st:LoopState) (pend:Option aT) (env:T d9) (params:List (Option Nat)) (assign body:P9)
 | deferred
 | siter (s:List UInt8) (pos:Nat)
 | buf (ty:Nat) (s:List UInt8)
 | mapU (es:List (d9×d9))
 deriving Inhabited
structure Mem where
 t:T N7
 nx:Nat
 lim:Nat
def Mem.get (m:Mem)(i:Nat):Option N7:=m.t.get i
def Mem.new (m:Mem)(b:N7):Mem:=⟨m.t.put m.nx b,Nat.succ m.nx,m.lim⟩
def Mem.set (m:Mem)(i:Nat)(b:N7):Mem:=⟨m.t.put i b,m.nx,m.lim⟩
def R4 (b:Option N7)(k:Nat->Nat->T (List d9)->Option β):Option β:=match b with
 | some (.cells rs n rows)=>k rs n rows
 | _=>none
def MP (b:Option N7)(k:List (d9×d9)->Option β):Option β:=match b with
 | some (.map es)=>k es
 | _=>none
def GK (b:Option N7)(k:List (d9×d9)->Option β):Option β:=match b with
 | some (.map es)=>k es
 | some (.mapU es)=>k es
 | _=>none
def aaU (ty:Nat):List d9:=[.ng (.int .u64 (.ofNat ty))]
def Fb (rows:T (List d9)):Option Nat:=ob (rows.get 1) λr=>List.rec none (λv _ _=>match v with
 | .ng (.int .u64 (.ofNat n))=>some n
 | _=>none) r
def cell1 (rs n:Nat)(rows:T (List d9))(off:Nat):Option d9:=
 Bool.rec none (Option.rec none (λrow=>pq (Nat.mod off rs) row) (rows.get (Nat.div off rs))) (Nat.blt (Nat.div off rs) n)
def iO (rs n:Nat)(rows:T (List d9))(off k:Nat):Option (List d9):=
 bi (Nat.blt (Nat.div off rs) n) (ob (rows.get (Nat.div off rs)) λrow=>
  bi (Nat.beq (Nat.mod off rs) 0) (bi (Nat.beq k rs) (some row) (takeN k row)) (takeN k (jX (Nat.mod off rs) row))) none
def P5 (rs n:Nat)(rows:T (List d9))(k:Nat):Nat->Option (List d9):=
 Nat.rec (λ_=>some []) (λ_ ih off=>ob (cell1 rs n rows off) λv=>ob (ih (Nat.succ off)) λl=>some (v::l)) k
def U6 (rs n:Nat)(rows:T (List d9))(off:Nat)(vs:List d9):Option (T (List d9)):=
 bi (Nat.blt (Nat.div off rs) n) (ob (rows.get (Nat.div off rs)) λrow=>
  bi (Nat.ble (Nat.add (Nat.mod off rs) (len' vs)) rs) (some (rows.put (Nat.div off rs) (jY (Nat.mod off rs) vs row))) none) none
def fC (rs n:Nat)(vs:List d9):T (List d9)->Nat->Option (T (List d9)):=
 List.rec (λrows _=>some rows) (λv _ ih rows off=>ob (U6 rs n rows off [v]) λrows'=>ih rows' (Nat.succ off)) vs
def rowsOf (rs n:Nat):List d9->Option (List (List d9)):=
 Nat.rec (λl=>List.rec (some []) (λ_ _ _=>none) l) (λ_ ih l=>ob (takeN rs l) λr=>ob (ih (jX rs l)) λrest=>some (r::rest)) n
def G9 (v:d9):Bool:=match v with
 | .undef | .agg _ | .tuple _ | .ng _=>false
 | _=>true
def K4 (l:List d9):Bool:=List.rec true (λv _ ih=>bi (G9 v) ih false) l
def storeAt (m:Mem)(id off:Nat)(vs:List d9)(k:Mem->Option β):Option β:=
 bi (Nat.blt id m.lim) none (bi (K4 vs) (R4 (m.get id) λrs n rows=>ob (U6 rs n rows off vs) λrows'=>k (m.set id (.cells rs n rows'))) none)
def iD (m:Mem)(id off:Nat)(vs:List d9)(k:Mem->Option β):Option β:=
 List.rec (k m) (λ_ _ _=>bi (Nat.blt id m.lim) none (bi (K4 vs) (R4 (m.get id) λrs n rows=>ob (fC rs n vs rows off) λrows'=>k (m.set id (.cells rs n rows'))) none)) vs
abbrev OF:=List d9->T d9->d9
def X9 (k:Nat):OF:=λls _=>nth k ls
def A8:OF:=λls _=>List.rec d9.undef (λx _ _=>x) ls
def ay:OF:=λls _=>List.rec d9.undef (λ_ l _=>List.rec d9.undef (λx _ _=>x) l) ls
def aH:OF:=λls _=>List.rec d9.undef (λ_ l _=>List.rec d9.undef (λ_ l _=>List.rec d9.undef (λx _ _=>x) l) l) ls
def lD:OF:=λls _=>List.rec d9.undef (λ_ l _=>List.rec d9.undef (λ_ l _=>List.rec d9.undef (λ_ l _=>List.rec d9.undef (λx _ _=>x) l) l) l) ls
def C9 (v:d9):OF:=λ_ _=>v
def gH:T d9->d9:=T.rec .undef (λ_ x _ _ _=>x)
def gL (g:T d9->d9):T d9->d9:=T.rec .undef (λl _ _ _ _=>g l)
def gR (g:T d9->d9):T d9->d9:=T.rec .undef (λ_ _ r _ _=>g r)
def G5 (g:T d9->d9):OF:=λ_ env=>g env
def way:Nat->Nat->T d9->d9
 | 0,_=>λ_=>.undef
 | _+1,0=>gH
 | n+1,j+1=>match j%2 with
  | 0=>gL (way n (j / 2))
  | _=>gR (way n (j / 2))
def D8:N9->OF
 | .loc 0=>A8
 | .loc 1=>ay
 | .loc 2=>aH
 | .loc 3=>lD
 | .loc k=>X9 k
 | .slot j=>G5 (way 64 j)
 | .con v=>C9 v
def dU:List N9->List OF
 | []=>[]
 | x::l=>D8 x::dU l
def jC:Option N9->Option OF
 | none=>none
 | some x=>some (D8 x)
def evs (l:List OF)(ls:List d9)(env:T d9):List d9:=List.rec [] (λx _ ih=>x ls env::ih) l
def sH:d9->T d9->T d9:=λv=>T.rec .e (λl _ r _ _=>.nd l v r)
def sL (s:d9->T d9->T d9):d9->T d9->T d9:=λv=>T.rec .e (λl x r _ _=>.nd (s v l) x r)
def sR (s:d9->T d9->T d9):d9->T d9->T d9:=λv=>T.rec .e (λl x r _ _=>.nd l x (s v r))
def rM:Nat->Nat->d9->T d9->T d9
 | 0,_=>λ_ t=>t
 | _+1,0=>sH
 | n+1,j+1=>match j%2 with
  | 0=>sL (rM n (j / 2))
  | _=>sR (rM n (j / 2))
def C8:d9->T d9->T d9:=λ_ t=>t
def bD:Option Nat->d9->T d9->T d9
 | none=>C8
 | some j=>rM 64 j
def tX (n:Int):Int:=match n with
 | .ofNat m=>bi (Nat.blt m 9223372036854775808) (.ofNat m) (IntKind.i64.wrap (.ofNat m))
 | .negSucc m=>bi (Nat.blt m 9223372036854775808) (.negSucc m) (IntKind.i64.wrap (.negSucc m))
def kV (k:IntKind)(n:Int):Int:=match k with
 | .i64=>tX n
 | k=>k.wrap n
def aX:Int->Int->Bool
 | .ofNat a,.ofNat b=>Nat.beq a b
 | .negSucc a,.negSucc b=>Nat.beq a b
 | _,_=>false
def nP:Int->Int->Bool
 | .ofNat a,.ofNat b=>Nat.blt a b
 | .negSucc _,.ofNat _=>true
 | .ofNat _,.negSucc _=>false
 | .negSucc a,.negSucc b=>Nat.blt b a
def WY (a b:IntKind):Bool:=match a,b with
 | .i64,.i64=>true
 | a,b=>decide (a=b)
def strEq (a:List UInt8):List UInt8->Bool:=
 List.rec (λb=>List.rec true (λ_ _ _=>false) b) (λx _ ih b=>List.rec false (λy ys _=>bi (Nat.beq x.toNat y.toNat) (ih ys) false) b) a
def ql:List UInt8->List UInt8->Bool
 | _,[]=>false
 | [],_ :: _=>true
 | a::x,b::y=>a<b||(a==b&&ql x y)
def wT (k:IntKind)(f:BitVec k.bits->BitVec k.bits->BitVec k.bits)(a b:Int):d9:=
 .int k (k.wrap (f (BitVec.ofInt k.bits a) (BitVec.ofInt k.bits b)).toNat)
def Qq (b:Int)(r:Option d9):Option d9:=match b with
 | .ofNat 0=>none
 | _=>r
abbrev IB:=IntKind->Int->Int->Option d9
def aV:IB:=λk a b=>some (.int k (kV k (a+b)))
def qZ:IB:=λk a b=>some (.int k (kV k (a-b)))
def JC:IB:=λk a b=>some (.int k (kV k (a*b)))
def Er:IB:=λk a b=>Qq b (some (.int k (kV k (a.tdiv b))))
def Qr:IB:=λk a b=>Qq b (some (.int k (a.tmod b)))
def af8:IB:=λk a b=>some (wT k (· &&& ·) a b)
def iOr:IB:=λk a b=>some (wT k (· ||| ·) a b)
def af9:IB:=λk a b=>some (wT k (· ^^^ ·) a b)
def Oy:IB:=λk a b=>some (wT k (λx y=>x &&& ~~~y) a b)
def cK:IB:=λ_ a b=>some (.bool (aX a b))
def zR:IB:=λ_ a b=>some (.bool (!aX a b))
def wP:IB:=λ_ a b=>some (.bool (nP a b))
def MB:IB:=λ_ a b=>some (.bool (!nP b a))
def Es:IB:=λ_ a b=>some (.bool (nP b a))
def Oz:IB:=λ_ a b=>some (.bool (!nP a b))
def iNo:IB:=λ_ _ _=>none
abbrev SB:=List UInt8->List UInt8->Option d9
def aY:SB:=λa b=>bi (Nat.blt (Nat.add (len' a) (len' b)) 9223372036854775808) (some (.str (ah a b))) none
def cO:SB:=λa b=>some (.bool (strEq a b))
def zS:SB:=λa b=>some (.bool (!strEq a b))
def wU:SB:=λa b=>some (.bool (ql a b))
def OA:SB:=λa b=>some (.bool (ql a b||strEq a b))
def Fe:SB:=λa b=>some (.bool (!(ql a b||strEq a b)))
def Sr:SB:=λa b=>some (.bool (!ql a b))
def iP:SB:=λ_ _=>none
def GL:BinOp->IB
 | .add=>aV | .sub=>qZ | .mul=>JC | .quo=>Er | .rem=>Qr | .and=>af8 | .or=>iOr | .xor=>af9 | .andNot=>Oy
 | .shl=>iNo | .shr=>iNo | .eql=>cK | .neq=>zR | .lss=>wP | .leq=>MB | .gtr=>Es | .geq=>Oz
def GN:BinOp->SB
 | .add=>aY | .eql=>cO | .neq=>zS | .lss=>wU | .leq=>OA | .gtr=>Fe | .geq=>Sr
 | _=>iP
def AP (f:IB)(g:SB)(x y:d9):Option d9:=match x with
 | .int k a=>qh y λk' b=>bi (WY k k') (f k a b) none
 | .str a=>nI y λb=>g a b
 | _=>none
def WZ (x y:d9):Option d9:=qh x λk a=>iM y λm=>some (.int k (kV k (a*2^(min m k.bits))))
def Xa (x y:d9):Option d9:=qh x λk a=>iM y λm=>some (.int k (a.fdiv (2^(min m k.bits))))
def BN (a b:Bool):Bool:=bi a b (bi b false true)
def K3 (x y:d9):Option Bool:=qh x λk a=>qh y λk' b=>bi (WY k k') (some (aX a b)) none
def mE (x y:d9):Option Bool:=nO x λa=>nO y λb=>some (BN a b)
def eqStr (x y:d9):Option Bool:=nI x λa=>nI y λb=>some (strEq a b)
def Et (k:PK):d9->d9->Option Bool:=match k with
 | .i=>K3
 | .b=>mE
 | .s=>eqStr
def aM (ks:List PK):List d9->List d9->Option Bool:=
 List.rec (λ_ _=>some true) (λk _ ih a b=>List.rec none (λx xs _=>List.rec none (λy ys _=>ob (Et k x y) λr=>bi r (ih xs ys) (some false)) b) a) ks
def vM (ks:List PK)(x y:d9):Option Bool:=vL x λa=>vL y λb=>aM ks a b
def wV (x y:d9):Option Bool:=match x,y with
 | .nilPtr,.nilPtr=>some true
 | .nilPtr,.ptr _ _=>some false
 | .ptr _ _,.nilPtr=>some false
 | .ptr a b,.ptr c d=>bi (Nat.beq a c) (bi (Nat.beq b d) (some true) none) none
 | _,_=>none
def wW (x y:d9):Option Bool:=match x,y with
 | .nilSlice,.nilSlice=>some true
 | .nilSlice,.slice .. | .nilSlice,.sliceU ..=>some false
 | .slice ..,.nilSlice | .sliceU ..,.nilSlice=>some false
 | _,_=>none
def JD (x y:d9):Option Bool:=match x,y with
 | .nilMap,.nilMap=>some true
 | .nilMap,.map _ | .map _,.nilMap=>some false
 | _,_=>none
def BO (x y:d9):Option Bool:=match x,y with
 | .nilFunc,.nilFunc=>some true
 | .nilFunc,.func .. | .func ..,.nilFunc=>some false
 | _,_=>none
def lF (x y:d9):Option Bool:=match x,y with
 | .nilIface,.nilIface=>some true
 | .nilIface,.iface .. | .iface ..,.nilIface=>some false
 | _,_=>none
abbrev El:=d9->d9->Option Bool
def kL:yK->El
 | .prim .i=>K3 | .prim .b=>mE | .prim .s=>eqStr | .flat ks=>vM ks | .ptr=>wV | .slice=>wW | .map=>JD | .func=>BO | .iface=>lF
abbrev PF:=List d9->T d9->Option d9
def J8 (x:OF):PF:=λls env=>some (x ls env)
def bZ (c a b:OF):PF:=λls env=>nO (c ls env) λt=>some (bi t (a ls env) (b ls env))
def lay (ps:List (Nat×Nat×OF))(ls:List d9)(env:T d9):List d9->Option (List d9):=
 List.rec (λcs=>some cs) (λp _ ih cs=>
  bi (Nat.beq (len' (p.2.2 ls env).cells) p.2.1) (bi (Nat.ble (Nat.add p.1 p.2.1) (len' cs)) (ih (jY p.1 (p.2.2 ls env).cells cs)) none) none) ps
def Q5 (zero:List d9)(ps:List (Nat×Nat×OF)):PF:=λls env=>ob (lay ps ls env zero) λl=>some (.agg l)
def yM (v:d9):Option d9:=match v with
 | .nilPtr | .nilIface | .nilFunc=>none
 | .func (.func f) a b=>some (.func (.func f) a b)
 | .func ..=>none
 | v=>some v
def bH (x:OF):PF:=λls env=>yM (x ls env)
def I5 (f:IB)(g:SB)(x y:OF):PF:=λls env=>AP f g (x ls env) (y ls env)
def aaV (x y:OF):PF:=λls env=>WZ (x ls env) (y ls env)
def aaW (x y:OF):PF:=λls env=>Xa (x ls env) (y ls env)
def ZT (f:El)(x y:OF):PF:=λls env=>ob (f (x ls env) (y ls env)) λb=>some (.bool b)
def pNe (f:El)(x y:OF):PF:=λls env=>ob (f (x ls env) (y ls env)) λb=>some (.bool (!b))
def MQ (x:OF):PF:=λls env=>nO (x ls env) λb=>some (.bool (!b))
def aaX (x:OF):PF:=λls env=>qh (x ls env) λk n=>some (wT k (· ^^^ ·) (bi k.signed (-1) k.max) n)
def yN (x:OF):PF:=λls env=>qh (x ls env) λk n=>some (.int k (kV k (0-n)))
def JE (k:IntKind)(x:OF):PF:=λls env=>qh (x ls env) λ_ n=>some (.int k (kV k n))
def GQ (t:TypeId)(x:OF):PF:=λls env=>some (.iface t (x ls env))
def uR (fn:Fn)(a b:List OF):PF:=λls env=>some (.func fn (evs a ls env) (evs b ls env))
def dJ (o:Option OF)(d:Nat)(ls:List d9)(env:T d9)(k:Nat->Option β):Option β:=
 Option.rec (k d) (λx=>iM (x ls env) k) o
def SQ (x:OF)(lo hi:Option OF):PF:=λls env=>nI (x ls env) λs=>dJ lo 0 ls env λl=>dJ hi (len' s) ls env λh=>bi (Nat.ble l h) (bi (Nat.ble h (len' s)) (ob (takeN (Nat.sub h l) (jX l s)) λr=>some (.str r)) none) none
def SS (es n:Nat)(x:OF)(lo hi:Option OF):PF:=λls env=>eP (x ls env) λid off=>dJ lo 0 ls env λl=>dJ hi n ls env λh=>bi (Nat.ble l h) (bi (Nat.ble h n) (some (.slice id (bi (Nat.beq l n) off (Nat.add off (Nat.mul l es))) (Nat.sub h l) (Nat.sub n l))) none) none
def H9 (o:Nat)(x:OF):PF:=λls env=>eP (x ls env) λid off=>some (.ptr id (Nat.add off o))
def SV (off:Nat)(x:OF):PF:=λls env=>vL (x ls env) λcs=>pq off cs
def SX (off k:Nat)(x:OF):PF:=λls env=>vL (x ls env) λcs=>ob (takeN k (jX off cs)) λl=>some (.agg l)
def idx (len:Nat)(v:d9)(k:Nat->Option β):Option β:=iM v λi=>bi (Nat.blt i len) (k i) none
def O9 (es:Nat)(x i:OF):PF:=λls env=>
 qj (x ls env) none (λid off len _=>idx len (i ls env) λk=>some (.ptr id (Nat.add off (Nat.mul k es))))
  (λid off len _=>idx len (i ls env) λk=>some (.ptr id (Nat.add off (Nat.mul k es))))
def yO (es n:Nat)(x i:OF):PF:=λls env=>eP (x ls env) λid off=>idx n (i ls env) λk=>some (.ptr id (Nat.add off (Nat.mul k es)))
def GR (es n:Nat)(x i:OF):PF:=λls env=>vL (x ls env) λcs=>idx n (i ls env) λk=>pq (Nat.mul k es) cs
def SY (es n sz:Nat)(x i:OF):PF:=λls env=>vL (x ls env) λcs=>idx n (i ls env) λk=>ob (takeN sz (jX (Nat.mul k es) cs)) λl=>some (.agg l)
def rO (x i:OF):PF:=λls env=>nI (x ls env) λs=>iM (i ls env) λk=>ob (pq k s) λb=>some (.int .u8 b.toNat)
def pExt (x:OF)(i:Nat):PF:=λls env=>Jz (x ls env) λl=>pq i l
def lenOf (v:d9):Option Nat:=match v with
 | .nilSlice=>some 0
 | .slice _ _ n _=>some n
 | .sliceU _ _ n _=>some n
 | .str s=>some (len' s)
 | _=>none
def vN (x:OF):PF:=λls env=>qj (x ls env) (some (.int .i64 0)) (λ_ _ n _=>some (.int .i64 (.ofNat n))) (λ_ _ n _=>some (.int .i64 (.ofNat n)))
def BP (x:OF):PF:=λls env=>nI (x ls env) λs=>some (.int .i64 (.ofNat (len' s)))
def aaY (x:OF):PF:=λls env=>qj (x ls env) (some (.int .i64 0)) (λ_ _ _ c=>some (.int .i64 (.ofNat c))) (λ_ _ _ _=>none)
def mm2 (mx:Bool)(x y:d9):Option d9:=qh x λk a=>qh y λ_ b=>some (.int k (bi mx (bi (nP a b) b a) (bi (nP b a) b a)))
def wY (mx:Bool)(ys:List d9):d9->Option d9:=List.rec (λx=>some x) (λy _ ih x=>ob (mm2 mx x y) ih) ys
def Sv (mx:Bool)(x:OF)(xs:List OF):PF:=λls env=>wY mx (evs xs ls env) (x ls env)
def OB (t:TypeId)(zero:d9)(ok:Bool)(v:d9):Option d9:=match v with
 | .iface u y=>bi (Nat.beq u t) (some (bi ok (.tuple [y,.bool true]) y)) (bi ok (some (.tuple [zero,.bool false])) none)
 | .nilIface=>bi ok (some (.tuple [zero,.bool false])) none
 | _=>none
def OC (t:TypeId)(zero:d9)(ok:Bool)(x:OF):PF:=λls env=>OB t zero ok (x ls env)
def yP:List (Nat×Nat×N9)->List (Nat×Nat×OF)
 | []=>[]
 | p::l=>(p.1,p.2.1,D8 p.2.2)::yP l
def lX:Sn->PF
 | .mov x=>J8 (D8 x)
 | .pick c a b=>bZ (D8 c) (D8 a) (D8 b)
 | .build z ps=>Q5 z (yP ps)
 | .nilCheck x=>bH (D8 x)
 | .ib op x y=>match op with
  | .shl=>aaV (D8 x) (D8 y)
  | .shr=>aaW (D8 x) (D8 y)
  | op=>I5 (GL op) (GN op) (D8 x) (D8 y)
 | .eq neg k x y=>match neg with
  | true=>pNe (kL k) (D8 x) (D8 y)
  | false=>ZT (kL k) (D8 x) (D8 y)
 | .not x=>MQ (D8 x)
 | .neg x=>yN (D8 x)
 | .inv x=>aaX (D8 x)
 | .conv k x=>JE k (D8 x)
 | .mkIface t x=>GQ t (D8 x)
 | .mkFunc fn a b=>uR fn (dU a) (dU b)
 | .slStr x lo hi=>SQ (D8 x) (jC lo) (jC hi)
 | .slArr es n x lo hi=>SS es n (D8 x) (jC lo) (jC hi)
 | .fAddr o x=>H9 o (D8 x)
 | .fld off size x=>match size with
  | none=>SV off (D8 x)
  | some k=>SX off k (D8 x)
 | .iAddr es x i=>O9 es (D8 x) (D8 i)
 | .iAddrArr es n x i=>yO es n (D8 x) (D8 i)
 | .iArr es n size x i=>match size with
  | none=>GR es n (D8 x) (D8 i)
  | some k=>SY es n k (D8 x) (D8 i)
 | .iStr x i=>rO (D8 x) (D8 i)
 | .ext x i=>pExt (D8 x) i
 | .len x=>vN (D8 x)
 | .lenS x=>BP (D8 x)
 | .cap x=>aaY (D8 x)
 | .mm mx x xs=>Sv mx (D8 x) (dU xs)
 | .assert t z ok x=>OC t z ok (D8 x)
abbrev RF:=List d9->T d9->Mem->Option d9
def eB (a:OF):RF:=λls env m=>eP (a ls env) λid off=>R4 (m.get id) λrs n rows=>cell1 rs n rows off
def aD (k:Nat)(a:OF):RF:=λls env m=>eP (a ls env) λid off=>R4 (m.get id) λrs n rows=>ob (iO rs n rows off k) λl=>some (.agg l)
def findKey (f:El)(k:d9)(es:List (d9×d9)):Nat->Option (Option (Nat×d9)):=
 List.rec (λ_=>some none) (λe _ ih i=>ob (f k e.1) λb=>bi b (some (some (i,e.2))) (ih (Nat.succ i))) es
def found (ok:Bool)(zero:d9)(o:Option (Nat×d9)):Option d9:=
 Option.rec (some (bi ok (.tuple [zero,.bool false]) zero)) (λp=>some (bi ok (.tuple [p.2,.bool true]) p.2)) o
def O5 (f:El)(n:Nat)(k:d9)(es:List (d9×d9)):Option (Option (Nat×d9)):=
 bi (Nat.beq (len' k.cells) n) (List.rec (ob (f k k) λ_=>some none) (λ_ _ _=>findKey f k es 0) es) none
def wZ (f:El)(n:Nat)(zero:d9)(ok:Bool)(mp k:OF):RF:=λls env m=>rJ (mp ls env) (ob (O5 f n (k ls env) []) λr=>found ok zero r) λid=>GK (m.get id) λes=>ob (O5 f n (k ls env) es) λr=>found ok zero r
def ZU (x:OF):RF:=λls env m=>rJ (x ls env) (some (.int .i64 0)) λid=>MP (m.get id) λes=>some (.int .i64 (.ofNat (len' es)))
def bytesOf:List UInt8->List d9
 | []=>[]
 | b::l=>.int .u8 b.toNat::bytesOf l
def byteOf:List d9->Option (List UInt8)
 | []=>some []
 | .int .u8 (.ofNat n)::l=>match byteOf l with
  | some s=>some (UInt8.ofNat n::s)
  | none=>none
 | _ :: _=>none
def R8 (m:Mem)(id off n:Nat):Option (List d9):=
 Nat.rec (some []) (λ_ _=>R4 (m.get id) λrs k rows=>P5 rs k rows n off) n
def gV (m:Mem)(es n:Nat)(v:d9):Option (List d9):=match v with
 | .nilSlice=>some []
 | .slice id off _ _=>R8 m id off (Nat.mul n es)
 | .sliceU id off _ _=>R8 m id off (Nat.mul n es)
 | .str s=>some (bytesOf (s.take n))
 | _=>none
def dX (x:OF):RF:=λls env m=>
 qj (x ls env) (some (.str [])) (λid off len _=>ob (R8 m id off len) λl=>ob (byteOf l) λs=>some (.str s))
  (λid off len _=>ob (R8 m id off len) λl=>ob (byteOf l) λs=>some (.str s))
def Fg (b:Option N7)(nl:Option β)(k:Nat->Nat->List Nat->Option β):Option β:=match b with
 | some (.iter none _ _)=>nl
 | some (.iter (some mp) since seen)=>k mp since seen
 | _=>none
def qm (it:OF):RF:=λls env m=>eP (it ls env) λid off=>bi (Nat.beq off 0)
 (Fg (m.get id) none λmp since seen=>List.rec none (λi _ _=>MP (m.get mp) λes=>bi (Nat.beq (len' es) since) (ob (pq i es) λe=>some (.tuple [e.1,e.2])) none) seen) none
def GU (x:OF):RF:=λls env _=>qj (x ls env) (some .nilPtr) (λid off _ cap=>bi (Nat.blt 0 cap) (some (.ptr id off)) none) (λid off len _=>bi (Nat.blt 0 len) (some (.ptr id off)) none)
def rP (x:OF):RF:=λls env m=>match x ls env with
 | .nilPtr=>some .nilPtr
 | .ptr id off=>R4 (m.get id) λrs n _=>bi (Nat.blt off (Nat.mul n rs)) (some (.ptr id off)) none
 | _=>none
def Xc (ty off:Nat)(l:List (Nat×Nat)):Bool:=List.rec false (λp _ ih=>bi (Nat.beq p.1 ty) (bi (Nat.beq p.2 off) true ih) ih) l
def jZ (oks:List (Nat×Nat))(x:OF):RF:=λls env m=>match x ls env with
 | .nilPtr=>some .nilPtr
 | .ptr id off=>R4 (m.get id) λ_ n rows=>bi (Nat.beq n 1) (ob (Fb rows) λty=>bi (Xc ty off oks) (some (.ptr id off)) none) none
 | _=>none
def yQ:yK->Nat
 | .flat ks=>ks.length
 | _=>1
def qo:MO->RF
 | .load size a=>match size with
  | none=>eB (D8 a)
  | some k=>aD k (D8 a)
 | .look kk zero ok m k=>wZ (kL kk) (yQ kk) zero ok (D8 m) (D8 k)
 | .lenM x=>ZU (D8 x)
 | .bytesStr x=>dX (D8 x)
 | .entry it=>qm (D8 it)
 | .slData x=>GU (D8 x)
 | .toUns x=>rP (D8 x)
 | .fromUns oks x=>jZ oks (D8 x)
abbrev LR:=Option (d9×Option N7)
abbrev LF:=List d9->T d9->Nat->LR
def r9 (cs:List d9):N7:=.cells (len' cs) 1 (.nd .e cs .e)
def xg (es n:Nat)(cells:List d9)(k:N7->Option β):Option β:=ob (rowsOf es n cells) λrows=>k (.cells es n (T.ofList rows))
def JF (ty:Nat)(cs:List d9):N7:=.cells (len' cs) 1 (.nd (.nd .e (aaU ty) .e) cs .e)
def OD (ty:Nat)(zero:List d9):LF:=λ_ _ nid=>some (.ptr nid 0,some (JF ty zero))
def ZV (ty k:Nat)(x:OF):LF:=λls env nid=>bi (Nat.beq (len' (x ls env).cells) k) (some (.ptr nid 0,some (JF ty (x ls env).cells))) none
def iQ (zero:List d9):LF:=λ_ _ nid=>some (.ptr nid 0,some (r9 zero))
def JG (x:OF):LF:=λls env nid=>some (.ptr nid 0,some (r9 (x ls env).cells))
def Q0 (zero:List d9)(n:Nat):List d9:=Nat.rec [] (λ_ ih=>ah zero ih) n
def R6 (es len:Nat)(zero:List d9)(ps:List (Nat×Nat×OF)):LF:=λls env nid=>ob (lay ps ls env (Q0 zero len)) λcells=>xg es len cells λb=>some (.slice nid 0 len len,some b)
def fM:LF:=λ_ _ nid=>some (.map nid,some (.map []))
def JH (es bytes:Nat)(zero:List d9)(len cap:OF):LF:=λls env nid=>
 iM (len ls env) λl=>iM (cap ls env) λc=>
  bi (Nat.ble l c) (bi (Nat.ble (Nat.mul bytes c) 281474976710656) (bi (Nat.blt c 9223372036854775808)
   (some (.slice nid 0 l c,some (.cells es c (T.rep zero c .e 0)))) none) none) none
def Fh (x:OF):LF:=λls env nid=>nI (x ls env) λs=>xg 1 (len' s) (bytesOf s) λb=>some (.sliceU nid 0 (len' s) 1,some b)
def J6 (nid es:Nat)(x:d9)(lo:Nat)(hi:Option Nat):LR:=
 qj x (bi (Nat.beq lo 0) (Option.rec (some (.nilSlice,none)) (λh=>bi (Nat.beq h 0) (some (.nilSlice,none)) none) hi) none)
  (λid off len cap=>Option.rec (known id off cap len) (λh=>known id off cap h) hi)
  (λid off len es'=>Option.rec (unk id off len es' len) (λh=>unk id off len es' h) hi)
where
 known (id off cap h:Nat):LR:=bi (Nat.ble lo h) (bi (Nat.ble h cap)
  (some (.slice id (bi (Nat.beq lo cap) off (Nat.add off (Nat.mul lo es))) (Nat.sub h lo) (Nat.sub cap lo),none)) none) none
 unk (id off len es' h:Nat):LR:=bi (Nat.ble lo h) (bi (Nat.ble h len) (bi (Nat.beq es es')
  (bi (Nat.blt lo len) (some (.sliceU id (Nat.add off (Nat.mul lo es)) (Nat.sub h lo) es,none))
   (bi (Nat.beq lo 0) (some (.sliceU id off (Nat.sub h lo) es,none)) (some (.sliceU nid 0 0 es,some (.tail id))))) none) none) none
def lSl (es:Nat)(x:OF)(lo hi:Option OF):LF:=λls env nid=>dJ lo 0 ls env λl=>Option.rec (J6 nid es (x ls env) l none) (λh=>iM (h ls env) λh=>J6 nid es (x ls env) l (some h)) hi
def uS:Qp->LF
 | .alloc zero=>iQ zero
 | .box x=>JG (D8 x)
 | .allocT ty zero=>OD ty zero
 | .boxT ty k x=>ZV ty k (D8 x)
 | .buildSlice es len zero ps=>R6 es len zero (yP ps)
 | .mkMap=>fM
 | .mkSlice es bytes zero l c=>JH es bytes zero (D8 l) (D8 c)
 | .strBytes x=>Fh (D8 x)
 | .sl es x lo hi=>lSl es (D8 x) (jC lo) (jC hi)
structure VM where
 v:d9
 m:Mem
abbrev eO:=Option (List VM)
abbrev D7:=Fn->List d9->Mem->eO
abbrev EF:=D7->List d9->T d9->Mem->eO
def one (v:d9)(m:Mem):eO:=some [⟨v,m⟩]
def K7 (size:Nat)(a x:OF):EF:=λ_ ls env m=>eP (a ls env) λid off=>bi (Nat.beq (len' (x ls env).cells) size) (storeAt m id off (x ls env).cells λm'=>one .undef m') none
def BQ (size:Nat)(a x b:OF):EF:=λcf ls env m=>eP (a ls env) λi _=>eP (b ls env) λj _=>bi (Nat.beq i j) none (K7 size a x cf ls env m)
def aN (es:List (d9×d9))(k v:d9):Nat->List (d9×d9):=
 List.rec (λ_=>[]) (λe es ih i=>Nat.rec ((k,v)::es) (λj _=>e::ih j) i) es
def mF (m:Mem)(id:Nat)(k:d9)(es:List (d9×d9)):eO:=match m.get id with
 | some (.mapU _)=>nI k λ_=>one .undef (m.set id (.mapU es))
 | _=>one .undef (m.set id (.map es))
def E9 (f:El)(n:Nat)(mp k x:OF):EF:=λ_ ls env m=>rJ (mp ls env) none λid=>bi (Nat.blt id m.lim) none
 (GK (m.get id) λes=>ob (O5 f n (k ls env) es) λr=>
  Option.rec (mF m id (k ls env) (ah es [(k ls env,x ls env)])) (λp=>ob (pq p.1 es) λe=>
   bi (Nat.beq (len' e.1.cells) n) (mF m id (k ls env) (aN es (k ls env) (x ls env) p.1)) none) r)
def mG (x:OF):EF:=λ_ ls env m=>rJ (x ls env) (one (.ptr m.nx 0) (m.new (.iter none 0 [])))
 λid=>MP (m.get id) λes=>one (.ptr m.nx 0) (m.new (.iter (some id) (len' es) []))
def qp (n:Nat)(l:List Nat):Bool:=List.rec false (λx _ ih=>bi (Nat.beq x n) true ih) l
def nexts (m:Mem)(id mp since:Nat)(seen:List Nat)(es:List (d9×d9)):Nat->List VM:=
 List.rec (λ_=>[]) (λe _ ih i=>bi (qp i seen) (ih (Nat.succ i))
  (⟨.tuple [.bool true,e.1,e.2],m.set id (.iter (some mp) since (i::seen))⟩::ih (Nat.succ i))) es
def GV (m:Mem)(l:List VM):List VM:=List.rec [⟨.tuple [.bool false],m⟩] (λx xs _=>x::xs) l
def zT (it:OF):EF:=λ_ ls env m=>eP (it ls env) λid off=>bi (Nat.beq off 0) (bi (Nat.blt id m.lim) none
 (Fg (m.get id) (one (.tuple [.bool false]) m) λmp since seen=>MP (m.get mp) λes=>
  bi (Nat.beq (len' es) since) (some (GV m (nexts m id mp since seen es 0))) none)) none
def big (n bytes es:Nat):Bool:=bi (Nat.ble (Nat.mul (Nat.add (Nat.mul 2 n) 2048) bytes) 281474976710656) (bi (Nat.ble 1 es) (Nat.ble 1 bytes) false) false
def grown (m:Mem)(es n:Nat)(cells:List d9):eO:=xg es n cells λb=>one (.sliceU m.nx 0 n es) (m.new b)
def ab0 (m:Mem)(es bytes n:Nat)(new:List d9):eO:=
 Nat.rec (one .nilSlice m) (λ_ _=>bi (big n bytes es) (grown m es n new) none) n
def BR (m:Mem)(es bytes n:Nat)(new:List d9)(id off len cap:Nat):eO:=
 bi (Nat.ble (Nat.add len n) cap) (iD m id (Nat.add off (Nat.mul len es)) new λm'=>one (.slice id off (Nat.add len n) cap) m')
  (bi (big (Nat.add len n) bytes es) (ob (R8 m id off (Nat.mul len es)) λold=>grown m es (Nat.add len n) (ah old new)) none)
def JI (b:Option N7)(c:Nat->Nat->T (List d9)->Option β)(k:Nat->Option β):Option β:=match b with
 | some (.cells rs n rows)=>c rs n rows
 | some (.tail p)=>k p
 | _=>none
def Ta (m:Mem)(es bytes n:Nat)(new:List d9)(id off len es':Nat):eO:=
 Nat.rec (one (.sliceU id off len es') m) (λ_ _=>bi (Nat.beq es es') (bi (big (Nat.add len n) bytes es) (bi (Nat.ble m.lim id) (bi (K4 new)
  (JI (m.get id)
   (λrs k rows=>
    bi (bi (Nat.beq rs es) (bi (Nat.beq off 0) (bi (Nat.ble len k) (bi (Nat.beq n 1) (bi (Nat.beq (len' new) es) (Nat.blt 0 len) false) false) false) false) false)
     (one (.sliceU m.nx 0 (Nat.succ len) es) ((m.set id .dead).new (.cells es (Nat.succ len) (rows.put len new))))
     (ob (P5 rs k rows (Nat.mul len es) off) λold=>grown (m.set id .dead) es (Nat.add len n) (ah old new)))
   (λp=>R4 (m.get p) λ_ _ _=>bi (Nat.ble m.lim p) (bi (Nat.beq len 0) (grown (m.set p .dead) es n new) none) none)) none) none) none) none) n
def Fj (m:Mem)(es bytes n:Nat)(new:List d9)(s:d9):eO:=
 qj s (ab0 m es bytes n new) (λa b c d=>BR m es bytes n new a b c d) (λa b c d=>Ta m es bytes n new a b c d)
def oK (es bytes:Nat)(s x:OF):EF:=λ_ ls env m=>ob (lenOf (x ls env)) λn=>ob (gV m es n (x ls env)) λnew=>Fj m es bytes n new (s ls env)
def ZW (es:Nat)(zero:List d9)(bytes:Nat)(s x:OF):EF:=λ_ ls env m=>iM (x ls env) λn=>bi (Nat.ble (Nat.mul n bytes) 281474976710656) (bi (Nat.blt n 9223372036854775808) (Fj m es bytes n (Q0 zero n) (s ls env)) none) none
def Tc (es:Nat)(d s:OF):EF:=λ_ ls env m=>ob (lenOf (s ls env)) λn=>qj (d ls env) (one (.int .i64 0) m) (λid off len _=>go m n id off len (s ls env)) (λid off len _=>go m n id off len (s ls env))
where
 go (m:Mem) (n id off len:Nat) (s:d9):eO:=ob (gV m es (Nat.min n len) s) λcells=>iD m id off cells λm'=>one (.int .i64 (.ofNat (Nat.min n len))) m'
def Td (zero:List d9)(x:OF):EF:=λ_ ls env m=>
 qj (x ls env) (one (.tuple []) m) (λid off len _=>iD m id off (Q0 zero len) λm'=>one (.tuple []) m')
  (λid off len _=>iD m id off (Q0 zero len) λm'=>one (.tuple []) m')
def y8 (f:FuncId)(args:List OF):EF:=λcf ls env m=>cf (.func f) (evs args ls env) m
def JJ (cf:D7)(m:Mem)(args:List d9)(v:d9):eO:=JA v λfn a b=>match fn with
 | .func f=>cf (.func f) (ah a (ah args b)) m
 | .yield l=>cf (.yield l) (ah a args) m
 | _=>none
def bV (f:OF)(args:List OF):EF:=λcf ls env m=>JJ cf m (evs args ls env) (f ls env)
def Xe (v:d9)(m:Mem):eO:=match v with
 | .iface t x=>one (.ng (.iface t x)) m
 | _=>none
def GX (b:Option N7)(k:List UInt8->Nat->Option β):Option β:=match b with
 | some (.siter s pos)=>k s pos
 | _=>none
def Bq (x:OF):EF:=λ_ ls env m=>nI (x ls env) λs=>one (.ptr m.nx 0) (m.new (.siter s 0))
def BS (it:OF):EF:=λ_ ls env m=>eP (it ls env) λid off=>bi (Nat.beq off 0) (bi (Nat.blt id m.lim) none
 (GX (m.get id) λs pos=>bi (Nat.blt pos (len' s))
  ((λ(r:Nat×Nat)=>one (.tuple [.bool true,.int .i64 (.ofNat pos),.int .i32 (.ofNat r.1)]) (m.set id (.siter s (Nat.add pos r.2)))) (Utf8.decode ⟨s.toArray⟩ pos))
  (one (.tuple [.bool false]) m))) none
def JK (ty:Nat)(s x:OF):EF:=λcf ls env m=>match s ls env with
 | .nilSlice=>nI (x ls env) λt=>List.rec (one .nilSlice m) (λ_ _ _=>bi (big (len' t) 1 1) (one (.sliceU m.nx 0 (len' t) 1) (m.new (.buf ty t))) none) t
 | .sliceU id off len es=>match m.get id with
  | some (.buf ty' s0)=>nI (x ls env) λt=>bi (Nat.beq ty ty') (bi (Nat.beq off 0) (bi (Nat.beq es 1) (bi (Nat.beq len (len' s0)) (bi (Nat.ble m.lim id) (List.rec (one (.sliceU id off len es) m) (λ_ _ _=>bi (big (Nat.add len (len' t)) 1 1) (one (.sliceU m.nx 0 (Nat.add len (len' t)) 1) ((m.set id .dead).new (.buf ty (ah s0 t)))) none) t) none) none) none) none) none
  | _=>oK 1 1 s x cf ls env m
 | _=>oK 1 1 s x cf ls env m
def ab1 (v:d9)(k:Nat->Option β):Option β:=match v with
 | .int .i64 (.ofNat n)=>k n
 | _=>none
def Te (ty:Nat)(p n:OF):EF:=λ_ ls env m=>ab1 (n ls env) λk=>match p ls env with
 | .nilPtr=>bi (Nat.beq k 0) (one (.str []) m) none
 | .ptr id off=>bi (Nat.beq off 0) (bi (Nat.ble m.lim id) (match m.get id with
  | some (.buf ty' s)=>bi (Nat.beq ty ty') (bi (Nat.beq k (len' s)) (bi (Nat.ble k 9223372036854775807) (one (.str s) (m.set id .dead)) none) none) none
  | _=>none) none) none
 | _=>none
def GY (x:OF):EF:=λ_ ls env m=>Xe (x ls env) m
def Xf:EF:=λ_ _ _ _=>none
def lY:Sq->EF
 | .store size a x=>K7 size (D8 a) (D8 x)
 | .storeAp size a x b=>BQ size (D8 a) (D8 x) (D8 b)
 | .mapSet kk m k x=>E9 (kL kk) (yQ kk) (D8 m) (D8 k) (D8 x)
 | .range x=>mG (D8 x)
 | .next it=>zT (D8 it)
 | .app es zeros zero bytes s x=>match zeros with
  | true=>ZW es zero bytes (D8 s) (D8 x)
  | false=>oK es bytes (D8 s) (D8 x)
 | .copy es d s=>Tc es (D8 d) (D8 s)
 | .clear zero x=>Td zero (D8 x)
 | .call f args=>y8 f (dU args)
 | .callv f args=>bV (D8 f) (dU args)
 | .panic x=>GY (D8 x)
 | .defer _ _=>Xf
 | .recover=>Xf
 | .bad=>Xf
 | .rangeS x=>Bq (D8 x)
 | .nextS it=>BS (D8 it)
 | .appB ty s x=>JK ty (D8 s) (D8 x)
 | .ustr ty p n=>Te ty (D8 p) (D8 n)
def BU (f:α->Option (List β))(l:List α):Option (List β):=
 List.rec (some []) (λa _ ih=>ob (f a) λx=>ob ih λy=>some (x++y)) l
def bnd (x:Option (List α))(f:α->Option (List β)):Option (List β):=
 Option.rec none (λl=>List.rec (some []) (λa t _=>List.rec (f a) (λ_ _ _=>BU f l) t) l) x
structure EM where
 env:T d9
 m:Mem
 px:Option d9
 mks:List Mk
def bW (v:d9)(p:d9->β)(q:β):β:=match v with
 | .ng x=>p x
 | _=>q
abbrev RC:=D7->List d9->T d9->Mem->Option (List EM)
def j6:RC:=λ_ _ env m=>some [⟨env,m,none,[]⟩]
def D9 (f:PF)(d:d9->T d9->T d9)(k:RC):RC:=λcf ls env m=>Option.rec none (λv=>k cf (v::ls) (d v env) m) (f ls env)
def j5 (f:PF)(k:RC):RC:=λcf ls env m=>Option.rec none (λv=>k cf (v::ls) env m) (f ls env)
def Xg (f:RF)(d:d9->T d9->T d9)(k:RC):RC:=λcf ls env m=>Option.rec none (λv=>k cf (v::ls) (d v env) m) (f ls env m)
def u6 (f:RF)(k:RC):RC:=λcf ls env m=>Option.rec none (λv=>k cf (v::ls) env m) (f ls env m)
def bL (m:Mem)(b:Option N7):Mem:=Option.rec m (λb=>m.new b) b
def fq (f:LF)(d:d9->T d9->T d9)(k:RC):RC:=λcf ls env m=>ob (f ls env m.nx) λr=>k cf (r.1::ls) (d r.1 env) (bL m r.2)
def gX (f:LF)(k:RC):RC:=λcf ls env m=>Option.rec none (λr=>k cf (r.1::ls) env (bL m r.2)) (f ls env m.nx)
def u7 (f:EF)(k:RC):RC:=λcf ls env m=>bnd (f cf ls env m) λr=>bW r.v (λx=>some [⟨env,r.m,some x,[]⟩]) (k cf (r.v::ls) env r.m)
def MC (f:EF)(d:d9->T d9->T d9)(k:RC):RC:=λcf ls env m=>bnd (f cf ls env m) λr=>bW r.v (λx=>some [⟨env,r.m,some x,[]⟩]) (k cf (r.v::ls) (d r.v env) r.m)
def JL (f:OF)(args:List OF):RC:=λ_ ls env m=>JA (f ls env) λfn a b=>some [⟨env,m,none,[.d (.func fn a b) (evs args ls env)]⟩]
def nJ (w:Bool)(v:d9):Bool:=match v with
 | .bool b=>BN b w
 | _=>false
def gP (x:OF)(w:Bool)(f:PF):PF:=λls env=>bi (nJ w (x ls env)) (f ls env) (some .undef)
def ME (x:OF)(w:Bool)(f:RF):RF:=λls env m=>bi (nJ w (x ls env)) (f ls env m) (some .undef)
def gLk (x:OF)(w:Bool)(f:LF):LF:=λls env i=>bi (nJ w (x ls env)) (f ls env i) (some (.undef,none))
def gE (x:OF)(w:Bool)(f:EF):EF:=λcf ls env m=>bi (nJ w (x ls env)) (f cf ls env m) (one .undef m)
def Eu (g:Option (N9×Bool))(f:PF):PF:=match g with
 | none=>f
 | some (x,w)=>gP (D8 x) w f
def vO (g:Option (N9×Bool))(f:RF):RF:=match g with
 | none=>f
 | some (x,w)=>ME (D8 x) w f
def AQ (g:Option (N9×Bool))(f:LF):LF:=match g with
 | none=>f
 | some (x,w)=>gLk (D8 x) w f
def GZ (g:Option (N9×Bool))(f:EF):EF:=match g with
 | none=>f
 | some (x,w)=>gE (D8 x) w f
def Sw (o:wR)(d:Option Nat)(g:Option (N9×Bool))(k:RC):RC:=match o with
 | .p o=>match d with
  | none=>j5 (Eu g (lX o)) k
  | some j=>D9 (Eu g (lX o)) (bD (some j)) k
 | .r o=>match d with
  | none=>u6 (vO g (qo o)) k
  | some j=>Xg (vO g (qo o)) (bD (some j)) k
 | .a o=>match d with
  | none=>gX (AQ g (uS o)) k
  | some j=>fq (AQ g (uS o)) (bD (some j)) k
 | .e o=>match d with
  | none=>u7 (GZ g (lY o)) k
  | some j=>MC (GZ g (lY o)) (bD (some j)) k
def nQ (i:Inst):Option (N9×List N9):=match i.op,i.guard,i.dst with
 | .e (.defer f as),none,none=>some (f,as)
 | _,_,_=>none
def BX (i:Inst):RC:=match nQ i with
 | some p=>JL (D8 p.1) (dU p.2)
 | none=>Sw i.op i.dst i.guard j6
def aI:List Inst->RC
 | []=>j6
 | [i]=>BX i
 | i::j::l=>Sw i.op i.dst i.guard (aI (j::l))
def jr (f:N9->N9):Sn->Sn
 | .mov x=>.mov (f x)
 | .pick a b c=>.pick (f a) (f b) (f c)
 | .build z ps=>.build z (ps.map λp=>(p.1,p.2.1,f p.2.2))
 | .nilCheck x=>.nilCheck (f x)
 | .ib o x y=>.ib o (f x) (f y)
 | .eq n k x y=>.eq n k (f x) (f y)
 | .not x=>.not (f x)
 | .neg x=>.neg (f x)
 | .inv x=>.inv (f x)
 | .conv k x=>.conv k (f x)
 | .mkIface t x=>.mkIface t (f x)
 | .mkFunc g a b=>.mkFunc g (a.map f) (b.map f)
 | .slStr x a b=>.slStr (f x) (a.map f) (b.map f)
 | .slArr e n x a b=>.slArr e n (f x) (a.map f) (b.map f)
 | .fAddr o x=>.fAddr o (f x)
 | .fld o s x=>.fld o s (f x)
 | .iAddr e x i=>.iAddr e (f x) (f i)
 | .iAddrArr e n x i=>.iAddrArr e n (f x) (f i)
 | .iArr e n s x i=>.iArr e n s (f x) (f i)
 | .iStr x i=>.iStr (f x) (f i)
 | .ext x i=>.ext (f x) i
 | .len x=>.len (f x)
 | .lenS x=>.lenS (f x)
 | .cap x=>.cap (f x)
 | .mm m x xs=>.mm m (f x) (xs.map f)
 | .assert t z ok x=>.assert t z ok (f x)
def yR (f:N9->N9):MO->MO
 | .load s a=>.load s (f a)
 | .look k z o m x=>.look k z o (f m) (f x)
 | .lenM x=>.lenM (f x)
 | .bytesStr x=>.bytesStr (f x)
 | .entry x=>.entry (f x)
 | .slData x=>.slData (f x)
 | .toUns x=>.toUns (f x)
 | .fromUns l x=>.fromUns l (f x)
def bC (f:N9->N9):Qp->Qp
 | .alloc z=>.alloc z
 | .box x=>.box (f x)
 | .allocT t z=>.allocT t z
 | .boxT t k x=>.boxT t k (f x)
 | .buildSlice e l z ps=>.buildSlice e l z (ps.map λp=>(p.1,p.2.1,f p.2.2))
 | .mkMap=>.mkMap
 | .mkSlice e b z l c=>.mkSlice e b z (f l) (f c)
 | .strBytes x=>.strBytes (f x)
 | .sl e x a b=>.sl e (f x) (a.map f) (b.map f)
def ru (f:N9->N9):Sq->Sq
 | .store s a x=>.store s (f a) (f x)
 | .storeAp s a x b=>.storeAp s (f a) (f x) (f b)
 | .mapSet k a b c=>.mapSet k (f a) (f b) (f c)
 | .range x=>.range (f x)
 | .next x=>.next (f x)
 | .app e z zs b s x=>.app e z zs b (f s) (f x)
 | .copy e d s=>.copy e (f d) (f s)
 | .clear z x=>.clear z (f x)
 | .call g a=>.call g (a.map f)
 | .callv g a=>.callv (f g) (a.map f)
 | .defer g a=>.defer (f g) (a.map f)
 | .panic x=>.panic (f x)
 | .recover=>.recover
 | .bad=>.bad
 | .rangeS x=>.rangeS (f x)
 | .nextS x=>.nextS (f x)
 | .appB t s x=>.appB t (f s) (f x)
 | .ustr t p n=>.ustr t (f p) (f n)
def mapA (f:N9->N9):wR->wR
 | .p o=>.p (jr f o)
 | .r o=>.r (yR f o)
 | .a o=>.a (bC f o)
 | .e o=>.e (ru f o)
def bump:N9->N9
 | .loc k=>.loc (k+1)
 | x=>x
def rn (r:List N9):N9->N9
 | .loc k=>r.getD k (.con .undef)
 | x=>x
def vP (j:Nat):List Inst->Bool
 | []=>false
 | i::l=>i.dst==some j||vP j l
def kM (r:List N9):List Inst->List Inst
 | []=>[]
 | i::l=>
  let keep:=⟨mapA (rn r) i.op,i.dst,i.guard.map λp=>(rn r p.1,p.2)⟩::kM (.loc 0::r.map bump) l
  match i.op,i.dst,i.guard with
  | .p (.mov x),none,none=>match rn r x with
   | .slot j=>bif vP j l then keep else kM (.slot j::r) l
   | y=>kM (y::r) l
  | _,_,_=>keep
def rz (f:d9->d9->Bool)(a:List d9):List d9->Bool:=
 List.rec (λb=>List.rec true (λ_ _ _=>false) b) (λx _ ih b=>List.rec false (λy ys _=>bi (f x y) (ih ys) false) b) a
def dz (n:Nat):d9->d9->Bool:=Nat.rec (λ_ _=>false) (λ_ ih x y=>match x,y with
  | .bool a,.bool b=>BN a b
  | .int k a,.int k' b=>bi (WY k k') (aX a b) false
  | .str a,.str b=>strEq a b
  | .nilPtr,.nilPtr=>true
  | .ptr a b,.ptr c d=>bi (Nat.beq a c) (Nat.beq b d) false
  | .nilSlice,.nilSlice=>true
  | .slice a b c d,.slice a' b' c' d'=>bi (Nat.beq a a') (bi (Nat.beq b b') (bi (Nat.beq c c') (Nat.beq d d') false) false) false
  | .sliceU a b c d,.sliceU a' b' c' d'=>bi (Nat.beq a a') (bi (Nat.beq b b') (bi (Nat.beq c c') (Nat.beq d d') false) false) false
  | .nilMap,.nilMap=>true
  | .map a,.map b=>Nat.beq a b
  | .nilFunc,.nilFunc=>true
  | .func (.func f) a b,.func (.func g) c d=>bi (Nat.beq f g) (bi (rz ih a c) (rz ih b d) false) false
  | .func (.yield f) a b,.func (.yield g) c d=>bi (Nat.beq f g) (bi (rz ih a c) (rz ih b d) false) false
  | .nilIface,.nilIface=>true
  | .iface t a,.iface u b=>bi (Nat.beq t u) (ih a b) false
  | .agg a,.agg b=>rz ih a b
  | .tuple a,.tuple b=>rz ih a b
  | .undef,.undef=>true
  | _,_=>false) n
abbrev DC:=D7->Nat->List d9->T d9->Mem->List Mem->Option (List EM)
def stable (f:RF)(ls:List d9)(env:T d9)(v:d9)(n:Nat):List Mem->Bool:=
 Nat.rec (λ_=>true) (λ_ ih gs=>List.rec false (λm ms _=>bi (Option.rec false (λu=>dz 100 u v) (f ls env m)) (ih ms) false) gs) n
def tl (l:List Mem):List Mem:=List.rec [] (λ_ t _=>t) l
def kg:DC:=λ_ _ _ env m _=>some [⟨env,m,none,[]⟩]
def O4 (f:PF)(d:d9->T d9->T d9)(k:DC):DC:=λcf b ls env m gs=>ob (f ls env) λv=>k cf b (v::ls) (d v env) m gs
def hd (m:Mem)(gs:List Mem):Mem:=List.rec m (λg _ _=>g) gs
def isVoid (b:Option N7):Bool:=match b with
 | some .void=>true
 | _=>false
def jR (i:Nat)(gs:List Mem):Bool:=List.rec true (λg _ ih=>bi (isVoid (g.get i)) ih false) gs
def MR (x:Option (List α))(f:α->Option β):Option β:=
 Option.rec none (λl=>List.rec none (λa t _=>List.rec (f a) (λ_ _ _=>none) t) l) x
def fD (f:RF)(c:Nat)(d:d9->T d9->T d9)(k:DC):DC:=λcf b ls env m gs=>ob (f ls env (hd m gs)) λv=>bi (stable f ls env v c (tl gs)) (k cf b (v::ls) (d v env) m gs) none
def isCells (b:Option N7):Bool:=match b with
 | some (.cells _ _ _)=>true
 | _=>false
def afb (x:OF)(c:Nat)(d:d9->T d9->T d9)(k:DC):DC:=λcf b ls env m gs=>match x ls env with
 | .slice id _ _ _=>bi (isVoid ((hd m gs).get id)) (bi (isCells (m.get id)) (ob (dX x ls env m) λv=>k cf b (v::ls) (d v env) m gs) none) (fD (dX x) c d k cf b ls env m gs)
 | _=>fD (dX x) c d k cf b ls env m gs
def ab2 (c:Nat)(o:MO)(d:Option Nat)(g:Option (N9×Bool))(k:DC):DC:=match o,g with
 | .bytesStr y,none=>afb (D8 y) c (bD d) k
 | o,g=>fD (vO g (qo o)) c (bD d) k
def JM (m:Mem)(i:Nat)(b:Option N7):Mem:=Option.rec m (λb=>m.set i b) b
def dcL (f:LF)(c:Nat)(d:d9->T d9->T d9)(k:DC):DC:=λcf b ls env m gs=>ob (f ls env (Nat.add b c)) λr=>bi (isVoid (m.get (Nat.add b c))) (bi (jR (Nat.add b c) gs) (k cf b (r.1::ls) (d r.1 env) (JM m (Nat.add b c) r.2) gs) none) none
abbrev GF:=Nat->List d9->T d9->Mem->List Mem->List (T d9)->Option (List (T d9))
def aU:GF:=λ_ _ _ _ _ es=>some es
def MF:GF:=λ_ _ _ _ _ _=>none
def fV (d:d9->T d9->T d9)(k:GF):GF:=λb ls env m gs es=>k b (.undef::ls) (d .undef env) m gs es
def rA (d:d9->T d9->T d9)(k:GF):GF:=λb ls env m gs es=>k b (.undef::ls) (d .undef env) m (m::gs) es
def ghA (f:LF)(c:Nat)(d:d9->T d9->T d9)(k:GF):GF:=λb ls env m gs es=>Option.rec (k b (.undef::ls) (d .undef env) m gs es) (λ_=>none) (f ls env (Nat.add b c))
def Tf (f:T d9->T d9)(l:List (T d9)):List (T d9):=List.rec [] (λx _ ih=>f x::ih) l
def Sy (w:Bool)(f:T d9->T d9)(es:List (T d9)):List (T d9):=bi w (ah es (Tf f es)) es
def zU:d9->Bool
 | .int _ _ | .bool _ | .str _=>true
 | _=>false
def Qs (w:Bool)(v:d9):Bool:=bi w (zU v) true
def aF (f:PF)(w:Bool)(d:d9->T d9->T d9)(k:GF):GF:=λb ls env m gs es=>ob (f ls env) λv=>bi (Qs w v) (k b (v::ls) (d v env) m gs (Sy w (d v) es)) none
def uJ (f:RF)(c:Nat)(w:Bool)(d:d9->T d9->T d9)(k:GF):GF:=λb ls env m gs es=>ob (f ls env (hd m gs)) λv=>bi (stable f ls env v c (tl gs)) (bi (Qs w v) (k b (v::ls) (d v env) m gs (Sy w (d v) es)) none) none
def ghL (f:LF)(c:Nat)(k:GF):GF:=λb ls env m gs es=>ob (f ls env (Nat.add b c)) λr=>bi (isVoid (m.get (Nat.add b c))) (bi (jR (Nat.add b c) gs) (k b (r.1::ls) env (JM m (Nat.add b c) r.2) gs es) none) none
def Tg (ds:List Bool):N9->Bool
 | .loc k=>ds.getD k false
 | _=>false
def rQ (ds:List Bool)(i:Inst):Bool:=(BM i.op).any (Tg ds)||(match i.guard with
 | some p=>Tg ds p.1
 | none=>false)
def rR:List (Nat×Inst)->List Bool->GF
 | [],_=>aU
 | x::l,ds=>match x.2.op with
  | .e _=>rA (bD x.2.dst) (rR l (true::ds))
  | .a o=>bif rQ ds x.2 then ghA (AQ x.2.guard (uS o)) x.1 (bD x.2.dst) (rR l (true::ds)) else (match x.2.dst with
   | none=>ghL (AQ x.2.guard (uS o)) x.1 (rR l (false::ds))
   | some _=>MF)
  | .r o=>bif rQ ds x.2 then fV (bD x.2.dst) (rR l (true::ds)) else uJ (vO x.2.guard (qo o)) x.1 x.2.dst.isSome (bD x.2.dst) (rR l (false::ds))
  | .p o=>bif rQ ds x.2 then fV (bD x.2.dst) (rR l (true::ds)) else aF (Eu x.2.guard (lX o)) x.2.dst.isSome (bD x.2.dst) (rR l (false::ds))
def Ev:List (Nat×Inst)->List Bool->Bool
 | [],_=>true
 | x::l,ds=>match x.2.op with
  | .e _=>Ev l (true::ds)
  | .a _=>bif rQ ds x.2 then Ev l (true::ds) else (x.2.dst.isNone&&Ev l (false::ds))
  | .r _=>Ev l (rQ ds x.2::ds)
  | .p _=>Ev l (rQ ds x.2::ds)
def Xh (o:wR)(l:List (Nat×Inst)):GF:=match o with
 | .e (.call _ _)=>bif Ev l [true] then rR l [true] else MF
 | .e (.callv _ _)=>bif Ev l [true] then rR l [true] else MF
 | .e (.panic _)=>bif Ev l [true] then rR l [true] else MF
 | _=>MF
def rT (m:Mem)(x:d9)(es:List (T d9)):List EM:=List.rec [] (λv _ ih=>⟨v,m,some x,[]⟩::ih) es
def pz (f:EF)(gh:GF)(d:d9->T d9->T d9)(k:DC):DC:=λcf b ls env m gs=>MR (f cf ls env m) λr=>bW r.v (λx=>ob (gh b (.undef::ls) (d .undef env) m (m::gs) [env]) λes=>some (rT r.m x es)) (k cf b (r.v::ls) (d r.v env) r.m (r.m::gs))
def ab3 (c:Nat)(o:wR)(d:Option Nat)(g:Option (N9×Bool))(gh:GF)(k:DC):DC:=match o with
 | .p o=>O4 (Eu g (lX o)) (bD d) k
 | .r o=>ab2 c o d g k
 | .a o=>dcL (AQ g (uS o)) c (bD d) k
 | .e o=>pz (GZ g (lY o)) gh (bD d) k
def rU:List (Nat×Inst)->DC
 | []=>kg
 | (c,i)::l=>ab3 c i.op i.dst i.guard (Xh i.op l) (rU l)
def reserve (n:Nat)(m:Mem):Mem:=Nat.rec (λm=>m) (λ_ ih m=>ih (m.new .void)) n m
structure Out where
 x:aT
 env:T d9
 m:Mem
 marks:List Mk
 pv:Option d9
abbrev SC:=D7->Nat->Option Nat->T d9->Mem->List Mk->Option (List Out)
def mH (x:aT)(env:T d9)(m:Mem)(k:List Mk):Option (List Out):=some [⟨x,env,m,k,none⟩]
def y7:SC:=λ_ _ _ env m k=>mH .normal env m k
def eT (k:List Mk)(e:EM):Option (List Out):=
 Option.rec (mH .normal e.env e.m (ah e.mks k)) (λx=>some [⟨.ret,e.env,e.m,ah e.mks k,some x⟩]) e.px
def j4 (r:RC):SC:=λcf _ _ env m k=>bnd (r cf [] env m) (eT k)
def He (r:RC):SC:=λcf _ ir env m k=>Option.rec (bnd (r cf [] env m) (eT k)) (λ_=>none) ir
def gY:List Inst->Bool
 | []=>false
 | i::l=>(nQ i).isSome||gY l
def Y0 (n:Nat)(r:DC):SC:=λcf _ _ env m k=>bnd (r cf m.nx [] env (reserve n m) [reserve n m]) (eT k)
def j3 (a b:SC):SC:=λcf fuel ir env m k=>bnd (a cf fuel ir env m k) λo=>aT.rec (b cf fuel ir o.env o.m o.marks) (λ_=>some [o]) (some [o]) o.x
def o8 (c:OF)(a b:SC):SC:=λcf fuel ir env m k=>nO (c [] env) λt=>bi t (a cf fuel ir env m k) (b cf fuel ir env m k)
def w9 (id:Nat)(a:SC):SC:=λcf fuel ir env m k=>bnd (a cf fuel ir env m k) λo=>aT.rec (some [o]) (λid'=>bi (Nat.beq id id') (mH .normal o.env o.m o.marks) (some [o])) (some [o]) o.x
def H7 (body:T d9->Mem->List Mk->Option (List Out))(n:Nat):T d9->Mem->List Mk->Option (List Out):=
 Nat.rec (λ_ _ _=>none) (λ_ ih env m k=>bnd (body env m k) λo=>aT.rec (ih o.env o.m o.marks) (λ_=>some [o]) (some [o]) o.x) n
def I9 (a:SC):SC:=λcf fuel ir env m k=>H7 (λenv m k=>a cf fuel ir env m k) fuel env m k
def yS (id:Nat):SC:=λ_ _ _ env m k=>mH (.exit id) env m k
def p9:SC:=λ_ _ _ env m k=>mH .ret env m k
def nR (b:Option N7)(f:LoopState->Option aT->T d9->List (Option Nat)->P9->P9->Option β):Option β:=match b with
 | some (.loop st pend env params assign body)=>f st pend env params assign body
 | _=>none
def Ti (cf:D7)(m:Mem)(args:List d9)(v:d9):eO:=JA v λfn a b=>match fn with
 | .func f=>cf (.func f) (ah a (ah args b)) m
 | _=>none
def MS (cf:D7)(f:d9)(params:List (Option Nat))(assign body:P9)(env:T d9)(m:Mem)(k:List Mk):Option (List Out):=
 bnd (Ti cf (m.new (.loop .ready none env params assign body)) [.func (.yield m.nx) [] []] f) λr=>bW r.v (λ_=>none) <|
  nR (r.m.get m.nx) λst pend _ _ _ _=>match st with
   | .busy=>none
   | _=>match pend with
    | none=>mH .normal env (r.m.set m.nx .dead) k
    | some x=>mH x env (r.m.set m.nx .dead) k
def Hf (f:OF)(params:List (Option Nat))(assign body:P9):SC:=λcf _ ir env m k=>
 Option.rec (MS cf (f [] env) params assign body env (m.new .deferred) (.c m.nx::k))
  (λl=>nR (m.get l) λ_ _ _ _ _ _=>MS cf (f [] env) params assign body env m k) ir
def xk:P9->SC
 | .skip=>y7
 | .reg ops=>bif gY ops then He (aI ops) else j4 (aI (kM [] ops))
 | .dreg n ops=>Y0 n (rU ops)
 | .dreg2 n ops t=>j3 (Y0 n (rU ops)) (j4 (aI t))
 | .seq a b=>j3 (xk a) (xk b)
 | .cond c a b=>o8 (D8 c) (xk a) (xk b)
 | .block id a=>w9 id (xk a)
 | .loop a=>I9 (xk a)
 | .exit id=>yS id
 | .ret=>p9
 | .rangeFunc f params assign body=>Hf (D8 f) params assign body
def aW (js:List (Option Nat)):List d9->T d9->Option (T d9):=
 List.rec (λvs env=>List.rec (some env) (λ_ _ _=>none) vs) (λj _ ih vs env=>List.rec none (λv vs _=>ih vs (bD j v env)) vs) js
def results (rs:List nH)(env:T d9)(m:Mem):Option (List d9):=
 List.rec (some []) (λr _ ih=>ob (match r with
  | .tmp j=>T.get env j
  | .cell j size=>ob (T.get env j) λp=>eP p λid off=>R4 (m.get id) λrs n rows=>match size with
   | none=>cell1 rs n rows off
   | some k=>ob (iO rs n rows off k) λl=>some (.agg l)) λv=>ob ih λl=>some (v::l)) rs
def result (l:List d9):d9:=List.rec (.tuple l) (λv t _=>List.rec v (λ_ _ _=>.tuple l) t) l
def Tj (b:Option N7)(k:Option β):Option β:=match b with
 | some .deferred=>k
 | _=>none
abbrev iR:=FuncId->List d9->Option d9->Mem->Option (List (Mem×Option d9))
def Tk (dcf:iR)(v:d9)(args:List d9)(md:Option d9)(m:Mem):Option (List (Mem×Option d9)):=JA v λfn a b=>match fn with
 | .func f=>dcf f (ah a (ah args b)) md m
 | _=>none
def BZ (dcf:iR)(fin:Option d9->Mem->eO):List Mk->Option d9->Mem->eO:=
 List.rec (λmd m=>fin md m) (λx _ ih md m=>match x with
  | .c id=>Tj (m.get id) (ih md (m.set id .dead))
  | .d v args=>bnd (Tk dcf v args md m) λr=>ih r.2 r.1)
def vQ (rs:List nH)(env:T d9)(md:Option d9)(m:Mem):eO:=
 Option.rec (ob (results rs env m) λl=>one (result l) m) (λx=>one (.ng x) m) md
def leave (dcf:iR)(rs:List nH)(o:Out):eO:=aT.rec (BZ dcf (vQ rs o.env) o.marks none o.m) (λ_=>none) (BZ dcf (vQ rs o.env) o.marks o.pv o.m) o.x
def roundEnd (l:Nat)(o:Out):eO:=match o.marks,o.pv with
 | _ :: _,_=>none
 | _,some _=>none
 | [],none=>nR (o.m.get l) λst pend env params assign body=>match st,pend with
  | .busy,none=>match o.x with
   | .normal=>one (.bool true) (o.m.set l (.loop .ready none env params assign body))
   | x=>one (.bool false) (o.m.set l (.loop .done (some x) env params assign body))
  | _,_=>none
mutual
def Ew (lo:Nat):d9->List Nat
 | .ptr i _ | .slice i _ _ _ | .sliceU i _ _ _ | .map i=>bi (Nat.ble lo i) [i] []
 | .func _ a b=>vR lo a++vR lo b
 | .iface _ v=>Ew lo v
 | .agg l=>vR lo l
 | .tuple l=>vR lo l
 | _=>[]
def vR (lo:Nat):List d9->List Nat
 | []=>[]
 | v::l=>Ew lo v++vR lo l
end
inductive NB where
 | cells (rs:Nat) (rows:List (List d9))
 | map (es:List (d9×d9))
 | tail (p:Nat)
 | dead
 deriving Inhabited
def AR (b:N7):Option NB:=match b with
 | .cells rs n rows=>ob (rows.slice n 0) λl=>some (.cells rs l)
 | .map es=>some (.map es)
 | .tail p=>some (.tail p)
 | .dead=>some .dead
 | _=>none
def JN (lo:Nat):List (List d9)->List Nat
 | []=>[]
 | l::ls=>vR lo l++JN lo ls
def Tm (lo:Nat):List (d9×d9)->List Nat
 | []=>[]
 | e::es=>Ew lo e.1++(Ew lo e.2++Tm lo es)
def Xi (lo:Nat):NB->List Nat
 | .cells _ rows=>JN lo rows
 | .map es=>Tm lo es
 | .tail p=>bi (Nat.ble lo p) [p] []
 | .dead=>[]
def JO (n:Nat)(l:List (Nat×NB)):Bool:=List.rec false (λx _ ih=>bi (Nat.beq x.1 n) true ih) l
def reach (m:Mem)(lo n:Nat):List Nat->List (Nat×NB)->Option (List (Nat×NB)):=
 Nat.rec (λ_ _=>none) (λ_ ih work seen=>List.rec (some seen.reverse) (λw ws _=>
  bi (JO w seen) (ih ws seen) (ob (m.get w) λb=>ob (AR b) λnb=>ih (Xi lo nb++ws) ((w,nb)::seen))) work) n
def placeOf (i:Nat)(l:List Nat):Nat->Option Nat:=List.rec (λ_=>none) (λx _ ih k=>bi (Nat.beq x i) (some k) (ih (Nat.succ k))) l
mutual
def dK (r:Nat->Option Nat):d9->Option d9
 | .ptr i o=>ob (r i) λj=>some (.ptr j o)
 | .slice i o l c=>ob (r i) λj=>some (.slice j o l c)
 | .sliceU i o l c=>ob (r i) λj=>some (.sliceU j o l c)
 | .map i=>ob (r i) λj=>some (.map j)
 | .func fn a b=>match fn with
  | .yield _=>none
  | fn=>ob (jD r a) λx=>ob (jD r b) λy=>some (.func fn x y)
 | .iface t v=>ob (dK r v) λx=>some (.iface t x)
 | .agg l=>ob (jD r l) λx=>some (.agg x)
 | .tuple l=>ob (jD r l) λx=>some (.tuple x)
 | .ng _=>none
 | v=>some v
def jD (r:Nat->Option Nat):List d9->Option (List d9)
 | []=>some []
 | v::l=>ob (dK r v) λx=>ob (jD r l) λy=>some (x::y)
end
def qP (r:Nat->Option Nat):List (List d9)->Option (List (List d9))
 | []=>some []
 | l::ls=>ob (jD r l) λx=>ob (qP r ls) λy=>some (x::y)
def AU (r:Nat->Option Nat):List (d9×d9)->Option (List (d9×d9))
 | []=>some []
 | e::es=>ob (dK r e.1) λx=>ob (dK r e.2) λy=>ob (AU r es) λz=>some ((x,y)::z)
def nK (r:Nat->Option Nat):NB->Option NB
 | .cells rs rows=>ob (qP r rows) λx=>some (.cells rs x)
 | .map es=>ob (AU r es) λx=>some (.map x)
 | .tail p=>ob (r p) λq=>some (.tail q)
 | .dead=>some .dead
def uT (r:Nat->Option Nat):List NB->Option (List NB)
 | []=>some []
 | p::l=>ob (nK r p) λx=>ob (uT r l) λy=>some (x::y)
structure CO where
 ids:List Nat
 vs:List d9
 bs:List NB
def yT (lo:Nat)(ids:List Nat)(i:Nat):Option Nat:=bi (Nat.ble lo i) (placeOf i ids lo) (some i)
def jS (lo:Nat)(vs:List d9)(m:Mem):Option CO:=
 ob (reach m lo 100000 (vR lo vs) []) λseen=>ob (jD (yT lo (seen.map (·.1))) vs) λxs=>ob (uT (yT lo (seen.map (·.1))) (seen.map (·.2))) λbs=>some ⟨seen.map (·.1),xs,bs⟩
def fZ:NB->N7
 | .cells rs rows=>.cells rs (len' rows) (T.ofList rows)
 | .map es=>.map es
 | .tail p=>.tail p
 | .dead=>.dead
def layAll (bs:List NB):Mem->Mem:=List.rec (λm=>m) (λb _ ih m=>ih (m.new (fZ b))) bs
def yU:List (List d9)->List (List d9)->Bool
 | [],[]=>true
 | a::x,b::y=>bi (rz (dz 100) a b) (yU x y) false
 | _,_=>false
def Fp:List (d9×d9)->List (d9×d9)->Bool
 | [],[]=>true
 | a::x,b::y=>bi (dz 100 a.1 b.1) (bi (dz 100 a.2 b.2) (Fp x y) false) false
 | _,_=>false
def Tn:NB->NB->Bool
 | .cells r a,.cells s b=>bi (Nat.beq r s) (yU a b) false
 | .map a,.map b=>Fp a b
 | .tail p,.tail q=>Nat.beq p q
 | .dead,.dead=>true
 | _,_=>false
def jE:List NB->List NB->Bool
 | [],[]=>true
 | a::x,b::y=>bi (Tn a b) (jE x y) false
 | _,_=>false
structure AV where
 v:d9
 bs:List NB
def zV (lo:Nat)(r:VM):Option AV:=ob (jS lo [r.v] r.m) λc=>List.rec none (λv _ _=>some ⟨v,c.bs⟩) c.vs
def Hg (lo:Nat)(l:List VM):Option AV:=
 List.rec none (λr rs ih=>ob (zV lo r) λa=>List.rec (some a) (λ_ _ _=>ob ih λb=>bi (dz 100 a.v b.v) (bi (jE a.bs b.bs) (some a) none) none) rs) l
structure M9 where
 pure:Bool
 args:List (Option Nat)
 nslots:Nat
 results:List nH
 code:SC
 rcode:Option P9
structure Known where
 fns:FuncId->Option M9
 base:Mem
 sum:FuncId->List d9->List NB->Option AV
 eff:FuncId->List d9->Mem->eO
def ko (cf:D7)(dcf:iR)(fuel:Nat)(f:M9)(args:List d9)(m:Mem):eO:=
 ob (aW f.args args (T.rep .undef f.nslots .e 0)) λenv=>bnd (f.code cf fuel none env m []) (leave dcf f.results)
structure JQ where
 o:Out
 md:Option d9
def isRec (i:Inst):Bool:=match i.op,i.guard with
 | .e .recover,none=>true
 | _,_=>false
def MU:List Inst->Bool
 | []=>false
 | i::l=>isRec i||MU l
def uK:List Inst->D7->List d9->T d9->Mem->Option d9->Option (List (EM×Option d9))
 | [],_,_,env,m,md=>some [(⟨env,m,none,[]⟩,md)]
 | i::l,cf,ls,env,m,md=>match isRec i with
  | true=>match md with
   | some x=>uK l cf (x::ls) (bD i.dst x env) m none
   | none=>uK l cf (.nilIface::ls) (bD i.dst .nilIface env) m none
  | false=>match i.op with
   | .p o=>ob (Eu i.guard (lX o) ls env) λv=>uK l cf (v::ls) (bD i.dst v env) m md
   | .r o=>ob (vO i.guard (qo o) ls env m) λv=>uK l cf (v::ls) (bD i.dst v env) m md
   | _=>none
def OE:P9->D7->Nat->T d9->Mem->Option d9->Option (List JQ)
 | .seq a b,cf,fuel,env,m,md=>bnd (OE a cf fuel env m md) λr=>match r.o.x with
  | .normal=>match r.o.marks with
   | []=>OE b cf fuel r.o.env r.o.m r.md
   | _=>none
  | _=>some [r]
 | .cond c a b,cf,fuel,env,m,md=>nO (D8 c [] env) λt=>bi t (OE a cf fuel env m md) (OE b cf fuel env m md)
 | .reg ops,cf,fuel,env,m,md=>match MU ops with
  | true=>bnd (uK ops cf [] env m md) λr=>some [⟨⟨.normal,r.1.env,r.1.m,[],none⟩,r.2⟩]
  | false=>bnd (xk (.reg ops) cf fuel none env m []) λo=>some [⟨o,md⟩]
 | c,cf,fuel,env,m,md=>bnd (xk c cf fuel none env m []) λo=>some [⟨o,md⟩]
def Tp (rs:List nH)(r:JQ):Option (List (Mem×Option d9)):=match r.o.x,r.o.marks,r.o.pv with
 | .exit _,_,_=>none
 | _,[],none=>ob (results rs r.o.env r.o.m) λ_=>some [(r.o.m,r.md)]
 | _,_,_=>none
def akv (cf:D7)(fuel:Nat)(f:M9)(args:List d9)(md:Option d9)(m:Mem):Option (List (Mem×Option d9)):=
 ob f.rcode λc=>ob (aW f.args args (T.rep .undef f.nslots .e 0)) λenv=>bnd (OE c cf fuel env m md) (Tp f.results)
def Mem.shut (m:Mem):Mem:=⟨m.t,m.nx,m.nx⟩
def qQ (K:Known)(cf:D7)(fuel:Nat):iR:=λf args md m=>ob (K.fns f) λsf=>akv cf fuel sf args md m
def zW (K:Known)(cf:D7)(fuel:Nat)(f:FuncId)(sf:M9)(args:List d9)(bs:List NB):Option AV:=
 Option.rec (ob (ko cf (qQ K cf fuel) fuel sf args (layAll bs K.base).shut) λl=>Hg (layAll bs K.base).nx l) (λa=>some a) (K.sum f args bs)
def kN (g:Nat)(ids:List Nat)(next i:Nat):Option Nat:=
 bi (Nat.blt i g) (some i) (bi (Nat.blt (Nat.sub i g) (len' ids)) (pq (Nat.sub i g) ids) (some (Nat.add next (Nat.sub (Nat.sub i g) (len' ids)))))
def gD (K:Known)(cf:D7)(fuel:Nat)(f:FuncId)(sf:M9)(args:List d9)(m:Mem):eO:=
 ob (jS K.base.nx args m) λc=>ob (zW K cf fuel f sf c.vs c.bs) λa=>ob (dK (kN K.base.nx c.ids m.nx) a.v) λv=>ob (uT (kN K.base.nx c.ids m.nx) a.bs) λbs=>one v (layAll bs m)
def xq (cf:D7)(fuel l:Nat)(args:List d9)(m:Mem):eO:=
 bi (Nat.blt l m.lim) none (nR (m.get l) λst pend env params assign body=>match st,pend with
  | .ready,none=>ob (aW params args env) λenv1=>bnd (xk assign cf fuel (some l) env1 m []) λo=>match o.x,o.marks with
   | .normal,[]=>nR (o.m.get l) λst2 pend2 env2 params2 assign2 body2=>match st2,pend2 with
    | .ready,none=>bnd (xk body cf fuel (some l) o.env (o.m.set l (.loop .busy none env2 params2 assign2 body2)) []) (roundEnd l)
    | _,_=>none
   | _,_=>none
  | _,_=>none)
def l9 (K:Known)(fuel n:Nat):D7:=
 Nat.rec (λ_ _ _=>none) (λ_ ih fn args m=>match fn with
  | .func f=>Option.rec (ob (K.fns f) λsf=>bi sf.pure (gD K ih fuel f sf args m) (ko ih (qQ K ih fuel) fuel sf args m)) (λl=>some l) (K.eff f args m)
  | .yield l=>xq ih fuel l args m
  | _=>none) n
mutual
def ofValue:Value->Option d9
 | .bool b=>some (.bool b)
 | .int k n=>some (.int k n)
 | .string s=>some (.str s.data.toList)
 | .pointer none=>some .nilPtr
 | .slice none 0 0=>some .nilSlice
 | .map none=>some .nilMap
 | .func (.func f) ⟨[]⟩ ⟨[]⟩=>some (.func (.func f) [] [])
 | .nilFunc=>some .nilFunc
 | .nilIface=>some .nilIface
 | .agg ⟨l⟩=>match ofValues l with
  | some x=>some (.agg x)
  | none=>none
 | .tuple ⟨[]⟩=>some (.tuple [])
 | _=>none
def ofValues:List Value->Option (List d9)
 | []=>some []
 | v::l=>match ofValue v,ofValues l with
  | some x,some y=>some (x::y)
  | _,_=>none
end
section
variable (P:Program)
def V5 (t:TypeId):Option Nat:=(P.info? t).map (·.size)
def dV (t:TypeId):Option Nat:=(P.info? t).map (·.bytes)
def uL (t:TypeId):Option Bool:=match P.underlying t with
 | some (.struct _) | some (.array _ _)=>some true
 | some _=>some false
 | none=>none
def partT (t:TypeId):Option (Option Nat):=match uL P t,V5 P t with
 | some true,some n=>some (some n)
 | some false,some _=>some none
 | _,_=>none
def pE (t:TypeId):Option (List d9):=match (P.info? t).bind (·.zero) with
 | some z=>match ofValue z with
  | some a=>some a.cells
  | none=>none
 | none=>none
def zeroV (t:TypeId):Option d9:=match (P.info? t).bind (·.zero) with
 | some z=>ofValue z
 | none=>none
def mJ (f:TypeId->Option (List PK)):List Field->Nat->Option (List PK)
 | [],_=>some []
 | fd::l,off=>if fd.name≠ "_"∧fd.offset=off then match f fd.type with
   | some ks=>match mJ f l (off+ks.length) with
    | some r=>some (ks++r)
    | none=>none
   | none=>none
  else none
def dL:Nat->TypeId->Option (List PK)
 | 0,_=>none
 | d+1,t=>match P.underlying t with
  | some .bool=>if V5 P t=some 1 then some [.b] else none
  | some (.int _)=>if V5 P t=some 1 then some [.i] else none
  | some .string=>if V5 P t=some 1 then some [.s] else none
  | some (.struct fs)=>match mJ (dL d) fs.toList 0 with
   | some ks=>if P.stoodInHeld t=false∧V5 P t=some ks.length then some ks else none
   | none=>none
  | _=>none
def Tq (cst:Bool)(t:TypeId):Option yK:=match P.underlying t with
 | some .bool=>some (.prim .b)
 | some (.int _)=>some (.prim .i)
 | some .string=>some (.prim .s)
 | some (.struct _)=>match dL P 10 t with
  | some k=>if P.eqGuardType P.depth t=false then some (.flat k) else none
  | none=>none
 | some (.pointer e)=>match V5 P e with
  | some _=>some .ptr
  | none=>none
 | some (.slice _)=>some .slice
 | some (.map _ _)=>some .map
 | some (.func ..)=>some .func
 | some (.interface _)=>if cst then some .iface else none
 | _=>none
def Xj (t:TypeId):Option yK:=match P.underlying t with
 | some (.array n e)=>match P.underlying e with
  | some (.int _)=>if V5 P e=some 1∧P.eqGuardType P.depth t=false then some (.flat (List.replicate n .i)) else none
  | _=>none
 | _=>none
def Tt (cst:Bool)(t:TypeId):Option yK:=match Tq P cst t with
 | some k=>some k
 | none=>Xj P t
def AX (t:TypeId):Option (List d9):=match pE P t,V5 P t with
 | some z,some k=>if z.length=k then some z else none
 | _,_=>none
def ZX (t:TypeId):Bool:=match P.info? t with
 | some {desc:=.named n _,..}=>n == "strings.Builder"
 | _=>false
def MV (t:TypeId):Bool:=ZX P t||(match P.underlying t with
 | some (.struct fs)=>fs.toList.any λf=>ZX P f.type
 | _=>false)
def JR (u:TypeId):List (Nat×Nat):=(List.range P.types.size).flatMap λty=>if MV P ty&&P.cellsOf ty != 0 then
 ((if liesAt P P.depth ty 1 0 u 1 then [(ty,0)] else [])++(match P.underlying ty with
  | some (.struct fs)=>fs.toList.flatMap λf=>if f.offset≠0∧liesAt P P.depth ty 1 f.offset u 1 then [(ty,f.offset)] else []
  | _=>[])) else []
def zX (e:TypeId):Bool:=(match P.underlying e with
 | some (.int .u8)=>true
 | _=>false)&&V5 P e==some 1&&dV P e==some 1&&(AX P e).isSome
def rD (t:TypeId):Option yK:=match Tq P false t with
 | some (.prim j)=>some (.prim j)
 | some (.flat ks)=>some (.flat ks)
 | _=>none
end
def idxOf (t:Nat):List Nat->Nat->Option Nat
 | [],_=>none
 | x::l,i=>bif Nat.beq x t then some i else idxOf t l (i+1)
def fO (t:Nat):List (Option Nat)->Nat->Option Nat
 | [],_=>none
 | some x::l,i=>bif Nat.beq x t then some i else fO t l (i+1)
 | none::l,i=>fO t l (i+1)
section
variable (P:Program)(slots:List Nat)(done:List (Option Nat))
def J7:Operand->Option N9
 | .tmp t=>match fO t done 0 with
  | some k=>some (.loc k)
  | none=>match idxOf t slots 0 with
   | some j=>some (.slot j)
   | none=>none
 | .const v=>match ofValue v with
  | some a=>some (.con a)
  | none=>none
 | .global g=>if g<P.globals.size then some (.con (.ptr g 0)) else none
 | .func f=>some (.con (.func (.func f) [] []))
def iE:List Operand->Option (List N9)
 | []=>some []
 | x::l=>match J7 P slots done x,iE l with
  | some a,some b=>some (a::b)
  | _,_=>none
def cOpt:Option Operand->Option (Option N9)
 | none=>some none
 | some x=>match J7 P slots done x with
  | some a=>some (some a)
  | none=>none
def uU:Operand->Bool
 | .const _=>true
 | _=>false
def rV (place:Nat->Option (Nat×Nat)):List (Nat×Operand)->Option (List (Nat×Nat×N9))
 | []=>some []
 | p::l=>match place p.1,J7 P slots done p.2,rV place l with
  | some (o,s),some x,some r=>some ((o,s,x)::r)
  | _,_,_=>none
def placesOf:List Field->Option (List (Nat×Nat))
 | []=>some []
 | f::l=>match V5 P f.type,placesOf l with
  | some s,some r=>some ((f.offset,s)::r)
  | _,_=>none
def vS (t:TypeId)(parts:List (Nat×Operand)):Option wR:=
 match pE P t,P.underlying t with
 | some zero,some (.struct fields)=>match placesOf P fields.toList with
  | some pl=>match rV P slots done (λi=>pl[i]?) parts with
   | some ps=>some (.p (.build zero ps))
   | none=>none
  | none=>none
 | some zero,some (.array _ elem)=>match V5 P elem with
  | some s=>match rV P slots done (λi=>some (i*s,s)) parts with
   | some ps=>some (.p (.build zero ps))
   | none=>none
  | none=>none
 | _,_=>none
def ab4:TypeDesc->Bool
 | .string=>true
 | _=>false
def rW (b:Builtin)(ts:List TypeId)(args:List Operand):Option wR:=do
 match b,ts,args with
 | .len,[t],[x]=>match ← P.underlying t with
  | .string=>do pure (.p (.lenS (← J7 P slots done x)))
  | .slice _=>do pure (.p (.len (← J7 P slots done x)))
  | .array n _=>pure (.p (.mov (.con (.int .i64 n))))
  | .map _ _=>do pure (.r (.lenM (← J7 P slots done x)))
  | _=>none
 | .cap,[t],[x]=>match ← P.underlying t with
  | .slice _=>do pure (.p (.cap (← J7 P slots done x)))
  | _=>none
 | .append,[t,u],[s,x]=>match ← P.underlying t with
  | .slice e=>do
   let d ← P.underlying u
   let zs:=match d with | .int _=>true | _=>false
   if ab4 d&&zX P e then pure (.e (.appB e (← J7 P slots done s) (← J7 P slots done x)))
   else pure (.e (.app (← V5 P e) zs (← AX P e) (← dV P e) (← J7 P slots done s) (← J7 P slots done x)))
  | _=>none
 | .copy,[t,_],[d,s]=>match ← P.underlying t with
  | .slice e=>do pure (.e (.copy (← V5 P e) (← J7 P slots done d) (← J7 P slots done s)))
  | _=>none
 | .clear,[t],[x]=>match ← P.underlying t with
  | .slice e=>do pure (.e (.clear (← pE P e) (← J7 P slots done x)))
  | _=>none
 | .max,_,x::xs=>do pure (.p (.mm true (← J7 P slots done x) (← iE P slots done xs)))
 | .min,_,x::xs=>do pure (.p (.mm false (← J7 P slots done x) (← iE P slots done xs)))
 | .recover,[],[]=>pure (.e .recover)
 | .unsafeSliceData,[t],[x]=>match ← P.underlying t with
  | .slice _=>do pure (.r (.slData (← J7 P slots done x)))
  | _=>none
 | .unsafeString,[t,_],[p,n]=>match ← P.underlying t with
  | .pointer e=>do if zX P e then pure (.e (.ustr e (← J7 P slots done p) (← J7 P slots done n))) else none
  | _=>none
 | _,_,_=>none
def dY (o:Op):Option wR:=do
 let r:=J7 P slots done
 match o with
 | .move x | .assign x=>pure (.p (.mov (← r x)))
 | .pick c a b=>pure (.p (.pick (← r c) (← r a) (← r b)))
 | .alloc t=>if MV P t then do pure (.a (.allocT t (← AX P t))) else do pure (.a (.alloc (← pE P t)))
 | .box t x=>if MV P t then do pure (.a (.boxT t (← V5 P t) (← r x))) else do pure (.a (.box (← r x)))
 | .build t parts=>vS P slots done t parts.toList
 | .buildSlice t len parts=>match ← P.underlying t with
  | .slice e=>do
   let es ← V5 P e
   let ps ← rV P slots done (λi=>some (i*es,es)) parts.toList
   if len*es<=16777216 then pure (.a (.buildSlice es len (← pE P e) ps)) else none
  | _=>none
 | .load t a=>pure (.r (.load (← partT P t) (← r a)))
 | .store t a x=>pure (.e (.store (← V5 P t) (← r a) (← r x)))
 | .nilCheck x=>pure (.p (.nilCheck (← r x)))
 | .binOp op t x y _=>match op with
  | .eql | .neq=>do
   let k ← Tt P (uU x||uU y) t
   let neg:=match op with | .neq=>true | _=>false
   match k with
   | .prim .i=>pure (.p (.ib op (← r x) (← r y)))
   | .prim .s=>pure (.p (.ib op (← r x) (← r y)))
   | k=>pure (.p (.eq neg k (← r x) (← r y)))
  | _=>pure (.p (.ib op (← r x) (← r y)))
 | .unOp op _ x=>match op with
  | .not=>do pure (.p (.not (← r x)))
  | .neg=>do pure (.p (.neg (← r x)))
  | .xor=>do pure (.p (.inv (← r x)))
  | _=>none
 | .convert s d x=>match ← P.underlying s,← P.underlying d with
  | .int _,.int k=>do pure (.p (.conv k (← r x)))
  | .string,.slice e=>match ← P.underlying e with
   | .int .u8=>do pure (.a (.strBytes (← r x)))
   | _=>none
  | .slice e,.string=>match ← P.underlying e with
   | .int .u8=>do pure (.r (.bytesStr (← r x)))
   | _=>none
  | .pointer t,.unsafePointer=>match ← V5 P t with
   | 0=>none
   | _=>do pure (.r (.toUns (← r x)))
  | .unsafePointer,.pointer u=>match ← V5 P u with
   | 0=>none
   | _=>do pure (.r (.fromUns (JR P u) (← r x)))
  | _,_=>none
 | .makeInterface t x=>match ← P.underlying t with
  | .interface _=>none
  | _=>do pure (.p (.mkIface t (← r x)))
 | .makeFunc fn a b=>match fn with
  | .func f=>do pure (.p (.mkFunc (.func f) (← iE P slots done a.toList) (← iE P slots done b.toList)))
  | _=>none
 | .makeMap t res=>match res with
  | none=>pure (.a .mkMap)
  | some (.const (.int _ _))=>match P.underlying t with
   | some (.map _ _)=>pure (.a .mkMap)
   | _=>none
  | _=>none
 | .makeSlice t l c=>match ← P.underlying t with
  | .slice e=>do pure (.a (.mkSlice (← V5 P e) (← dV P e) (← AX P e) (← r l) (← r c)))
  | _=>none
 | .slice t x lo hi none=>match ← P.underlying t with
  | .string=>do pure (.p (.slStr (← r x) (← cOpt P slots done lo) (← cOpt P slots done hi)))
  | .slice e=>do pure (.a (.sl (← V5 P e) (← r x) (← cOpt P slots done lo) (← cOpt P slots done hi)))
  | .array n e=>do pure (.p (.slArr (← V5 P e) n (← r x) (← cOpt P slots done lo) (← cOpt P slots done hi)))
  | _=>none
 | .fieldAddr s x f=>match ← P.underlying s with
  | .struct fs=>do
   let fd ← fs[f]?
   let sz ← V5 P fd.type
   if sz=0 then none else pure (.p (.fAddr fd.offset (← r x)))
  | _=>none
 | .field s x f=>match ← P.underlying s with
  | .struct fs=>do
   let fd ← fs[f]?
   pure (.p (.fld fd.offset (← partT P fd.type) (← r x)))
  | _=>none
 | .indexAddr t x i=>match ← P.underlying t with
  | .slice e=>do pure (.p (.iAddr (← V5 P e) (← r x) (← r i)))
  | .array n e=>do pure (.p (.iAddrArr (← V5 P e) n (← r x) (← r i)))
  | _=>none
 | .index t x i=>match ← P.underlying t with
  | .string=>do pure (.p (.iStr (← r x) (← r i)))
  | .array n e=>do pure (.p (.iArr (← V5 P e) n (← partT P e) (← r x) (← r i)))
  | _=>none
 | .lookup t x k ok=>match ← P.underlying t with
  | .map kt e=>do pure (.r (.look (← rD P kt) (← zeroV P e) ok (← r x) (← r k)))
  | _=>none
 | .mapUpdate t m k x | .insert t m k x=>match ← P.underlying t with
  | .map kt _=>do pure (.e (.mapSet (← rD P kt) (← r m) (← r k) (← r x)))
  | _=>none
 | .range t x=>match ← P.underlying t with
  | .map _ _=>do pure (.e (.range (← r x)))
  | .string=>do pure (.e (.rangeS (← r x)))
  | _=>none
 | .next it false=>pure (.e (.next (← r it)))
 | .next it true=>pure (.e (.nextS (← r it)))
 | .entry it=>pure (.r (.entry (← r it)))
 | .extract x i=>pure (.p (.ext (← r x) i))
 | .typeAssert x _ t ok=>match ← P.underlying t with
  | .interface _=>none
  | _=>do pure (.p (.assert t (← zeroV P t) ok (← r x)))
 | .panic x=>pure (.e (.panic (← r x)))
 | .defer c=>match c.callee with
  | .value f=>do pure (.e (.defer (← r f) (← iE P slots done c.args.toList)))
  | _=>none
 | .call c=>match c.callee with
  | .builtin b=>rW P slots done b c.argTypes.toList c.args.toList
  | .value (.func f)=>do
   let fn ← P.funcs[f]?
   if fn.body.isSome&&fn.name != "runtime.NumGoroutine" then pure (.e (.call f (← iE P slots done c.args.toList)))
   else if fn.body.isNone&&fn.name == "internal/abi.NoEscape" && (Extern.findNext fn).isNone then match c.args.toList with
    | [x]=>do pure (.p (.mov (← r x)))
    | _=>none
   else none
  | .value f=>do pure (.e (.callv (← r f) (← iE P slots done c.args.toList)))
  | _=>none
 | _=>none
def Ey:Option Tmp->Option Nat
 | none=>none
 | some t=>idxOf t slots 0
def jv (o:Op):wR:=match dY P slots done o with
 | some a=>a
 | none=>.e .bad
def nT (ops:Array Oper)(i:Nat):Option (Inst×Option Nat):=do
 let o ← ops[i]?
 let a:=jv P slots done o.op
 let g ← match o.guard with
  | none=>pure none
  | some (j,w)=>do
   let og ← ops[j]?
   let d ← og.dst
   let k ← fO d done 0
   pure (some (N9.loc k,w))
 pure (⟨a,Ey slots o.dst,g⟩,o.dst)
end
def iT (P:Program)(slots:List Nat)(ops:Array Oper):List (Option Nat)->List Nat->Option (List Inst)
 | _,[]=>some []
 | done,i::rest=>match nT P slots done ops i with
  | some (x,d)=>match iT P slots ops (d::done) rest with
   | some l=>some (x::l)
   | none=>none
  | none=>none
def bitsOf (e:Array Edge)(acc:List Nat):Nat:=
 e.toList.foldl (λs x=>if Region.binds .any x then s ||| (1 <<< x.on) ||| (acc.getD x.on 0) else s) 0
def masks (ops:List Oper):List Nat:=ops.foldl (λacc o=>acc ++ [bitsOf o.after acc]) []
def MW (ms:List Nat)(i j:Nat):Bool:=Nat.testBit (ms.getD i 0) j
def afc:Op->Bool
 | .store .. | .mapUpdate .. | .insert .. | .range .. | .next .. | .mapEntry .. | .entryStore .. | .panic _ | .defer _ | .typeAssert ..=>true
 | .call {callee:=.builtin b,..}=>match b with
  | .append | .copy | .clear | .delete | .unsafeString=>true
  | _=>false
 | .call _=>true
 | _=>false
def Ca (ops:Array Oper)(i:Nat):Bool:=
 match ops[i]? with
 | some o=>afc o.op
 | none=>false
def canon (eff:Nat->Bool)(ms:List Nat)(n:Nat):List Nat:=
 let effs:=(List.range n).filter eff
 let step (acc:List Nat) (e:Nat):List Nat:=acc++(List.range n).filter (λi=>!acc.contains i&&MW ms e i) ++ [e]
 let acc:=effs.foldl (λacc e=>if acc.contains e then acc else step acc e) []
 acc++(List.range n).filter (λi=>!acc.contains i)
def L9 (x:Inst):Bool:=match x.op with
 | .e _=>true
 | _=>false
def isA (x:Inst):Bool:=match x.op with
 | .a _=>true
 | _=>false
def isR (x:Inst):Bool:=match x.op with
 | .r _=>true
 | _=>false
def ab5 (ms:List Nat)(i:Nat)(x:Inst)(effs:List Nat)(nal:Nat):Nat:=
 if isR x then (effs.takeWhile λe=>!MW ms i e).length else nal
def numbered (ms:List Nat):List (Nat×Inst)->List Nat->Nat->List (Nat×Inst)
 | [],_,_=>[]
 | (i,x)::rest,effs,nal=>(ab5 ms i x effs nal,x)::numbered ms rest (if L9 x then i::effs else effs) (if isA x then nal+1 else nal)
def vT (ops:Array Oper)(o:Oper):List Nat:=
 (o.op.operands.toList.filterMap fun | .tmp t=>some t | _=>none) ++
 (match o.guard with
  | some (g,_)=>((ops[g]?).bind (·.dst)).toList
  | none=>[])
def JU:List Nat->Bool
 | []=>true
 | x::l=>!l.contains x&&JU l
def Ho:List Inst->Nat
 | []=>0
 | x::l=>(if isA x then 1 else 0)+Ho l
def OG (ms:List Nat)(i:Nat)(before:List (Nat×Inst)):N9->Bool
 | .loc k=>match before[k]? with
  | some y=>MW ms i y.1
  | none=>false
 | .slot j=>before.all λy=>y.2.dst != some j
 | .con _=>true
def rX (ms:List Nat)(ops:Array Oper)(i:Nat)(x:Inst)(before:List (Nat×Inst)):Bool:=
 (match x.op with
  | .e _=>before.all λy=>MW ms i y.1
  | _=>true) &&
 (match ops[i]? with
  | some o=>(o.after.toList.all λe=>!Region.binds .any e||before.any λy=>y.1==e.on) &&
   ((vT ops o).all λt=>(List.range ops.size).all λq=>q==i||(match ops[q]? with
    | some oq=>oq.dst != some t
    | none=>true)||MW ms i q||MW ms q i)
  | none=>false) &&
 ((BM x.op).all λy=>OG ms i before y) &&
 (match x.guard with
  | some (y,_)=>OG ms i before y
  | none=>true)
def tY (ms:List Nat)(ops:Array Oper):List (Nat×Inst)->List (Nat×Inst)->Bool
 | [],_=>true
 | y::rest,before=>rX ms ops y.1 y.2 before&&tY ms ops rest (y::before)
def Tv (ms:List Nat)(ops:Array Oper)(ord:List Nat)(insts:List Inst):Bool:=
 JU ord&&(ord.all λi=>Nat.blt i ops.size)&&((List.range ops.size).all λi=>ord.contains i)&&JU (ops.toList.filterMap (·.dst))&&tY ms ops (ord.zip insts) []
def xu (P:Program)(slots:List Nat)(ops:Array Oper):Option P9:=
 match iT P slots ops [] (canon (Ca ops) (masks ops.toList) ops.size) with
 | none=>none
 | some insts=>
  if Tv (masks ops.toList) ops (canon (Ca ops) (masks ops.toList) ops.size) insts then
   some (.dreg (Ho insts) (numbered (masks ops.toList) ((canon (Ca ops) (masks ops.toList) ops.size).zip insts) [] 0))
  else none
def JV:N9->Bool
 | .loc _=>false
 | _=>true
def Hq (ms:List Nat)(ops:Array Oper):Bool:=
 Nat.ble 3 ops.size &&
 ((List.range ops.size).all λi=>match ops[i]? with
  | some o=>(o.after.toList.all λe=>!Region.binds .any e||Nat.blt e.on i)&&o.guard.isNone
  | none=>false) &&
 ((List.range (ops.size-3)).all λj=>MW ms (ops.size-3) j&&MW ms (ops.size-2) j&&MW ms (ops.size-1) j) &&
 MW ms (ops.size-2) (ops.size-3)
def Br (x y z:Option (Inst×Option Nat))(n:Nat)(l:List (Nat×Inst)):Option P9:=
 match x,y,z with
 | some (⟨.p po,none,none⟩,_),some (⟨.e (.store s (.loc 0) v),none,none⟩,none),some (⟨.e (.store s' a' v'),none,none⟩,none)=>if JV a'&&JV v' then some (.dreg2 n l [⟨.p po,none,none⟩,⟨.e (.store s (.loc 0) v),none,none⟩,⟨.e (.storeAp s' a' v' (.loc 1)),none,none⟩]) else none
 | _,_,_=>none
def OH:Option Oper->Bool
 | some o=>match o.op with
  | .store ..=>true
  | _=>false
 | none=>false
def splits (ops:Array Oper):Bool:=OH ops[ops.size-1]? && OH ops[ops.size-2]? && !MW (masks ops.toList) (ops.size-1) (ops.size-2)
def Cb (P:Program)(slots:List Nat)(ops:Array Oper):Option P9:=
 match xu P slots (ops.extract 0 (ops.size-3)) with
 | some (.dreg n l)=>
  if Hq (masks ops.toList) ops then
   Br (nT P slots [] ops (ops.size-3)) (nT P slots [(ops[ops.size-3]?).bind (·.dst)] ops (ops.size-2)) (nT P slots [] ops (ops.size-1)) n l
  else none
 | _=>none
def O8 (P:Program)(slots:List Nat):Code->Option P9
 | .skip=>some .skip
 | .region _ ops false=>match iT P slots ops [] (List.range ops.size) with
  | some l=>some (.reg l)
  | none=>none
 | .region _ ops true=>if splits ops then Cb P slots ops else xu P slots ops
 | .seq a b=>match O8 P slots a,O8 P slots b with
  | some x,some y=>some (.seq x y)
  | _,_=>none
 | .cond c a b=>match J7 P slots [] c,O8 P slots a,O8 P slots b with
  | some z,some x,some y=>some (.cond z x y)
  | _,_,_=>none
 | .block id a=>match O8 P slots a with
  | some x=>some (.block id x)
  | none=>none
 | .loop a=>match O8 P slots a with
  | some x=>some (.loop x)
  | none=>none
 | .exit id=>some (.exit id)
 | .ret=>some .ret
 | .rangeFunc f ps a b=>match J7 P slots [] f,O8 P slots a,O8 P slots b with
  | some z,some x,some y=>some (.rangeFunc z (ps.toList.map λt=>idxOf t slots 0) x y)
  | _,_,_=>none
 | .refuse _=>some (.reg [⟨.e .bad,none,none⟩])
 | _=>none
def tmpsIn (nt:Nat):Code->Bool
 | .region _ ops _=>ops.toList.all λo=>match o.dst with
  | some t=>Nat.blt t nt
  | none=>true
 | .seq a b=>tmpsIn nt a&&tmpsIn nt b
 | .cond _ a b=>tmpsIn nt a&&tmpsIn nt b
 | .block _ a=>tmpsIn nt a
 | .loop a=>tmpsIn nt a
 | .rangeFunc _ _ a b=>tmpsIn nt a&&tmpsIn nt b
 | _=>true
def AY (P:Program)(slots:List Nat):List ResultVar->Option (List nH)
 | []=>some []
 | .tmp t::l=>match idxOf t slots 0,AY P slots l with
  | some j,some r=>some (.tmp j::r)
  | _,_=>none
 | .cell t ty::l=>match idxOf t slots 0,partT P ty,AY P slots l with
  | some j,some s,some r=>some (.cell j s::r)
  | _,_,_=>none
def MX (P:Program)(slots:List Nat)(f:FuncId):Option AFn:=
 match P.funcs[f]? with
 | none=>none
 | some fn=>match fn.body with
  | none=>none
  | some c=>match O8 P slots c,AY P slots fn.results.toList with
   | some b,some r=>
    if tmpsIn fn.ntmps c&&(slots.all λt=>Nat.blt t fn.ntmps)&&Nat.blt slots.length 1152921504606846976&&fn.name != "runtime.NumGoroutine" then
     some ⟨fn.params.size+fn.nfree,(List.range (fn.params.size+fn.nfree)).map λt=>idxOf t slots 0,slots.length,r,b⟩
    else none
   | _,_=>none
section
variable {α β γ:Type}
@[simp] theorem K5 (a:α)(k:α->Option β):ob (some a) k=k a:=rfl
@[simp] theorem aiM (k:α->Option β):ob none k=none:=rfl
theorem z8 {o:Option α}{k:α->Option β}{b:β}(h:ob o k=some b):∃a,o=some a∧k a=some b:=by
 cases o with
 | none=>simp at h
 | some a=>exact⟨a,rfl,h⟩
@[simp] theorem U0 (x y:α):bi true x y=x:=rfl
@[simp] theorem O6 (x y:α):bi false x y=y:=rfl
theorem D5 {b:Bool}{x:Option α}{a:α}(h:bi b x none=some a):b=true∧x=some a:=by
 cases b with
 | true=>exact⟨rfl,h⟩
 | false=>simp at h
theorem iU {b:Bool}{x:Option α}{a:α}(h:bi b none x=some a):b=false∧x=some a:=by
 cases b with
 | true=>simp at h
 | false=>exact⟨rfl,h⟩
end
namespace T
variable {α:Type}
@[simp] theorem apn (i:Nat):(T.e:T α).get i=none:=rfl
@[simp] theorem afd (l:T α)(x:α)(r:T α):(T.nd l x r).get 0=some x:=rfl
theorem bM (l:T α)(x:α)(r:T α)(i:Nat):(T.nd l x r).get (i+1)=if i%2=0 then l.get (i / 2) else r.get (i / 2):=by show (Nat.rec (l.get (Nat.div i 2)) (λ_ _=>r.get (Nat.div i 2)) (Nat.mod i 2):Option α)=_;have h:Nat.mod i 2=i%2:=rfl;rcases aar i with h0 | h1;rw [h,h0];rfl;rw [h,h1];rfl
@[simp] theorem afe (i:Nat)(x:α):(T.e:T α).put i x=.nd .e x .e:=rfl
@[simp] theorem JW (l:T α)(y:α)(r:T α)(x:α):(T.nd l y r).put 0 x=.nd l x r:=rfl
theorem R9 (l:T α)(y:α)(r:T α)(i:Nat)(x:α):(T.nd l y r).put (i+1) x=if i%2=0 then .nd (l.put (i / 2) x) y r else .nd l y (r.put (i / 2) x):=by show (Nat.rec (T.nd (l.put (Nat.div i 2) x) y r) (λ_ _=>T.nd l y (r.put (Nat.div i 2) x)) (Nat.mod i 2):T α)=_;have h:Nat.mod i 2=i%2:=rfl;rcases aar i with h0 | h1;rw [h,h0];rfl;rw [h,h1];rfl
inductive Ok:T α->Nat->Prop
 | e:Ok .e 0
 | nd {l r:T α} {x:α} {n:Nat} (hl:Ok l ((n+1) / 2)) (hr:Ok r (n / 2)):Ok (.nd l x r) (n+1)
theorem Ok.get {t:T α}{n:Nat}(h:Ok t n):∀i,(∃x,t.get i=some x)↔i<n:=by
 induction h with
 | e=>intro i;simp
 | @nd l r x n hl hr ihl ihr=>
  intro i;cases i with
  | zero=>simp
  | succ i=>rw [bM];split;rw [ihl];omega;rw [ihr];omega
theorem Ok.put {t:T α}{n:Nat}(h:Ok t n):∀i (x:α),i<n->Ok (t.put i x) n:=by
 induction h with
 | e=>intro i x a;omega
 | @nd l r y n hl hr ihl ihr=>
  intro i x a;cases i with
  | zero=>exact .nd hl hr
  | succ i=>rw [R9];split;exact .nd (ihl _ _ (by omega)) hr;exact .nd hl (ihr _ _ (by omega))
theorem Ok.push {t:T α}{n:Nat}(h:Ok t n):∀(x:α),Ok (t.put n x) (n+1):=by
 induction h with
 | e=>intro x;exact .nd .e .e
 | @nd l r y n hl hr ihl ihr=>intro x;rw [R9];split;rename_i a;refine .nd ?_ ?_;have:=ihl x;rw [show (n+1) / 2=n / 2 from by omega] at this;rw [show (n+1+1) / 2=n / 2+1 from by omega];exact this;rw [show (n+1) / 2=n / 2 from by omega];exact hr;rename_i a;refine .nd ?_ ?_;rw [show (n+1+1) / 2=(n+1) / 2 from by omega];exact hl;have:=ihr x;rw [show (n+1) / 2=n / 2+1 from by omega];exact this
theorem aO {t:T α}{n:Nat}(h:Ok t n):∀i (x:α),i<=n->(t.put i x).get i=some x:=by
 induction h with
 | e=>intro i x b;obtain rfl:i=0:=by omega
      rfl
 | @nd l r y n hl hr ihl ihr=>
  intro i x b;cases i with
  | zero=>rfl
  | succ i=>rw [R9];split;rename_i a;rw [bM,if_pos a];exact ihl _ _ (by omega);rename_i a;rw [bM,if_neg a];exact ihr _ _ (by omega)
theorem aZ {t:T α}{n:Nat}(h:Ok t n):∀i j (x:α),i<=n->i≠j->(t.put i x).get j=t.get j:=by
 induction h with
 | e=>
  intro i j x b d;obtain rfl:i=0:=by omega
  cases j with
  | zero=>omega
  | succ j=>rw [afe,bM];simp
 | @nd l r y n hl hr ihl ihr=>
  intro i j x b c;cases i with
  | zero=>
   cases j with
   | zero=>omega
   | succ j=>rw [JW,bM,bM]
  | succ i=>
   rw [R9];cases j with
   | zero=>split<;>rfl
   | succ j=>split;rename_i a;rw [bM,bM];split;exact ihl _ _ _ (by omega) (by omega);rfl;rename_i a;rw [bM,bM];split;rfl;exact ihr _ _ _ (by omega) (by omega)
theorem qR (x:α)(l:List α)(t:T α)(i:Nat):mD (x::l) t i=mD l (t.put i x) (i+1):=rfl
theorem Ez (l:List α):∀(t:T α) (i:Nat),Ok t i->Ok (mD l t i) (i+l.length):=by
 induction l with
 | nil=>intro t i h;exact h
 | cons x l ih=>intro t i h;rw [qR,Y3,show i+(l.length+1)=i+1+l.length from by omega];exact ih _ _ (h.push x)
theorem Cc (l:List α):∀(t:T α) (i:Nat),Ok t i->∀j,(mD l t i).get j=if j<i then t.get j else l[j-i]?:=by
 induction l with
 | nil=>
  intro t i h j;show t.get j=_;split;rfl;rename_i a;cases hg:t.get j with
  | none=>simp
  | some x=>exact absurd ((h.get j).1 ⟨x,hg⟩) a
 | cons x l ih=>intro t i h j;rw [qR,ih _ _ (h.push x)];by_cases h1:j<i;rw [if_pos (by omega),if_pos h1,aZ h _ _ _ (lM _) (by omega)];by_cases h2:j=i;subst h2;rw [if_pos (by omega),aO h _ _ (lM _)];simp;rw [if_neg (by omega),if_neg h1,show j-i=(j-(i+1))+1 from by omega];simp
theorem aG (l:List α)(j:Nat):(ofList l).get j=l[j]?:=by have:=Cc l .e 0 .e j;simpa [ofList] using this
theorem dZ (l:List α):Ok (ofList l) l.length:=by have:=Ez l .e 0 .e;simpa [ofList] using this
theorem Ce (x:α)(n:Nat)(t:T α)(i:Nat):rep x (n+1) t i=rep x n (t.put i x) (i+1):=rfl
theorem MZ (x:α)(n:Nat):∀(t:T α) (i:Nat),Ok t i->Ok (rep x n t i) (i+n):=by
 induction n with
 | zero=>intro t i h;exact h
 | succ n ih=>intro t i h;rw [Ce,show i+(n+1)=i+1+n from by omega];exact ih _ _ (h.push x)
theorem OI (x:α)(n:Nat):∀(t:T α) (i:Nat),Ok t i->∀j,(rep x n t i).get j=if j<i then t.get j else if j<i+n then some x else none:=by
 induction n with
 | zero=>
  intro t i h j;show t.get j=_;split;rfl;rename_i a;rw [if_neg (by omega)];cases hg:t.get j with
  | none=>rfl
  | some y=>exact absurd ((h.get j).1 ⟨y,hg⟩) a
 | succ n ih=>intro t i h j;rw [Ce,ih _ _ (h.push x)];by_cases h1:j<i;rw [if_pos (by omega),if_pos h1,aZ h _ _ _ (lM _) (by omega)];by_cases h2:j=i;subst h2;rw [if_pos (by omega),aO h _ _ (lM _),if_neg h1,if_pos (by omega)];rw [if_neg (by omega),if_neg h1];by_cases h3:j<i+1+n;rw [if_pos h3,if_pos (by omega)];rw [if_neg h3,if_neg (by omega)]
theorem Cg (t:T α)(i:Nat):t.slice 0 i=some []:=rfl
theorem Ch (t:T α)(n i:Nat):t.slice (n+1) i=ob (t.get i) λx=>ob (t.slice n (i+1)) λxs=>some (x::xs):=rfl
theorem Na (t:T α)(n:Nat):∀i l,t.slice n i=some l->l.length=n∧∀j,j<n->t.get (i+j)=l[j]?:=by
 induction n with
 | zero=>intro i l h;rw [Cg] at h;cases h;simp
 | succ n ih=>
  intro i l h;rw [Ch] at h;obtain⟨x,d,h⟩:=z8 h;obtain⟨f,a,h⟩:=z8 h;cases h;obtain⟨c,b⟩:=ih _ _ a;refine⟨by simp [c],λj e=>?_⟩;cases j with
  | zero=>simpa using d
  | succ j=>rw [show i+(j+1)=i+1+j from by omega,b j (by omega)];simp
end T
section
variable {α:Type}
@[simp] theorem I4 (l:List α):len' l=l.length:=by
 induction l with
 | nil=>rfl
 | cons x l ih=>show Nat.succ (len' l)=_;rw [ih];rfl
@[simp] theorem Q8 (l m:List α):ah l m=l++m:=by
 induction l with
 | nil=>rfl
 | cons x l ih=>show x::ah l m=_;rw [ih];rfl
@[simp] theorem ku (n:Nat):∀l:List α,jX n l=l.drop n:=by
 induction n with
 | zero=>intro l;rfl
 | succ n ih=>
  intro l;cases l with
  | nil=>rfl
  | cons x l=>exact ih l
@[simp] theorem gW (n:Nat):∀l:List α,pq n l=l[n]?:=by
 induction n with
 | zero=>intro l;cases l<;>rfl
 | succ n ih=>
  intro l;cases l with
  | nil=>rfl
  | cons x l=>show pq n l=_;rw [ih];rfl
@[simp] theorem Tw (n:Nat):∀l:List d9,nth n l=l[n]?.getD .undef:=by
 induction n with
 | zero=>intro l;cases l<;>rfl
 | succ n ih=>
  intro l;cases l with
  | nil=>rfl
  | cons x l=>show nth n l=_;rw [ih];rfl
theorem jF (n:Nat):∀(l r:List α),takeN n l=some r->r=l.take n∧n<=l.length:=by
 induction n with
 | zero=>intro l r h;cases h;simp
 | succ n ih=>
  intro l r h;cases l with
  | nil=>cases h
  | cons x l=>
   change ob (takeN n l) (λr=>some (x::r))=some r at h
   obtain⟨d,b,h⟩:=z8 h;cases h;obtain⟨a,c⟩:=ih _ _ b;exact⟨by simp [a],by simp;omega⟩
theorem mK (n:Nat):∀(l:List α),n<=l.length->takeN n l=some (l.take n):=by
 induction n with
 | zero=>intro l _;rfl
 | succ n ih=>
  intro l h;cases l with
  | nil=>simp at h
  | cons x l=>
   change ob (takeN n l) (λr=>some (x::r))=_
   rw [ih l (by simpa using h)];rfl
theorem kC (n:Nat)(a:List α):∀(l:List α),n<=l.length->jY n a l=l.take n++(a++l.drop (n+a.length)):=by
 induction n with
 | zero=>intro l _;show ah a (jX (len' a) l)=_;simp
 | succ n ih=>
  intro l h;cases l with
  | nil=>simp at h
  | cons x l=>show x::jY n a l=_;rw [ih l (by simpa using h),show n+1+a.length=(n+a.length)+1 from by omega];simp
theorem xw (n:Nat)(a l:List α)(h:n+a.length<=l.length):(jY n a l).length=l.length:=by rw [kC n a l (by omega)];simp;omega
theorem Qt (n:Nat)(a l:List α)(h:n+a.length<=l.length)(j:Nat):
  (jY n a l)[j]?=if n<=j∧j<n+a.length then a[j-n]? else l[j]?:=by
 rw [kC n a l (by omega)];rw [List.getElem?_append];simp only [ai1,show min n l.length=n from by omega];split;rw [if_neg (by omega),aeC,if_pos (by omega)];rw [List.getElem?_append];split;rw [if_pos (by omega)];rw [if_neg (by omega),aeJ];congr 1;omega
end
structure Loc where
 b:Nat
 base:Nat
 cap:Nat
 spot:Option Nat
abbrev H6:=Nat->Loc
def H6.at (ι:H6)(i o:Nat):Addr:=⟨(ι i).b,(ι i).base+o,if o=0 then (ι i).spot else none⟩
theorem H6.xA {ι:H6}{i:Nat}(h:(ι i).spot=none)(o:Nat):ι.at i o=⟨(ι i).b,(ι i).base+o,none⟩:=by simp [H6.at,h]
def gZ (ι:H6):Fn->Fn
 | .yield l=>.yield (ι l).b
 | f=>f
mutual
def l7 (ι:H6):d9->Value
 | .undef=>.tuple #[]
 | .bool b=>.bool b
 | .int k n=>.int k n
 | .str s=>.string ⟨s.toArray⟩
 | .nilPtr=>.pointer none
 | .ptr i o=>.pointer (some (ι.at i o))
 | .nilSlice=>.slice none 0 0
 | .slice i o l c=>.slice (some (ι.at i o)) l c
 | .sliceU i o l es=>.slice (some (ι.at i o)) l (((ι i).cap-o) / es)
 | .nilMap=>.map none
 | .map i=>.map (some (ι i).b)
 | .nilFunc=>.nilFunc
 | .func fn a b=>.func (gZ ι fn) (o9 ι a).toArray (o9 ι b).toArray
 | .nilIface=>.nilIface
 | .iface t v=>.iface t (l7 ι v)
 | .agg l=>.agg (o9 ι l).toArray
 | .tuple l=>.tuple (o9 ι l).toArray
 | .ng v=>.tuple #[l7 ι v]
def o9 (ι:H6):List d9->List Value
 | []=>[]
 | v::l=>l7 ι v::o9 ι l
end
structure Nm where
 has:Nat->Prop
 cap:Nat->Nat
instance:CoeFun Nm (λ_=>Nat->Prop):=⟨Nm.has⟩
def Nm.le (n m:Nm):Prop:=∀i,n i->m i∧m.cap i=n.cap i
theorem Nm.le_refl (n:Nm):n.le n:=λ_ h=>⟨h,rfl⟩
theorem Nm.le_trans {a b c:Nm}(h:a.le b)(k:b.le c):a.le c:=λi d=>⟨(k i (h i d).1).1,(k i (h i d).1).2.trans (h i d).2⟩
def Xk (n:Nm):Fn->Prop
 | .yield l=>n l
 | _=>True
mutual
def d9.lt (n:Nm):d9->Prop
 | .ptr i _=>n i
 | .slice i _ _ _=>n i
 | .sliceU i o l es=>n i∧1<=es∧o+l*es<=n.cap i
 | .map i=>n i
 | .func fn a b=>Xk n fn∧X0 n a∧X0 n b
 | .iface _ v=>v.lt n
 | .agg l=>X0 n l
 | .tuple l=>X0 n l
 | .ng _=>False
 | _=>True
def X0 (n:Nm):List d9->Prop
 | []=>True
 | v::l=>v.lt n∧X0 n l
end
theorem ak (ι:H6)(l:List d9):o9 ι l=l.map (l7 ι):=by
 induction l with
 | nil=>simp [o9]
 | cons v l ih=>simp [o9,ih]
theorem bB {n:Nm}{l:List d9}:X0 n l↔∀v∈l,v.lt n:=by
 induction l with
 | nil=>simp [X0]
 | cons v l ih=>simp [X0,ih]
@[simp] theorem Q9 (ι:H6)(l:List d9):(o9 ι l).length=l.length:=by simp [ak]
theorem V4 (ι:H6)(l:List d9)(i:Nat):(o9 ι l)[i]?=l[i]?.map (l7 ι):=by simp [ak]
mutual
theorem O7 {n:Nm}{ι ι':H6}(h:∀i,n i->ι' i=ι i):∀v:d9,v.lt n->l7 ι' v=l7 ι v
 | .undef,_ | .bool _,_ | .int _ _,_ | .str _,_ | .nilPtr,_ | .nilSlice,_ | .nilMap,_ | .nilFunc,_ | .nilIface,_=>by simp [l7]
 | .ptr i o,hv=>by simp only [d9.lt] at hv;simp [l7,H6.at,h i hv]
 | .slice i o l c,hv=>by simp only [d9.lt] at hv;simp [l7,H6.at,h i hv]
 | .sliceU i o l c,hv=>by simp only [d9.lt] at hv;simp [l7,H6.at,h i hv.1]
 | .map i,hv=>by simp only [d9.lt] at hv;simp [l7,h i hv]
 | .func fn a b,hv=>by
  simp only [d9.lt] at hv;obtain⟨hf,ha,hb⟩:=hv;have e:gZ ι' fn=gZ ι fn:=by cases fn<;>simp_all [gZ,Xk]
  simp [l7,e,dG h a ha,dG h b hb]
 | .iface t v,hv=>by simp only [d9.lt] at hv;simp [l7,O7 h v hv]
 | .agg l,hv=>by simp only [d9.lt] at hv;simp [l7,dG h l hv]
 | .tuple l,hv=>by simp only [d9.lt] at hv;simp [l7,dG h l hv]
 | .ng v,hv=>by simp only [d9.lt] at hv
theorem dG {n:Nm}{ι ι':H6}(h:∀i,n i->ι' i=ι i):∀l:List d9,X0 n l->o9 ι' l=o9 ι l
 | [],_=>by simp [o9]
 | v::l,hl=>by simp only [X0] at hl;simp [o9,O7 h v hl.1,dG h l hl.2]
end
mutual
theorem d9.L6 {n m:Nm}(h:n.le m):∀v:d9,v.lt n->v.lt m
 | .undef,_ | .bool _,_ | .int _ _,_ | .str _,_ | .nilPtr,_ | .nilSlice,_ | .nilMap,_ | .nilFunc,_ | .nilIface,_=>by simp [d9.lt]
 | .ptr i o,hv=>by simp only [d9.lt] at *;exact (h _ hv).1
 | .slice i o l c,hv=>by simp only [d9.lt] at *;exact (h _ hv).1
 | .sliceU i o l c,hv=>by simp only [d9.lt] at *;exact⟨(h _ hv.1).1,hv.2.1,by rw [(h _ hv.1).2];exact hv.2.2⟩
 | .map i,hv=>by simp only [d9.lt] at *;exact (h _ hv).1
 | .func fn a b,hv=>by simp only [d9.lt] at *;exact⟨by cases fn<;>first | trivial | exact (h _ hv.1).1,bN h a hv.2.1,bN h b hv.2.2⟩
 | .iface t v,hv=>by simp only [d9.lt] at *;exact d9.L6 h v hv
 | .agg l,hv=>by simp only [d9.lt] at *;exact bN h l hv
 | .tuple l,hv=>by simp only [d9.lt] at *;exact bN h l hv
 | .ng v,hv=>by simp only [d9.lt] at hv
theorem bN {n m:Nm}(h:n.le m):∀l:List d9,X0 n l->X0 m l
 | [],_=>by simp [X0]
 | v::l,hl=>by simp only [X0] at *;exact⟨d9.L6 h v hl.1,bN h l hl.2⟩
end
theorem jG (ι:H6)(v:d9):(l7 ι v).cells=(o9 ι v.cells).toArray:=by cases v<;>simp [l7,Value.cells,d9.cells,o9]
theorem rY {n:Nm}{v:d9}(h:v.lt n):X0 n v.cells:=by cases v<;>simp_all [d9.lt,d9.cells,X0]
mutual
theorem lG (ι:H6):∀(v:Value) (a:d9),ofValue v=some a->l7 ι a=v∧∀n,a.lt n
 | .bool b,a,h=>by simp only [ofValue,gB] at h;subst h;simp [l7,d9.lt]
 | .int k n,a,h=>by simp only [ofValue,gB] at h;subst h;simp [l7,d9.lt]
 | .string s,a,h=>by simp only [ofValue,gB] at h;subst h;simp [l7,d9.lt]
 | .pointer none,a,h=>by simp only [ofValue,gB] at h;subst h;simp [l7,d9.lt]
 | .pointer (some _),a,h=>by simp [ofValue] at h
 | .slice none 0 0,a,h=>by simp only [ofValue,gB] at h;subst h;simp [l7,d9.lt]
 | .slice (some _) _ _,a,h=>by simp [ofValue] at h
 | .slice none (_+1) _,a,h=>by simp [ofValue] at h
 | .slice none 0 (_+1),a,h=>by simp [ofValue] at h
 | .map none,a,h=>by simp only [ofValue,gB] at h;subst h;simp [l7,d9.lt]
 | .map (some _),a,h=>by simp [ofValue] at h
 | .nilFunc,a,h=>by simp only [ofValue,gB] at h;subst h;simp [l7,d9.lt]
 | .nilIface,a,h=>by simp only [ofValue,gB] at h;subst h;simp [l7,d9.lt]
 | .func (.func f) ⟨[]⟩ ⟨[]⟩,a,h=>by simp only [ofValue,gB] at h;subst h;simp [l7,d9.lt,gZ,o9,Xk,X0]
 | .func (.func f) ⟨_ :: _⟩ _,a,h=>by simp [ofValue] at h
 | .func (.func f) ⟨[]⟩ ⟨_ :: _⟩,a,h=>by simp [ofValue] at h
 | .func (.method _) _ _,a,h=>by simp [ofValue] at h
 | .func (.methodOf _ _) _ _,a,h=>by simp [ofValue] at h
 | .func (.via _ _ _ _) _ _,a,h=>by simp [ofValue] at h
 | .func (.yield _) _ _,a,h=>by simp [ofValue] at h
 | .agg ⟨l⟩,a,h=>by
  simp only [ofValue] at h;cases hx:ofValues l with
  | none=>simp [hx] at h
  | some x=>simp only [hx,gB] at h;subst h;obtain⟨h1,h2⟩:=rZ ι l x hx;simp [l7,d9.lt,h1];exact h2
 | .tuple ⟨[]⟩,a,h=>by simp only [ofValue,gB] at h;subst h;simp [l7,d9.lt,o9,X0]
 | .tuple ⟨_ :: _⟩,a,h=>by simp [ofValue] at h
 | .float _ _,a,h=>by simp [ofValue] at h
 | .complex _ _ _,a,h=>by simp [ofValue] at h
 | .chan _,a,h=>by simp [ofValue] at h
 | .iface _ _,a,h=>by simp [ofValue] at h
theorem rZ (ι:H6):∀(l:List Value) (x:List d9),ofValues l=some x->o9 ι x=l∧∀n,X0 n x
 | [],x,h=>by simp only [ofValues,gB] at h;subst h;simp [o9,X0]
 | v::l,x,h=>by
  simp only [ofValues] at h;cases hv:ofValue v with
  | none=>simp [hv] at h
  | some a=>
   cases hl:ofValues l with
   | none=>simp [hv,hl] at h
   | some y=>simp only [hv,hl,gB] at h;subst h;obtain⟨h1,h2⟩:=lG ι v a hv;obtain⟨h3,h4⟩:=rZ ι l y hl;simp [o9,X0,h1,h3];exact λn=>⟨h2 n,h4 n⟩
end
theorem ab6:∀(n j:Nat) (t:T d9),j+1<2^n->way n j t=(t.get j).getD .undef:=by
 intro n;induction n with
 | zero=>intro j t h;simp at h
 | succ n ih=>
  intro j t h;cases j with
  | zero=>cases t<;>rfl
  | succ j=>
   have a:j / 2+1<2^n:=by rw [ajE] at h;omega
   rcases aar j with h0 | h0;simp only [way,h0];cases t with
   | e=>rfl
   | nd l x r=>rw [T.bM,if_pos h0];exact ih _ l a
   simp only [way,h0];cases t with
   | e=>rfl
   | nd l x r=>rw [T.bM,if_neg (by omega)];exact ih _ r a
theorem Xm (v:d9):∀(n j:Nat) (t:T d9) (x:d9),j+1<2^n->t.get j=some x->rM n j v t=t.put j v:=by
 intro n;induction n with
 | zero=>intro j t x h;simp at h
 | succ n ih=>
  intro j t x h a;cases t with
  | e=>simp at a
  | nd l y r=>
   cases j with
   | zero=>rfl
   | succ j=>have b:j / 2+1<2^n:=(by rw [ajE] at h;omega);rw [T.bM] at a;rcases aar j with h0 | h0;rw [if_pos h0] at a;simp only [rM,h0];rw [T.R9,if_pos h0];show T.nd (rM n (j / 2) v l) y r=_;rw [ih _ l x b a];rw [if_neg (by omega)] at a;simp only [rM,h0];rw [T.R9,if_neg (by omega)];show T.nd l y (rM n (j / 2) v r)=_;rw [ih _ r x b a]
theorem sj {t:Nat}{l:List Nat}{i j:Nat}(h:idxOf t l i=some j):i<=j∧j<i+l.length∧l[j-i]?=some t:=by
 induction l generalizing i with
 | nil=>simp [idxOf] at h
 | cons x l ih=>
  simp only [idxOf] at h;cases hx:Nat.beq x t with
  | true=>simp only [hx,cond_true,gB] at h;subst h;have:=aP hx;simp [this]
  | false=>simp only [hx,cond_false] at h;obtain⟨b,c,a⟩:=ih h;refine⟨by omega,by simp;omega,?_⟩;rw [show j-i=(j-(i+1))+1 from by omega];simpa using a
theorem Qu {t u:Nat}{l:List Nat}{i j:Nat}(h:idxOf t l i=some j)(h':idxOf u l i=some j):t=u:=by have a:=(sj h).2.2;have b:=(sj h').2.2;rw [a] at b;exact Xl b
structure Q6 (ι:H6)(n:Nm)(slots:List Nat)(env:T d9)(tmps:Array Value):Prop where
 ok:T.Ok env slots.length
 small:slots.length<2^60
 val:∀t j,idxOf t slots 0=some j->t<tmps.size∧∃v,env.get j=some v∧v.lt n∧tmps.getD t undef=l7 ι v
theorem Q6.mono {ι ι':H6}{n c:Nm}{a:List Nat}{env:T d9}{tmps:Array Value}(h:Q6 ι n a env tmps)
  (g:∀i,n i->ι' i=ι i) (k:n.le c):Q6 ι' c a env tmps:=
 ⟨h.ok,h.small,λt j l=>by
  obtain⟨d,v,e,b,f⟩:=h.val t j l;exact⟨d,v,e,v.L6 k b,by rw [f,O7 g v b]⟩⟩
theorem Y9 (a:Array Value)(i j:Nat)(v:Value)(b:i<a.size):
  (a.setIfInBounds i v).getD j undef=if i=j then v else a.getD j undef:=by
 rw [Hl,Hl];by_cases h:i=j;subst h;rw [if_pos rfl,X3 b];rfl;rw [if_neg h,W9 h]
theorem Q6.put {ι:H6}{n:Nm}{a:List Nat}{env:T d9}{tmps:Array Value}(h:Q6 ι n a env tmps)(d:Option Tmp){v:d9}(w:v.lt n):
  Q6 ι n a (bD (Ey a d) v env) (match d with | some t=>tmps.setIfInBounds t (l7 ι v) | none=>tmps):=by
 cases d with
 | none=>exact h
 | some t=>
  simp only [Ey];cases ht:idxOf t a 0 with
  | none=>
   refine⟨h.ok,h.small,λu j b=>?_⟩;obtain⟨f,l,g,s,m⟩:=h.val u j b;refine⟨by simpa using f,l,g,s,?_⟩;have i:t≠u:=λe=>by subst e;rw [ht] at b;cases b
   by_cases hts:t<tmps.size;rw [Y9 _ _ _ _ hts,if_neg i];exact m;rw [show tmps.setIfInBounds t (l7 ι v)=tmps from agd (adB hts)];exact m
  | some k=>
   obtain⟨f,x,g,_,_⟩:=h.val t k ht;have y:=(sj ht).2.1
   have c:bD (some k) v env=env.put k v:=Xm v 64 k env x (by have:=h.small;have:(2:Nat)^60<2^64:=by decide
                                                             omega) g
   rw [c];refine⟨h.ok.put _ _ (by omega),h.small,λu j b=>?_⟩;obtain⟨o,l,p,q,r⟩:=h.val u j b;refine⟨by simpa using o,?_⟩;rw [Y9 _ _ _ _ f];by_cases he:t=u;subst he;rw [ht] at b;cases b;exact⟨v,T.aO h.ok _ _ (by omega),w,by simp⟩;refine⟨l,?_,q,by rw [if_neg he];exact r⟩;rw [T.aZ h.ok _ _ _ (by omega) (λe=>he (by subst e;exact Qu ht b))];exact p
def Q7:N7->Bool
 | .cells .. | .map _ | .iter .. | .loop .. | .deferred | .siter .. | .buf .. | .mapU _=>true
 | _=>false
def exitCode:aT->Code
 | .normal=>.skip
 | .exit id=>.exit id
 | .ret=>.ret
section
variable (P:Program)
structure vU (ι:H6)(n:Nm)(L:Loop)(st:LoopState)(pend:Option aT)(env:T d9)(params:List (Option Nat))(assign body:P9):Prop where
 state:L.state=st
 pending:L.pending=pend.map exitCode
 code:∃slots,Q6 ι n slots env L.tmps∧params=L.params.toList.map (λt=>idxOf t slots 0)∧O8 P slots L.assign=some assign∧O8 P slots L.body=some body∧
  ∃nt,nt<=L.tmps.size∧tmpsIn nt L.assign=true∧tmpsIn nt L.body=true
def F6 (ι:H6):List (d9×d9)->Nat->List MapEntry
 | [],_=>[]
 | e::es,i=>{key:=l7 ι e.1,val:=l7 ι e.2,born:=i}::F6 ι es (i+1)
def Tx (P:Program)(l:Loc)(e:TypeId)(sz k:Nat)(rows:T (List d9)):Prop:=∀ty,k=1->Fb rows=some ty->e=ty∧l.base=0∧sz=P.cellsOf ty
theorem vV {P:Program}{l:Loc}{e:TypeId}{c k:Nat}{rows:T (List d9)}(h:k=1->rows.get 1=none):Tx P l e c k rows:=λd b a=>by unfold Fb at a;rw [h b] at a;cases a
theorem su {P:Program}{l:Loc}{e:TypeId}{b k:Nat}{rows:T (List d9)}(h:T.Ok rows k):Tx P l e b k rows:=vV λa=>by
 subst a;cases hg:rows.get 1 with
 | none=>rfl
 | some x=>exact absurd ((h.get 1).1 ⟨x,hg⟩) (by omega)
theorem Qv {rows:T (List d9)}{N i:Nat}(h:T.Ok rows N)(b:i<=N)(a:i≠1)(r:List d9):Fb (rows.put i r)=Fb rows:=by unfold Fb;rw [T.aZ h _ _ _ b a]
def UOk (ι:H6)(es:List (d9×d9))(L:List MapEntry):Prop:=
 (L.map λx=>(x.key,x.val)).Perm (es.map λe=>(l7 ι e.1,l7 ι e.2))∧(∀e∈es,∃s,e.1=.str s)∧(es.map (·.1)).Nodup
def bO (ι:H6)(n:Nm)(h:Array Obj)(l:Loc):N7->Prop
 | .void=>True
 | .dead=>True
 | .cells rs k rows=>∃c e fz,h[l.b]?=some (.cells c e fz)∧l.base+l.cap<=c.size∧(k*rs<=l.cap∧∃N,k<=N∧T.Ok rows N∧Tx P l e c.size k rows)∧
   ∀i,i<k->∃row,rows.get i=some row∧row.length=rs∧X0 n row∧∀j,j<rs->c[l.base+(i*rs+j)]?=(row[j]?).map (l7 ι)
 | .map es=>h[l.b]?=some (.map (F6 ι es 0).toArray es.length)∧∀e∈es,e.1.lt n∧e.2.lt n
 | .iter mp since seen=>l.base=0∧(∀x,mp=some x->n x)∧∃sn st,h[l.b]?=some (.mapIter (mp.map λx=>(ι x).b) since sn st)∧sn.toList.reverse=seen∧(mp≠none->st=since)
 | .tail p=>n p∧(l.cap=0∨(l.b=(ι p).b∧l.base+l.cap<=(ι p).base+(ι p).cap∧((ι p).spot=none->l.spot=none)))
 | .loop st pend env params assign body=>∃L,h[l.b]?=some (.loop L)∧vU P ι n L st pend env params assign body
 | .deferred=>h[l.b]?=some (.deferred (some []))
 | .siter s pos=>l.base=0∧h[l.b]?=some (.stringIter ⟨s.toArray⟩ pos)
 | .buf ty s=>l.base=0∧∃c fz,h[l.b]?=some (.cells c ty fz)∧s.length<=l.cap∧l.cap<=c.size∧∀(j:Nat) (b:UInt8),s[j]?=some b->c[j]?=some (Value.int .u8 (b.toNat:Int))
 | .mapU es=>∃L ck,h[l.b]?=some (.map L.toArray ck)∧UOk ι es L∧∀e∈es,e.1.lt n∧e.2.lt n
structure akw (ι:H6)(m:Mem)(h:Array Obj)(i:Nat):Prop where
 alone:∀j b,j≠i->m.get j=some b->Q7 b=true->(ι j).b≠(ι i).b
 free:∀c e fz,h[(ι i).b]?=some (.cells c e fz)->∀k,k<c.size->¬ (fz.1<=k∧k<fz.2)
def bF:N7->Bool
 | .void=>true
 | _=>false
def Mem.has (m:Mem)(i:Nat):Prop:=∃b,m.get i=some b∧bF b=false
def Mem.nm (m:Mem)(ι:H6):Nm:=⟨m.has,λi=>(ι i).cap⟩
theorem Mem.U2 {m m':Mem}{ι ι':H6}(h:∀i,m.has i->m'.has i)(b:∀i,m.has i->ι' i=ι i):(m.nm ι).le (m'.nm ι'):=
 λi a=>⟨h i a,congrArg Loc.cap (b i a)⟩
def GSz (P:Program)(G:Mem)(h:Array Obj):Prop:=∀i rs k rows,i<P.globals.size->G.get i=some (.cells rs k rows)->∃c e fz,h[i]?=some (.cells c e fz)∧c.size=k*rs
structure RM (G:Mem)(ι:H6)(m:Mem)(h:Array Obj):Prop where
 ok:T.Ok m.t m.nx
 blk:∀i b,m.get i=some b->bO P ι (m.nm ι) h (ι i) b
 own:∀i b,m.lim<=i->m.get i=some b->Q7 b=true->akw ι m h i
 glim:G.nx<=m.lim
 limn:m.lim<=m.nx
 gle:P.globals.size<=G.nx
 base:∀i,i<G.nx->m.get i=G.get i
 ghas:∀i,i<P.globals.size->m.has i
 glob:∀i,i<P.globals.size->(ι i).b=i∧(ι i).base=0∧(ι i).spot=none
 spot:∀i b,m.get i=some b->Q7 b=true->(ι i).spot=none
 gsz:GSz P G h
end
def JX (ι:H6)(m:Mem)(b:Nat):Prop:=∃i x,m.lim<=i∧m.get i=some x∧Q7 x=true∧(ι i).b=b
theorem RM.JY {P:Program}{G:Mem}{ι:H6}{m:Mem}{h h':Array Obj}(d:RM P G ι m h)(u:∀b,b<h.size->¬ JX ι m b->h'[b]?=h[b]?):GSz P G h':=by
 intro i r k a g q;obtain⟨c,e,s,p,t⟩:=d.gsz i r k a g q;have l:i<h.size:=(q8.1 p).1;have f:i<G.nx:=q9 g d.gle;have n:m.get i=some (.cells r k a):=(d.base i f).trans q;refine⟨c,e,s,?_,t⟩;rw [u i l];exact p;rintro⟨j,x,hj,hx,hlx,hb⟩;have o:i≠j:=by have:=d.glim;omega
 exact (d.own j x hj hx hlx).alone i _ o n rfl (by rw [(d.glob i g).1,hb])
structure Step (P:Program)(G:Mem)(ι:H6)(m:Mem)(w:World)(ι':H6)(m':Mem)(w':World):Prop where
 rm:RM P G ι' m' w'.heap
 ext:∀i,m.has i->ι' i=ι i
 has:∀i,m.has i->m'.has i
 nx:m.nx<=m'.nx
 lim:m'.lim=m.lim
 old:∀i,i<m.lim->m'.get i=m.get i
 size:w.heap.size<=w'.heap.size
 frame:∀b,b<w.heap.size->¬ JX ι m b->w'.heap[b]?=w.heap[b]?
 own:∀b,JX ι' m' b->JX ι m b∨w.heap.size<=b
 os:w'.os=w.os
 out:w'.output=w.output
 tape:w'.tape=w.tape
theorem Step.refl {P:Program}{G:Mem}{ι:H6}{m:Mem}{w:World}(h:RM P G ι m w.heap):Step P G ι m w ι m w:=
 ⟨h,λ_ _=>rfl,λ_ h=>h,lM _,rfl,λ_ _=>rfl,lM _,λ_ _ _=>rfl,λ_ h=>.inl h,rfl,rfl,rfl⟩
theorem Step.drew {P:Program}{G:Mem}{ι:H6}{m:Mem}{w:World}(h:RM P G ι m w.heap)(n:Nat):Step P G ι m w ι m {w with drawn:=n}:=
 ⟨h,λ_ _=>rfl,λ_ h=>h,lM _,rfl,λ_ _=>rfl,lM _,λ_ _ _=>rfl,λ_ h=>.inl h,rfl,rfl,rfl⟩
theorem Step.trans {P:Program}{G:Mem}{c d e:H6}{f g j:Mem}{k l m:World}(a:Step P G c f k d g l)(b:Step P G d g l e j m):
  Step P G c f k e j m where
 rm:=b.rm
 ext i hi:=(b.ext i (a.has i hi)).trans (a.ext i hi)
 has i hi:=b.has i (a.has i hi)
 nx:=J2 a.nx b.nx
 lim:=b.lim.trans a.lim
 old i hi:=(b.old i (by rw [a.lim];exact hi)).trans (a.old i hi)
 size:=J2 a.size b.size
 frame x hx ho:=by refine (b.frame x (q9 hx a.size) λh=>?_).trans (a.frame x hx ho);rcases a.own x h with h | h;exact ho h;omega
 own x h:=by rcases b.own x h with h | h;exact a.own x h;exact .inr (J2 a.size h)
 os:=b.os.trans a.os
 out:=b.out.trans a.out
 tape:=b.tape.trans a.tape
theorem Step.l7 {P:Program}{G:Mem}{ι ι':H6}{m m':Mem}{w w':World}(a:Step P G ι m w ι' m' w'){v:d9}(h:v.lt (m.nm ι)):AM.l7 ι' v=AM.l7 ι v:=
 O7 (n:=m.nm ι) a.ext v h
theorem Step.env {P:Program}{G:Mem}{ι ι':H6}{m m':Mem}{w w':World}(a:Step P G ι m w ι' m' w'){b:List Nat}{env:T d9}{tmps:Array Value}
  (h:Q6 ι (m.nm ι) b env tmps):Q6 ι' (m'.nm ι') b env tmps:=h.mono (n:=m.nm ι) a.ext (Mem.U2 a.has a.ext)
theorem vU.mono {P:Program}{ι ι':H6}{n e:Nm}{L:Loop}{f:LoopState}{c:Option aT}{env:T d9}{b:List (Option Nat)}{a body:P9}
  (h:vU P ι n L f c env b a body) (m:∀i,n i->ι' i=ι i) (o:n.le e):vU P ι' e L f c env b a body:=by
 obtain⟨g,j,d,k,l⟩:=h;exact⟨g,j,d,k.mono m o,l⟩
theorem uV {ι ι':H6}{n:Nm}(hi:∀i,n i->ι' i=ι i):∀(es:List (d9×d9)) (i:Nat),(∀e∈es,e.1.lt n∧e.2.lt n)->F6 ι' es i=F6 ι es i
 | [],_,_=>rfl
 | e::es,i,h=>by simp only [F6];rw [O7 hi _ (h e (by simp)).1,O7 hi _ (h e (by simp)).2,uV hi es (i+1) (λe he=>h e (by simp [he]))]
@[simp] theorem Ci (ι:H6):∀(es:List (d9×d9)) (i:Nat),(F6 ι es i).length=es.length
 | [],_=>rfl
 | e::es,i=>by simp [F6,Ci ι es]
theorem kD (ι:H6):∀(es:List (d9×d9)) (i j:Nat),(F6 ι es i)[j]?=(es[j]?).map λe=>{key:=l7 ι e.1,val:=l7 ι e.2,born:=i+j}
 | [],_,_=>by simp [F6]
 | e::es,i,0=>by simp [F6]
 | e::es,i,j+1=>by simp [F6,kD ι es,show i+1+j=i+(j+1) from by omega]
theorem bO.mono {P:Program}{ι ι':H6}{n A:Nm}{h h':Array Obj}{l:Loc}{b:N7}(hb:bO P ι n h l b)
  (o:∀i,n i->ι' i=ι i) (m:n.le A) (g:Q7 b=true->h'[l.b]?=h[l.b]?):bO P ι' A h' l b:=by
 cases b with
 | void=>trivial
 | dead=>trivial
 | cells rs k rows=>
  obtain⟨c,e,w,a,d,r,t⟩:=hb;refine⟨c,e,w,by rw [g rfl];exact a,d,r,λi H=>?_⟩;obtain⟨q,D,E,z,F⟩:=t i H;refine⟨q,D,E,bN m q z,λj G=>?_⟩;rw [F j G];cases hr:q[j]? with
  | none=>rfl
  | some v=>simp [O7 o v (bB.1 z v (U9 hr))]
 | map es=>obtain⟨a,d⟩:=hb;refine⟨?_,λe f=>⟨e.1.L6 m (d e f).1,e.2.L6 m (d e f).2⟩⟩;rw [g rfl,a,uV o es 0 d]
 | iter mp since seen=>
  obtain⟨y,a,J,B,d,r,t⟩:=hb;refine⟨y,λx I=>(m x (a x I)).1,J,B,?_,r,t⟩;rw [g rfl,d];cases mp with
  | none=>rfl
  | some x=>simp [o x (a x rfl)]
 | tail p=>obtain⟨a,d⟩:=hb;exact⟨(m p a).1,by rw [o p a];exact d⟩
 | loop B pend env params assign body=>obtain⟨L,a,d⟩:=hb;exact⟨L,by rw [g rfl];exact a,d.mono o m⟩
 | deferred=>exact (g rfl).trans hb
 | siter s pos=>exact⟨hb.1,(g rfl).trans hb.2⟩
 | buf ty s=>obtain⟨y,c,w,a,d⟩:=hb;exact⟨y,c,w,(g rfl).trans a,d⟩
 | mapU es=>
  obtain⟨L,C,a,⟨d,r,t⟩,u⟩:=hb;refine⟨L,C,(g rfl).trans a,⟨?_,r,t⟩,λe f=>⟨e.1.L6 m (u e f).1,e.2.L6 m (u e f).2⟩⟩;have:es.map (λe=>(l7 ι' e.1,l7 ι' e.2))=es.map λe=>(l7 ι e.1,l7 ι e.2):=ag5 λe f=>by rw [O7 o _ (u e f).1,O7 o _ (u e f).2]
  rw [this];exact d
theorem Mem.J9 {m:Mem}(h:T.Ok m.t m.nx)(b:N7)(i:Nat):(m.new b).get i=if i=m.nx then some b else m.get i:=by show (m.t.put m.nx b).get i=_;split;rename_i e;subst e;exact T.aO h _ _ (lM _);rename_i e;exact T.aZ h _ _ _ (lM _) (λh=>e h.symm)
theorem Mem.U1 {m:Mem}(h:T.Ok m.t m.nx){j:Nat}(a:j<m.nx)(b:N7)(i:Nat):(m.set j b).get i=if i=j then some b else m.get i:=by show (m.t.put j b).get i=_;split;rename_i e;subst e;exact T.aO h _ _ (aeQ a);rename_i e;exact T.aZ h _ _ _ (aeQ a) (λh=>e h.symm)
theorem Mem.F9 {m:Mem}(h:T.Ok m.t m.nx){i:Nat}{b:N7}(a:m.get i=some b):i<m.nx:=(h.get i).1 ⟨b,a⟩
@[simp] theorem Mem.JZ (m:Mem)(b:N7):(m.new b).nx=m.nx+1:=rfl
@[simp] theorem Mem.Xn (m:Mem)(b:N7):(m.new b).lim=m.lim:=rfl
@[simp] theorem Mem.aff (m:Mem)(i:Nat)(b:N7):(m.set i b).nx=m.nx:=rfl
@[simp] theorem Mem.aiN (m:Mem)(i:Nat)(b:N7):(m.set i b).lim=m.lim:=rfl
def H6.upd (ι:H6)(i:Nat)(l:Loc):H6:=λj=>if j=i then l else ι j
@[simp] theorem H6.S9 (ι:H6)(i:Nat)(l:Loc):ι.upd i l i=l:=by simp [H6.upd]
theorem H6.upd_ne (ι:H6){i j:Nat}(l:Loc)(h:j≠i):ι.upd i l j=ι j:=by simp [H6.upd,h]
theorem dB {P:Program}{ι:H6}{n:Nm}{h:Array Obj}{l:Loc}{b:N7}(hb:bO P ι n h l b)(d:Q7 b=true):l.b<h.size:=by
 cases b with
 | void=>cases d
 | dead=>cases d
 | tail=>cases d
 | cells rs k rows=>obtain⟨c,e,f,a,_⟩:=hb;exact (q8.1 a).1
 | map es=>obtain⟨a,_⟩:=hb;exact (q8.1 a).1
 | iter mp since seen=>obtain⟨_,_,i,j,a,_⟩:=hb;exact (q8.1 a).1
 | loop=>obtain⟨L,a,_⟩:=hb;exact (q8.1 a).1
 | deferred=>exact (q8.1 hb).1
 | siter s pos=>exact (q8.1 hb.2).1
 | buf ty s=>obtain⟨_,c,f,a,_⟩:=hb;exact (q8.1 a).1
 | mapU es=>obtain⟨L,g,a,_⟩:=hb;exact (q8.1 a).1
structure Laid (m m':Mem)(nid:Nat)(b:N7):Prop where
 ok:T.Ok m'.t m'.nx
 get:∀i,m'.get i=if i=nid then some b else m.get i
 lim:m'.lim=m.lim
 nx:m.nx<=m'.nx
 le:m.lim<=nid
 free:¬ m.has nid
 live:bF b=false
theorem Laid.new {m:Mem}(h:T.Ok m.t m.nx)(a:m.lim<=m.nx)(b:N7)(hb:bF b=false):Laid m (m.new b) m.nx b:=
 ⟨h.push b,Mem.J9 h b,rfl,ajS _,a,λ⟨_,h1,_⟩=>aeV _ (Mem.F9 h h1),hb⟩
theorem Laid.set {m:Mem}(h:T.Ok m.t m.nx){i:Nat}(a:m.get i=some .void)(c:m.lim<=i)(b:N7)(hb:bF b=false):Laid m (m.set i b) i b:=
 ⟨h.put i b (Mem.F9 h a),Mem.U1 h (Mem.F9 h a) b,rfl,lM _,c,λ⟨_,h1,h2⟩=>(by rw [a] at h1;cases h1;cases h2),hb⟩
theorem Laid.has {m m':Mem}{nid:Nat}{b:N7}(h:Laid m m' nid b)(i:Nat)(c:m.has i):m'.has i:=by have a:i≠nid:=λe=>h.free (e▸c);obtain⟨x,d,f⟩:=c;exact⟨x,by rw [h.get,if_neg a];exact d,f⟩
theorem Laid.self {m m':Mem}{nid:Nat}{b:N7}(h:Laid m m' nid b):m'.has nid:=⟨b,by rw [h.get,if_pos rfl],h.live⟩
theorem pF {m:Mem}{i:Nat}{b:N7}(h:m.get i=some b)(a:Q7 b=true):m.has i:=⟨b,h,by cases b<;>first | rfl | cases a⟩
structure Tz (w w':World)(o:Obj):Prop where
 heap:w'.heap=w.heap.push o
 os:w'.os=w.os
 out:w'.output=w.output
 tape:w'.tape=w.tape
theorem Step.lay {P:Program}{G:Mem}{ι:H6}{m m':Mem}{w w':World}(h:RM P G ι m w.heap){s:Nat}{b:N7}(a:Laid m m' s b){o:Obj}(z:Tz w w' o){l:Loc}
  (D:l.b=w.heap.size) (hs:l.spot=none)
  (hb:bO P (ι.upd s l) (m'.nm (ι.upd s l)) (w.heap.push o) l b)
  (J:∀c e fz,o=.cells c e fz->∀k,k<c.size->¬ (fz.1<=k∧k<fz.2)):
  Step P G ι m w (ι.upd s l) m' w':=by
 have r:∀i x,m.get i=some x->Q7 x=true->(ι i).b<w.heap.size:=λi x f d=>dB (h.blk i x f) d;have g:∀k,k<w.heap.size->w'.heap[k]?=w.heap[k]?:=λk C=>by rw [z.heap];exact agb C |>.trans (Z6 C).symm
 have p:∀j,m.has j->ι.upd s l j=ι j:=λj B=>ι.upd_ne l λe=>a.free (e▸B);refine⟨⟨a.ok,?_,?_,by rw [a.lim];exact h.glim,by rw [a.lim];exact J2 h.limn a.nx,h.gle,λi q=>by rw [a.get,if_neg (by have:=a.le;have:=h.glim;omega)];exact h.base i q,λi q=>a.has i (h.ghas i q),?_,?_,h.JY λk C _=>g k C⟩,p,a.has,a.nx,a.lim,?_,by rw [z.heap];simp,?_,?_,z.os,z.out,z.tape⟩;intro i x f;rw [a.get] at f;split at f;rename_i e;subst e;cases f;rw [z.heap];simpa using hb;rename_i e;rw [ι.upd_ne l e];exact (h.blk i x f).mono (n:=m.nm ι) p (Mem.U2 a.has p) (λd=>g _ (r i x f d));intro i x q f d;rw [a.lim] at q;rw [a.get] at f;split at f;rename_i e;subst e;cases f;refine⟨λj y B A v=>?_,λc e fz u=>?_⟩;rw [a.get,if_neg B] at A;rw [ι.upd_ne l B,ι.S9,D];have:=r j y A v;omega;rw [ι.S9,D,z.heap] at u;simp at u;exact J c e fz u;rename_i e;have H:=h.own i x q f d;have t:=r i x f d;refine⟨λj y B A v=>?_,λc I fz u=>?_⟩;rw [ι.upd_ne l e];rw [a.get] at A;split at A;rename_i E;subst E;cases A;rw [ι.S9,D];omega;rename_i E;rw [ι.upd_ne l E];exact H.alone j y B A v;rw [ι.upd_ne l e] at u;rw [g _ t] at u;exact H.free c I fz u;intro i q;rw [p i (h.ghas i q)];exact h.glob i q;intro i x f d;rw [a.get] at f;split at f;rename_i e;subst e;rw [ι.S9];exact hs;rename_i e;rw [ι.upd_ne l e];exact h.spot i x f d;intro i q;rw [a.get,if_neg (by have:=a.le;omega)];intro F t _;exact g F t;rintro F ⟨i,x,q,f,d,rfl⟩;rw [a.lim] at q;rw [a.get] at f;split at f;rename_i e;subst e;right;rw [ι.S9,D];exact lM _;rename_i e;left;rw [ι.upd_ne l e];exact⟨i,x,q,f,d,rfl⟩
theorem Step.name {P:Program}{G:Mem}{ι:H6}{m m':Mem}{w:World}(h:RM P G ι m w.heap){o:Nat}{b:N7}(d:Laid m m' o b)(D:Q7 b=false){l:Loc}
  (hb:bO P (ι.upd o l) (m'.nm (ι.upd o l)) w.heap l b):Step P G ι m w (ι.upd o l) m' w:=by
 have g:∀j,m.has j->ι.upd o l j=ι j:=λj t=>ι.upd_ne l λe=>d.free (e▸t);have p:∀i x,m'.get i=some x->Q7 x=true->i≠o∧m.get i=some x:=λi x f a=>by rw [d.get] at f;split at f;cases f;rw [D] at a;cases a;exact⟨by assumption,f⟩
 refine⟨⟨d.ok,?_,?_,by rw [d.lim];exact h.glim,by rw [d.lim];exact J2 h.limn d.nx,h.gle,λi k=>by rw [d.get,if_neg (by have:=d.le;have:=h.glim;omega)];exact h.base i k,λi k=>d.has i (h.ghas i k),?_,?_,h.gsz⟩,g,d.has,d.nx,d.lim,?_,lM _,λ_ _ _=>rfl,?_,rfl,rfl,rfl⟩;intro i x f;rw [d.get] at f;split at f;rename_i e;subst e;cases f;simpa using hb;rename_i e;rw [ι.upd_ne l e];exact (h.blk i x f).mono (n:=m.nm ι) g (Mem.U2 d.has g) (λ_=>rfl);intro i x k f a;rw [d.lim] at k;obtain⟨q,r⟩:=p i x f a;have v:=h.own i x k r a;refine⟨λj y t E s=>?_,λc z A u=>?_⟩;obtain⟨B,C⟩:=p j y E s;rw [ι.upd_ne l q,ι.upd_ne l B];exact v.alone j y t C s;rw [ι.upd_ne l q] at u;exact v.free c z A u;intro i k;rw [g i (h.ghas i k)];exact h.glob i k;intro i x f a;obtain⟨q,r⟩:=p i x f a;rw [ι.upd_ne l q];exact h.spot i x r a;intro i k;rw [d.get,if_neg (by have:=d.le;omega)];rintro b' ⟨i,x,k,f,a,rfl⟩;rw [d.lim] at k;obtain⟨q,r⟩:=p i x f a;rw [ι.upd_ne l q];exact .inl ⟨i,x,k,r,a,rfl⟩
def akx (ι:H6)(n:Nm)(done:List (Option Nat))(ls:List d9)(tmps:Array Value):Prop:=
 ∀t k,fO t done 0=some k->∃v,ls[k]?=some v∧v.lt n∧tmps.getD t undef=l7 ι v
structure St (P:Program)(ι:H6)(n:Nm)(slots:List Nat)(done:List (Option Nat))(ls:List d9)(env:T d9)(tmps:Array Value):Prop where
 ls:akx ι n done ls tmps
 env:Q6 ι n slots env tmps
 glob:∀i,i<P.globals.size->(ι i).b=i∧(ι i).base=0∧(ι i).spot=none
 gn:∀g,g<P.globals.size->n g
section
variable {P:Program}{G:Mem}{ι:H6}{n:Nm}{slots:List Nat}{done:List (Option Nat)}{ls:List d9}{env:T d9}{a:Act}
theorem Cj (k:Nat):∀(ls:List d9) (env:T d9),D8 (.loc k) ls env=ls[k]?.getD .undef:=by
 intro ls env;match k with
 | 0=>cases ls<;>rfl
 | 1=>match ls with | [] | [_] | _ :: _ :: _=>rfl
 | 2=>match ls with | [] | [_] | [_,_] | _ :: _ :: _ :: _=>rfl
 | 3=>match ls with | [] | [_] | [_,_] | [_,_,_] | _ :: _ :: _ :: _ :: _=>rfl
 | k+4=>show nth (k+4) ls=_;exact Tw _ _
theorem TA (j:Nat)(h:j<2^60)(ls:List d9)(env:T d9):D8 (.slot j) ls env=(env.get j).getD .undef:=by
 show way 64 j env=_
 exact ab6 64 j env (by have:(2:Nat)^60+1<2^64:=by decide
                        omega)
theorem y9 (s:St P ι n slots done ls env a.tmps){x:Operand}{o:N9}(h:J7 P slots done x=some o):
  a.eval x=l7 ι (D8 o ls env)∧(D8 o ls env).lt n:=by
 cases x with
 | tmp t=>
  simp only [J7] at h;cases hk:fO t done 0 with
  | some k=>simp only [hk,gB] at h;subst h;obtain⟨v,b,d,e⟩:=s.ls t k hk;rw [Cj,b];exact⟨e,d⟩
  | none=>
   simp only [hk] at h;cases hj:idxOf t slots 0 with
   | none=>simp [hj] at h
   | some j=>simp only [hj,gB] at h;subst h;obtain⟨_,v,b,d,e⟩:=s.env.val t j hj;rw [TA j (by have:=(sj hj).2.1;have:=s.env.small;omega),b];exact⟨e,d⟩
 | const v=>
  simp only [J7] at h;cases hv:ofValue v with
  | none=>simp [hv] at h
  | some c=>simp only [hv,gB] at h;subst h;obtain⟨b,d⟩:=lG ι v c hv;exact⟨b.symm,d n⟩
 | global g=>simp only [J7] at h;split at h;rename_i i;cases h;obtain⟨b,d,e⟩:=s.glob g i;refine⟨?_,?_⟩;show Value.pointer (some ⟨g,0,none⟩)=.pointer (some (ι.at g 0));rw [H6.xA e,b,d];exact s.gn g i;cases h
 | func f=>simp only [J7,gB] at h;subst h;exact⟨by simp [Act.eval,D8,C9,l7,gZ,o9],by simp [D8,C9,d9.lt,Xk,X0]⟩
theorem jH (s:St P ι n slots done ls env a.tmps):∀{l:List Operand} {os:List N9},iE P slots done l=some os->
  l.map a.eval=o9 ι (evs (dU os) ls env)∧X0 n (evs (dU os) ls env)
 | [],os,h=>by simp only [iE,gB] at h;subst h;simp [dU,evs,o9,X0]
 | x::l,os,h=>by
  simp only [iE] at h;cases hx:J7 P slots done x with
  | none=>simp [hx] at h
  | some o=>
   cases hl:iE P slots done l with
   | none=>simp [hx,hl] at h
   | some r=>simp only [hx,hl,gB] at h;subst h;obtain⟨h1,h2⟩:=y9 s hx;obtain⟨h3,h4⟩:=jH s hl;refine⟨?_,?_⟩;show a.eval x::l.map a.eval=l7 ι (D8 o ls env)::o9 ι (evs (dU r) ls env);rw [h1,h3];exact⟨h2,h4⟩
end
section
variable {P:Program}{G:Mem}{w:World}
theorem run_underlying {t:TypeId}{d:TypeDesc}(h:P.underlying t=some d):(underlying t).run P w=.ok d w:=by simp [underlying,h]
theorem run_sizeOf {t:TypeId}{k:Nat}(h:V5 P t=some k):(sizeOf t).run P w=.ok k w:=by simp only [V5,aay] at h;obtain⟨i,a,b⟩:=h;simp [sizeOf,typeInfo,a,b]
theorem tZ {t:TypeId}{k:Nat}(h:dV P t=some k):∃i,(typeInfo t).run P w=.ok i w∧i.bytes=k:=by simp only [dV,aay] at h;obtain⟨i,a,b⟩:=h;exact⟨i,by simp [typeInfo,a],b⟩
theorem pG {t:TypeId}{b:Bool}(h:uL P t=some b):(isAgg t).run P w=.ok b w:=by
 simp only [uL] at h;cases hu:P.underlying t with
 | none=>simp [hu] at h
 | some d=>simp only [isAgg,J3,run_underlying hu,gM];cases d<;>simp_all
theorem Ck {t:TypeId}{s:Option Nat}(h:partT P t=some s):(s=none∧uL P t=some false∧∃k,V5 P t=some k)∨(∃k,s=some k∧uL P t=some true∧V5 P t=some k):=by simp only [partT] at h;split at h;rename_i k a b;cases h;exact .inr ⟨k,rfl,a,b⟩;rename_i k a b;cases h;exact .inl ⟨rfl,a,k,b⟩;cases h
theorem bI {t:TypeId}{z:List d9}(h:pE P t=some z)(ι:H6):∃v,(zeroValue t).run P w=.ok v w∧v.cells=(o9 ι z).toArray∧∀n,X0 n z:=by
 simp only [pE] at h;cases hi:P.info? t with
 | none=>simp [hi] at h
 | some i=>
  cases hz:i.zero with
  | none=>simp [hi,hz] at h
  | some v=>
   cases ha:ofValue v with
   | none=>simp [hi,hz,ha] at h
   | some a=>simp only [hi,hz,ha,ac3,gB] at h;subst h;obtain⟨b,c⟩:=lG ι v a ha;exact⟨v,by simp [zeroValue,typeInfo,hi,hz],by rw [← b,jG],λn=>rY (c n)⟩
theorem lZ {t:TypeId}{z:d9}(h:zeroV P t=some z)(ι:H6):(zeroValue t).run P w=.ok (l7 ι z) w∧∀n,z.lt n:=by
 simp only [zeroV] at h;cases hi:P.info? t with
 | none=>simp [hi] at h
 | some i=>
  cases hz:i.zero with
  | none=>simp [hi,hz] at h
  | some v=>simp only [hi,hz,ac3] at h;obtain⟨a,b⟩:=lG ι v z h;exact⟨by simp [zeroValue,typeInfo,hi,hz,a],b⟩
end
theorem xB (n:Int)(h:-9223372036854775808<=n∧n<9223372036854775808):IntKind.i64.wrap n=n:=by
 have a:((2:Int)^IntKind.i64.bits)=18446744073709551616:=rfl;have b:((2:Int)^(IntKind.i64.bits-1))=9223372036854775808:=rfl;unfold IntKind.wrap;rw [a,b];show (if (true&&decide (n%18446744073709551616≥9223372036854775808))=true then n%18446744073709551616-18446744073709551616 else n%18446744073709551616)=n;obtain⟨c,d⟩:=h;by_cases hn:0<=n;have:n%18446744073709551616=n:=Int.emod_eq_of_lt hn (by omega);rw [this,if_neg (by simp only [abY,decide_eq_true_eq];omega)];have:n%18446744073709551616=n+18446744073709551616:=by rw [← Int.add_emod_right];exact Int.emod_eq_of_lt (by omega) (by omega)
 rw [this,if_pos (by simp only [abY,decide_eq_true_eq];omega)];omega
theorem ab7 (n:Int):tX n=IntKind.i64.wrap n:=by
 cases n with
 | ofNat m=>
  simp only [tX];cases h:Nat.blt m 9223372036854775808 with
  | true=>
   have:m<9223372036854775808:=(Eq.mp Xb h)
   have a:=xB (Int.ofNat m) ⟨by have:(0:Int)<=Int.ofNat m:=Int.natCast_nonneg m
                                omega,by have:Int.ofNat m=(m:Int):=rfl
                                         omega⟩
   exact (U0 _ _).trans a.symm
  | false=>exact O6 _ _
 | negSucc m=>
  simp only [tX];cases h:Nat.blt m 9223372036854775808 with
  | true=>have:m<9223372036854775808:=(Eq.mp Xb h);have e:=af5 m;have a:=xB (Int.negSucc m) ⟨by omega,by omega⟩;exact (U0 _ _).trans a.symm
  | false=>exact O6 _ _
theorem sw (k:IntKind)(n:Int):kV k n=k.wrap n:=by cases k<;>first | exact ab7 n | rfl
theorem dW (a b:Int):aX a b=(a==b):=by
 cases a with
 | ofNat a=>
  cases b with
  | ofNat b=>show Nat.beq a b=_;by_cases h:a=b;subst h;simp [aat];rw [show Nat.beq a b=false from aaB.2 λe=>h (aP e)];exact (beq_eq_false_iff_ne.2 (λe=>h (Int.ofNat.inj e))).symm
  | negSucc b=>exact (beq_eq_false_iff_ne.2 (λe=>by cases e)).symm
 | negSucc a=>
  cases b with
  | ofNat b=>exact (beq_eq_false_iff_ne.2 (λe=>by cases e)).symm
  | negSucc b=>show Nat.beq a b=_;by_cases h:a=b;subst h;simp [aat];rw [show Nat.beq a b=false from aaB.2 λe=>h (aP e)];exact (beq_eq_false_iff_ne.2 (λe=>h (Int.negSucc.inj e))).symm
theorem blt_eq (a b:Nat):Nat.blt a b=decide (a<b):=by by_cases h:a<b;rw [decide_eq_true h];exact (Eq.mpr Xb h);rw [decide_eq_false h];exact aaB.2 λe=>h (Eq.mp Xb e)
theorem gF (a b:Int):nP a b=decide (a<b):=by
 cases a with
 | ofNat a=>
  cases b with
  | ofNat b=>exact (blt_eq a b).trans (decide_eq_decide.2 (by show a<b↔(a:Int)<(b:Int);omega))
  | negSucc b=>exact (decide_eq_false (by rw [af5];show ¬ (a:Int) < _;omega)).symm
 | negSucc a=>
  cases b with
  | ofNat b=>exact (decide_eq_true (by rw [af5];show _<(b:Int);omega)).symm
  | negSucc b=>exact (blt_eq b a).trans (decide_eq_decide.2 (by rw [af5,af5];omega))
theorem Nb (a b:IntKind):WY a b=decide (a=b):=by cases a<;>cases b<;>rfl
theorem eU:∀a b:List UInt8,strEq a b=(a==b)
 | [],[]=>rfl
 | [],_ :: _=>rfl
 | _ :: _,[]=>rfl
 | x::a,y::b=>by
  show bi (Nat.beq x.toNat y.toNat) (strEq a b) false=_;rw [eU a b];by_cases h:x=y;subst h;simp [aat];have:Nat.beq x.toNat y.toNat=false:=by rw [aaB];intro e;exact h (ajN.1 (aP e))
  rw [this];simp [h]
theorem Cm:∀a b:List UInt8,ql a b=Op.bytesLess a b
 | _,[]=>by cases ‹List UInt8› <;> rfl
 | [],_ :: _=>rfl
 | x::a,y::b=>by simp [ql,Op.bytesLess,Cm a b]
theorem H6.mM (ι:H6)(i o k:Nat):(ι.at i o).add k=ι.at i (o+k):=by
 unfold Addr.add H6.at
 split;rename_i h;subst h;rfl;rename_i h;have:¬ (o+k=0):=by omega
 simp [aez,this];intro _ a;exact absurd a h
section
variable {β:Type}{v:d9}{r:β}
theorem cZ {k:Nat->Nat->Option β}(h:eP v k=some r):∃i o,v=.ptr i o∧k i o=some r:=by cases v<;>first | exact⟨_,_,rfl,h⟩ | (simp [eP] at h)
theorem iW {k:IntKind->Int->Option β}(h:qh v k=some r):∃i n,v=.int i n∧k i n=some r:=by cases v<;>first | exact⟨_,_,rfl,h⟩ | (simp [qh] at h)
theorem pI {k:Bool->Option β}(h:nO v k=some r):∃b,v=.bool b∧k b=some r:=by cases v<;>first | exact⟨_,rfl,h⟩ | (simp [nO] at h)
theorem fE {k:List UInt8->Option β}(h:nI v k=some r):∃s,v=.str s∧k s=some r:=by cases v<;>first | exact⟨_,rfl,h⟩ | (simp [nI] at h)
theorem dh {k:List d9->Option β}(h:vL v k=some r):∃l,v=.agg l∧k l=some r:=by cases v<;>first | exact⟨_,rfl,h⟩ | (simp [vL] at h)
theorem Xo {k:List d9->Option β}(h:Jz v k=some r):∃l,v=.tuple l∧k l=some r:=by cases v<;>first | exact⟨_,rfl,h⟩ | (simp [Jz] at h)
theorem uf {a:Option β}{k:Nat->Option β}(h:rJ v a k=some r):(v=.nilMap∧a=some r)∨∃i,v=.map i∧k i=some r:=by cases v<;>first | exact .inl ⟨rfl,h⟩ | exact .inr ⟨_,rfl,h⟩ | (simp [rJ] at h)
theorem qw {e:Option β}{k u:Nat->Nat->Nat->Nat->Option β}(h:qj v e k u=some r):
  (v=.nilSlice∧e=some r)∨(∃a b c d,v=.slice a b c d∧k a b c d=some r)∨∃a b c d,v=.sliceU a b c d∧u a b c d=some r:=by
 cases v<;>first | exact .inl ⟨rfl,h⟩ | exact .inr (.inl ⟨_,_,_,_,rfl,h⟩) | exact .inr (.inr ⟨_,_,_,_,rfl,h⟩) | (simp [qj] at h)
theorem Hr {k:Fn->List d9->List d9->Option β}(h:JA v k=some r):∃f a b,v=.func f a b∧k f a b=some r:=by cases v<;>first | exact⟨_,_,_,rfl,h⟩ | (simp [JA] at h)
theorem Xp {n:Int}{k:Nat->Option β}(h:JB n k=some r):∃m:Nat,n=(m:Int)∧k m=some r:=by
 cases n with
 | ofNat m=>exact⟨m,rfl,h⟩
 | negSucc m=>simp [JB] at h
theorem dM {k:Nat->Option β}(h:iM v k=some r):∃i,∃m:Nat,v=.int i (m:Int)∧k m=some r:=by obtain⟨i,n,rfl,h⟩:=iW h;obtain⟨m,rfl,h⟩:=Xp h;exact⟨i,m,rfl,h⟩
theorem idx_eq {len:Nat}{k:Nat->Option β}(h:idx len v k=some r):∃i,∃m:Nat,v=.int i (m:Int)∧m<len∧k m=some r:=by obtain⟨i,m,rfl,h⟩:=dM h;obtain⟨a,b⟩:=D5 h;exact⟨i,m,rfl,Eq.mp Xb a,b⟩
end
section
variable {P:Program}{G:Mem}{ι:H6}{n:Nm}
theorem qx {c:BinOp}{t:TypeId}{x y:Operand}{a b:Value}{w:World}
  (h:∀p q,a≠.agg p∨b≠.agg q) (h':a≠.nilIface∨b≠.nilIface∨uU x=true∨uU y=true):(eqGuard c t x y a b).run P w=.ok () w:=by
 unfold eqGuard;cases c<;>simp<;>(
  split;rename_i d e;rcases h' with h' | h' | h' | h';exact absurd rfl h';exact absurd rfl h';cases x<;>simp_all [uU]
  cases y<;>simp_all [uU]
  rename_i p q;rcases h p q with h | h<;>exact absurd rfl h
  rfl)
theorem Ht {c:BinOp}(e:c≠.shl)(f:c≠.shr){k:IntKind}{a b:Int}{v:d9}(h:GL c k a b=some v)(t:TypeId)(w:World):
  (binOp c t (.int k a) (.int k b)).run P w=.ok (l7 ι v) w∧v.lt n:=by
 cases c<;>first
  | exact absurd rfl e
  | exact absurd rfl f
  | (simp only [GL,aV,qZ,JC,cK,zR,wP,MB,Es,Oz,af8,iOr,af9,Oy,gB] at h
     subst h;simp [binOp,Op.intArith,Op.intCmp,Op.intBits,l7,d9.lt,sw,dW,gF,wT,bne]
     done)
  | (simp only [GL,Er,Qr,Qq] at h
     have d:b≠0:=(by rintro rfl;simp at h);split at h;exact absurd rfl d;cases h;simp [binOp,Op.intDiv,d,l7,d9.lt,sw])
  | (simp only [GL,MB,Oz,gB] at h
     subst h;simp [binOp,Op.intCmp,l7,d9.lt,gF];rw [aaz];simp)
theorem mO (s:List UInt8):(⟨s.toArray⟩:ByteArray).size=s.length:=by simp [ByteArray.size]
theorem Hu {c:BinOp}{a b:List UInt8}{v:d9}(h:GN c a b=some v)(t:TypeId)(w:World):
  (binOp c t (.string ⟨a.toArray⟩) (.string ⟨b.toArray⟩)).run P w=.ok (l7 ι v) w∧v.lt n:=by
 cases c<;>first
  | (simp only [GN,iP] at h;cases h;done)
  | (simp only [GN,cO,zS,wU,OA,Fe,Sr,gB] at h
     subst h;simp [binOp,Op.stringOp,l7,d9.lt,eU,Cm]
     done)
  | (simp only [GN,aY] at h
     obtain⟨d,e⟩:=D5 h;cases e;have f:len' a+len' b<9223372036854775808:=Eq.mp Xb d;simp only [I4] at f;simp [binOp,Op.stringOp,mO,l7,d9.lt];rw [if_neg (by omega)];congr 3)
theorem qy {c:BinOp}(e:c≠.shl)(f:c≠.shr){x y v:d9}(h:AP (GL c) (GN c) x y=some v)(t:TypeId)(w:World):
  (binOp c t (l7 ι x) (l7 ι y)).run P w=.ok (l7 ι v) w∧v.lt n:=by
 cases x<;>try (simp [AP] at h;done)
 rename_i k a;simp only [AP] at h;obtain⟨i,b,rfl,h⟩:=iW h;obtain⟨d,g⟩:=D5 h;rw [Nb,decide_eq_true_eq] at d;subst d;exact Ht e f g t w;rename_i a;simp only [AP] at h;obtain⟨b,rfl,h⟩:=fE h;exact Hu h t w
theorem Qw {b:BinOp}{x y v:d9}(h:AP (GL b) (GN b) x y=some v):
  (∃k a,x=.int k a)∨∃a,x=.str a:=by
 cases x<;>first | exact .inl ⟨_,_,rfl⟩ | exact .inr ⟨_,rfl⟩ | (simp [AP] at h;done)
theorem Fq {x y v:d9}(h:WZ x y=some v)(t:TypeId)(w:World):(binOp .shl t (l7 ι x) (l7 ι y)).run P w=.ok (l7 ι v) w∧v.lt n:=by simp only [WZ] at h;obtain⟨k,a,rfl,h⟩:=iW h;obtain⟨i,m,rfl,h⟩:=dM h;cases h;simp [binOp,Op.shift,l7,d9.lt,sw,show ¬ ((m:Int)<0) from by omega]
theorem Fu {x y v:d9}(h:Xa x y=some v)(t:TypeId)(w:World):(binOp .shr t (l7 ι x) (l7 ι y)).run P w=.ok (l7 ι v) w∧v.lt n:=by simp only [Xa] at h;obtain⟨k,a,rfl,h⟩:=iW h;obtain⟨i,m,rfl,h⟩:=dM h;cases h;simp [binOp,Op.shift,l7,d9.lt,show ¬ ((m:Int)<0) from by omega]
theorem yV (a b:Bool):BN a b=(a==b):=by cases a<;>cases b<;>rfl
theorem mU {x y:d9}{r:Bool}(h:K3 x y=some r):∃k a b,x=.int k a∧y=.int k b∧r=(a==b):=by obtain⟨k,a,d,e⟩:=iW h;obtain⟨j,b,f,g⟩:=iW e;obtain⟨c,i⟩:=D5 g;rw [Nb,decide_eq_true_eq] at c;subst c;cases i;exact⟨_,_,_,d,f,dW _ _⟩
theorem eX {x y:d9}{r:Bool}(h:mE x y=some r):∃a b,x=.bool a∧y=.bool b∧r=(a==b):=by obtain⟨a,c,d⟩:=pI h;obtain⟨b,e,f⟩:=pI d;cases f;exact⟨_,_,c,e,yV _ _⟩
theorem ig {x y:d9}{r:Bool}(h:eqStr x y=some r):∃a b,x=.str a∧y=.str b∧r=(a==b):=by obtain⟨a,c,d⟩:=fE h;obtain⟨b,e,f⟩:=fE d;cases f;exact⟨_,_,c,e,eU _ _⟩
end
section
variable {P:Program}{G:Mem}{ι:H6}{n:Nm}
theorem jI (a b:List d9):aM [] a b=some true:=rfl
theorem iF (k:PK)(c:List PK)(x y:d9)(a b:List d9):aM (k::c) (x::a) (y::b)=ob (Et k x y) λr=>bi r (aM c a b) (some false):=rfl
theorem iG {k:PK}{c:List PK}{a b:List d9}{r:Bool}(h:aM (k::c) a b=some r):
  ∃x xs y ys s,a=x::xs∧b=y::ys∧Et k x y=some s∧bi s (aM c xs ys) (some false)=some r:=by
 cases a with
 | nil=>cases h
 | cons x xs=>
  cases b with
  | nil=>cases h
  | cons y ys=>rw [iF] at h;obtain⟨s,d,e⟩:=z8 h;exact⟨x,xs,y,ys,s,rfl,rfl,d,e⟩
theorem Nc (c e:List PK):∀(a b:List d9) (r:Bool),aM (c++e) a b=some r->
  (aM c a b=some false∧r=false)∨(aM c a b=some true∧aM e (a.drop c.length) (b.drop c.length)=some r):=by
 induction c with
 | nil=>intro a b r h;right;exact⟨rfl,by simpa using h⟩
 | cons k c ih=>
  intro a b r h;obtain⟨x,g,y,i,s,rfl,rfl,f,d⟩:=iG h;rw [iF,f];cases s with
  | false=>left;cases d;exact⟨rfl,rfl⟩
  | true=>simpa using ih g i r d
theorem zY (c:List PK):∀(m:Nat) (a b:List d9),c.length<=m->aM c (a.take m) (b.take m)=aM c a b:=by
 induction c with
 | nil=>intro m a b _;rfl
 | cons k c ih=>
  intro m a b h;obtain⟨m,rfl⟩:∃m',m=m'+1:=⟨m-1,by simp at h;omega⟩;cases a with
  | nil=>rfl
  | cons x xs=>
   cases b with
   | nil=>rfl
   | cons y ys=>rw [agu,agu,iF,iF,ih m xs ys (by simpa using h)]
def mkV (ι:H6)(agg:Bool)(l:List d9):Value:=if agg then .agg (o9 ι l).toArray else l7 ι (l.headD .undef)
theorem Hw (ι:H6)(l:List d9)(o k:Nat):((o9 ι l).toArray.extract o (o+k))=(o9 ι ((l.drop o).take k)).toArray:=by rw [List.extract_toArray];congr 1;rw [ak,ak,aeY,ajL];simp [ajZ,akb]
theorem sD {t:TypeId}{a:Bool}{k:Nat}(b:uL P t=some a)(hs:V5 P t=some k)(l:List d9)(o:Nat)(c:a=false->o<l.length∧k=1)(w:World):
  (part t (o9 ι l).toArray o).run P w=.ok (mkV ι a ((l.drop o).take k)) w:=by
 simp only [part,J3,pG b,gM];cases a with
 | true=>simp only [if_true,J3,run_sizeOf hs,gM,Y2,Hw];rfl
 | false=>
  obtain⟨h,rfl⟩:=c rfl;have:(o9 ι l).toArray[o]?=some (l7 ι l[o]):=by simp [V4,gy h]
  simp only [aau,if_false,this,mkV,Y2];congr 2;rw [Xd h];rfl
theorem Cn {t:TypeId}{k:IntKind}(h:P.underlying t=some (.int k)):uL P t=some false:=by simp [uL,h]
theorem Qx {t:TypeId}(h:P.underlying t=some .bool):uL P t=some false:=by simp [uL,h]
theorem Ka {t:TypeId}(h:P.underlying t=some .string):uL P t=some false:=by simp [uL,h]
theorem nU {t:TypeId}{a:Array Field}(h:P.underlying t=some (.struct a)):uL P t=some true:=by simp [uL,h]
theorem sF {t:TypeId}{k:IntKind}(h:P.underlying t=some (.int k)){x y:d9}{r:Bool}(c:K3 x y=some r)(d:Nat)(w:World):
  (Op.equalIn (d+1) t (l7 ι x) (l7 ι y)).run P w=.ok r w:=by
 obtain⟨k,a,b,rfl,rfl,rfl⟩:=mU c;simp [Op.equalIn,run_underlying h,l7]
theorem xC {t:TypeId}(h:P.underlying t=some .bool){x y:d9}{r:Bool}(c:mE x y=some r)(d:Nat)(w:World):
  (Op.equalIn (d+1) t (l7 ι x) (l7 ι y)).run P w=.ok r w:=by
 obtain⟨a,b,rfl,rfl,rfl⟩:=eX c;simp [Op.equalIn,run_underlying h,l7]
theorem jT (a b:List UInt8):((⟨a.toArray⟩:ByteArray)==⟨b.toArray⟩)=(a==b):=by show ByteArray.beq _ _=_;simp [ByteArray.beq]
theorem zZ {t:TypeId}(h:P.underlying t=some .string){x y:d9}{r:Bool}(c:eqStr x y=some r)(d:Nat)(w:World):
  (Op.equalIn (d+1) t (l7 ι x) (l7 ι y)).run P w=.ok r w:=by
 obtain⟨a,b,rfl,rfl,rfl⟩:=ig c;simp [Op.equalIn,run_underlying h,l7,jT]
def iH (d:Nat)(X Y:Array Value):List Field->Sem Bool
 | []=>pure true
 | f::l=>do
  if f.name≠ "_" then
   if !(← Op.equalIn d f.type (← part f.type X f.offset) (← part f.type Y f.offset)) then return false
  iH d X Y l
theorem Hy (d:Nat)(X Y:Array Value)(l:List Field):
  (do
   let s ← forIn l ((none,()):Option Bool×Unit) λf _=>
    if f.name≠ "_" then do
     let a ← part f.type X f.offset
     let b ← part f.type Y f.offset
     let e ← Op.equalIn d f.type a b
     if (!e)=true then pure (ForInStep.done (some false,())) else pure (ForInStep.yield (none,()))
    else pure (ForInStep.yield (none,()))
   match s.fst with
   | some r=>pure r
   | none=>pure true:Sem Bool)=iH d X Y l:=by
 induction l with
 | nil=>simp [iH]
 | cons f l ih=>rw [agn];simp only [iH];rw [← ih];by_cases hf:f.name= "_";simp [hf];simp only [ne_eq,hf,not_false_eq_true,if_true,bind_assoc];congr 1;funext a;congr 1;funext b;congr 1;funext e;cases e<;>simp
theorem Co {t:TypeId}{b:Array Field}(h:P.underlying t=some (.struct b))(hs:P.stoodInHeld t=false)(X Y:Array Value)(d:Nat)(w:World):
  (Op.equalIn (d+1) t (.agg X) (.agg Y)).run P w=(iH d X Y b.toList).run P w:=by
 simp only [Op.equalIn,J3,run_underlying h,gM,run_program,hs];rw [← ag9,← Hy];simp;congr 1;funext a w';obtain⟨o,u⟩:=a;cases o<;>rfl
theorem Fv:∀(d:Nat) (t:TypeId) (ks:List PK),dL P d t=some ks->∃agg,uL P t=some agg∧V5 P t=some ks.length∧(agg=false->ks.length=1)∧
  ∀D,d<=D->∀(a b:List d9) (r:Bool),aM ks a b=some r->∀w,(Op.equalIn D t (mkV ι agg a) (mkV ι agg b)).run P w=.ok r w:=by
 intro d;induction d with
 | zero=>intro t ks h;simp [dL] at h
 | succ d ih=>
  intro t ks h;simp only [dL] at h;cases hu:P.underlying t with
  | none=>simp [hu] at h
  | some u=>
   rw [hu] at h;cases u<;>try (simp at h;done)
   ·
    simp only at h;split at h;rename_i k;cases h;refine⟨false,Qx hu,k,λ_=>rfl,λD F a b r n w=>?_⟩;obtain⟨x,I,y,J,s,rfl,rfl,m,q⟩:=iG n;obtain⟨D,rfl⟩:∃D',D=D'+1:=⟨D-1,by omega⟩;have:s=r:=by cases s<;>simpa [jI] using q
    subst this;exact xC hu m D w;cases h
   simp only at h;split at h;rename_i k;cases h;refine⟨false,Cn hu,k,λ_=>rfl,λD F a b r n w=>?_⟩;obtain⟨x,I,y,J,s,rfl,rfl,m,q⟩:=iG n;obtain⟨D,rfl⟩:∃D',D=D'+1:=⟨D-1,by omega⟩;have:s=r:=by cases s<;>simpa [jI] using q
   subst this;exact sF hu m D w;cases h;simp only at h;split at h;rename_i k;cases h;refine⟨false,Ka hu,k,λ_=>rfl,λD F a b r n w=>?_⟩;obtain⟨x,I,y,J,s,rfl,rfl,m,q⟩:=iG n;obtain⟨D,rfl⟩:∃D',D=D'+1:=⟨D-1,by omega⟩;have:s=r:=by cases s<;>simpa [jI] using q
   subst this;exact zZ hu m D w;cases h;rename_i K;simp only at h;cases hf:mJ (dL P d) K.toList 0 with
   | none=>simp [hf] at h
   | some ks'=>
    simp only [hf] at h;split at h;rename_i k;cases h;refine⟨true,nU hu,k.2,(λh=>by cases h),λD F a b r n w=>?_⟩;obtain⟨D,rfl⟩:∃D',D=D'+1:=⟨D-1,by omega⟩;simp only [mkV,if_true];rw [Co hu k.1];have H:∀(l:List Field) (g:Nat) (e:List PK) (j:List PK),ks=j++e->j.length=g->mJ (dL P d) l g=some e->
      ∀r,aM e (a.drop g) (b.drop g)=some r->(iH D (o9 ι a).toArray (o9 ι b).toArray l).run P w=.ok r w:=by
     intro l;induction l with
     | nil=>intro g e j _ _ i r B;simp only [mJ,gB] at i;subst i;rw [jI] at B;cases B;simp [iH]
     | cons f l ihl=>
      intro g e j G A i r B;simp only [mJ] at i;split at i;rename_i N;cases hk:dL P d f.type with
      | none=>simp [hk] at i
      | some kf=>
       simp only [hk] at i;cases hrest:mJ (dL P d) l (g+kf.length) with
       | none=>simp [hrest] at i
       | some kr=>
        simp only [hrest,gB] at i;subst i;obtain⟨agg,M,C,m,L⟩:=ih f.type kf hk;have z:∀(c:List d9),(a=c∨b=c)->agg=false->g<c.length∧kf.length=1:=by
         intro c O v;have p:=m v;refine⟨?_,p⟩;cases kf with
         | nil=>simp at p
         | cons k0 kf=>obtain⟨x,I,y,J,s,o,E,_,_⟩:=iG B;rcases O with rfl | rfl;have:=congrArg List.length o;simp at this;omega;have:=congrArg List.length E;simp at this;omega
        simp only [iH,if_pos N.1,J3];rw [N.2,sD M C _ _ (z a (.inl rfl)),gM,sD M C _ _ (z b (.inr rfl)),gM];rcases Nc kf kr _ _ r B with⟨o,rfl⟩ | ⟨o,E⟩;rw [L D (by omega) _ _ _ ((zY kf _ _ _ (lM _)).trans o) w];simp;rw [L D (by omega) _ _ _ ((zY kf _ _ _ (lM _)).trans o) w];simp only [gM,agh,aau,if_false];refine ihl (g+kf.length) kr (j++kf) (by rw [G];simp) (by simp [A]) hrest r ?_;simpa [ag6] using E
      cases i
    exact H K.toList 0 ks [] rfl rfl hf r (by simpa using n);cases h
end
section
variable {P:Program}{G:Mem}{ι:H6}{n:Nm}
theorem TB {t:TypeId}{x y:d9}{r:Bool}(d:(∀k a,x≠.int k a)∧∀s,x≠.str s)(h:∀w,(Op.equal t (l7 ι x) (l7 ι y)).run P w=.ok r w)(w:World):
  (binOp .eql t (l7 ι x) (l7 ι y)).run P w=.ok (.bool r) w∧(binOp .neq t (l7 ι x) (l7 ι y)).run P w=.ok (.bool (!r)) w:=by
 have b:binOp .eql t (l7 ι x) (l7 ι y)=(do pure (.bool (← Op.equal t (l7 ι x) (l7 ι y)))):=by cases x<;>simp_all [l7,binOp]
 have c:binOp .neq t (l7 ι x) (l7 ι y)=(do pure (.bool (!(← Op.equal t (l7 ι x) (l7 ι y))))):=by cases x<;>simp_all [l7,binOp]
 rw [b,c];simp [h]
theorem Kc {t e:TypeId}(g:P.underlying t=some (.pointer e)){j:Nat}(hs:V5 P e=some j){x y:d9}{r:Bool}(f:wV x y=some r)(d:Nat)(w:World):
  (Op.equalIn (d+1) t (l7 ι x) (l7 ι y)).run P w=.ok r w:=by
 cases x<;>cases y<;>simp only [wV,gB,reduceCtorEq] at f
 case ptr.ptr a b c d'=>obtain⟨h,f⟩:=D5 f;obtain⟨i,f⟩:=D5 f;cases f;obtain rfl:=aP h;obtain rfl:=aP i;simp only [Op.equalIn,J3,run_underlying g,l7,gM,run_sizeOf hs];split<;>simp [sameAddr]
 all_goals (subst f;simp [Op.equalIn,run_underlying g,l7])
theorem EB {t e:TypeId}(b:P.underlying t=some (.slice e)){x y:d9}{r:Bool}(a:wW x y=some r)(d:Nat)(w:World):
  (Op.equalIn (d+1) t (l7 ι x) (l7 ι y)).run P w=.ok r w:=by
 cases x<;>cases y<;>simp only [wW,gB,reduceCtorEq] at a<;>subst a<;>simp [Op.equalIn,run_underlying b,l7]
theorem Ke {t k e:TypeId}(b:P.underlying t=some (.map k e)){x y:d9}{r:Bool}(a:JD x y=some r)(d:Nat)(w:World):
  (Op.equalIn (d+1) t (l7 ι x) (l7 ι y)).run P w=.ok r w:=by
 cases x<;>cases y<;>simp only [JD,gB,reduceCtorEq] at a<;>subst a<;>simp [Op.equalIn,run_underlying b,l7]
theorem Hz {t:TypeId}{a b:Array TypeId}{c:Bool}(f:P.underlying t=some (.func a b c)){x y:d9}{r:Bool}(e:BO x y=some r)(d:Nat)(w:World):
  (Op.equalIn (d+1) t (l7 ι x) (l7 ι y)).run P w=.ok r w:=by
 cases x<;>cases y<;>simp only [BO,gB,reduceCtorEq] at e<;>subst e<;>simp [Op.equalIn,run_underlying f,l7]
theorem EC {t:TypeId}{c:Array (String×TypeId)}(b:P.underlying t=some (.interface c)){x y:d9}{r:Bool}(a:lF x y=some r)(d:Nat)(w:World):
  (Op.equalIn (d+1) t (l7 ι x) (l7 ι y)).run P w=.ok r w:=by
 cases x<;>cases y<;>simp only [lF,gB,reduceCtorEq] at a<;>subst a<;>simp [Op.equalIn,run_underlying b,l7]
theorem HV {c:Bool}{t:TypeId}{k:yK}(a:Tq P c t=some k){x y:d9}{r:Bool}(b:kL k x y=some r)(d:Nat)(n:10<=d+1)(w:World):
  (Op.equalIn (d+1) t (l7 ι x) (l7 ι y)).run P w=.ok r w:=by
 simp only [Tq] at a;cases hu:P.underlying t with
 | none=>simp [hu] at a
 | some u=>
  rw [hu] at a;cases u<;>try (simp at a;done)
  simp only [gB] at a;subst a;exact xC hu b d w;simp only [gB] at a;subst a;exact sF hu b d w;simp only [gB] at a;subst a;exact zZ hu b d w;rename_i e;simp only at a;cases hs:V5 P e with
  | none=>rw [hs] at a;cases a
  | some sz=>rw [hs] at a;cases a;exact Kc hu hs b d w
  simp only [gB] at a;subst a;exact EB hu b d w;simp only [gB] at a;subst a;exact Ke hu b d w;rename_i p;simp only at a;cases hf:dL P 10 t with
  | none=>simp [hf] at a
  | some ks=>simp only [hf] at a;split at a;cases a;obtain⟨l,rfl,h⟩:=dh b;obtain⟨m,rfl,i⟩:=dh h;obtain⟨g,f,o,q,j⟩:=Fv (P:=P) (ι:=ι) 10 t ks hf;rw [nU hu] at f;cases f;have:=j (d+1) n l m r i w;simpa [mkV,l7] using this;cases a
  simp only [gB] at a;subst a;exact Hz hu b d w;simp only at a;split at a;cases a;exact EC hu b d w;cases a
theorem Aa {c:Bool}{t:TypeId}{k:yK}(b:Tq P c t=some k){x y:d9}{r:Bool}(a:kL k x y=some r)(w:World):
  (Op.equal t (l7 ι x) (l7 ι y)).run P w=.ok r w:=HV b a 9999 (by omega) w
theorem TD {c:Bool}{t:TypeId}{k:yK}(g:Tq P c t=some k)(e:k≠.prim .i)(f:k≠.prim .s){x y:d9}{r:Bool}(d:kL k x y=some r)(w:World):
  (binOp .eql t (l7 ι x) (l7 ι y)).run P w=.ok (.bool r) w∧(binOp .neq t (l7 ι x) (l7 ι y)).run P w=.ok (.bool (!r)) w:=by
 refine TB ?_ (λw=>Aa g d w) w;cases k<;>first
  | (rename_i p;cases p<;>first
    | exact absurd rfl e
    | exact absurd rfl f
    | (obtain⟨a,b,rfl,rfl,rfl⟩:=eX d;simp))
  | (obtain⟨l,rfl,_⟩:=dh d;simp)
  | (cases x<;>cases y<;>simp [kL,wV,wW,JD,BO,lF] at d ⊢)
def nV (d:Nat)(e:TypeId)(X Y:Array Value):List Nat->Sem Bool
 | []=>pure true
 | i::l=>do
  if !(← Op.equalIn d e (← part e X (i*1)) (← part e Y (i*1))) then return false
  nV d e X Y l
theorem Nf (d:Nat)(e:TypeId)(X Y:Array Value)(l:List Nat):
  (do
   let s ← forIn l ((none,()):Option Bool×Unit) λi _=>do
       let a ← part e X (i*1)
       let b ← part e Y (i*1)
       let r ← Op.equalIn d e a b
       if (!r)=true then pure (ForInStep.done (some false,())) else pure (ForInStep.yield (none,()))
   match s.fst with
   | some r=>pure r
   | none=>pure true:Sem Bool)=nV d e X Y l:=by
 induction l with
 | nil=>simp [nV]
 | cons f l ih=>rw [agn];simp only [nV];rw [← ih];simp only [bind_assoc];congr 1;funext a;congr 1;funext b;congr 1;funext r;cases r<;>simp
theorem ED {t e:TypeId}{k:Nat}(h:P.underlying t=some (.array k e))(hs:V5 P e=some 1)(X Y:Array Value)(d:Nat)(w:World):
  (Op.equalIn (d+1) t (.agg X) (.agg Y)).run P w=(nV d e X Y (List.range k)).run P w:=by
 simp only [Op.equalIn,J3,run_underlying h,gM,run_sizeOf hs];rw [Std.Legacy.Range.forIn_eq_forIn_range'];rw [← Nf,agl];simp;congr 1;funext a w';obtain⟨o,u⟩:=a;cases o<;>rfl
theorem Qy {e:TypeId}{kk:IntKind}(m:P.underlying e=some (.int kk))(hs:V5 P e=some 1)(a b:List d9)(d:Nat)(w:World):∀(j off:Nat) (r:Bool),
  aM (List.replicate j .i) (a.drop off) (b.drop off)=some r->(nV (d+1) e (o9 ι a).toArray (o9 ι b).toArray (List.range' off j)).run P w=.ok r w:=by
 intro j;induction j with
 | zero=>intro off r h;rw [List.replicate_zero,jI] at h;cases h;simp [nV]
 | succ j ih=>
  intro off r h;rw [List.replicate_succ] at h;obtain⟨x,xs,y,ys,s,k,l,p,c⟩:=iG h;have t:off<a.length:=by have:=congrArg List.length k;simp at this;omega
  have u:off<b.length:=by have:=congrArg List.length l;simp at this;omega
  have f:=sD (P:=P) (ι:=ι) (Cn m) hs a off (λ_=>⟨t,rfl⟩) w;have g:=sD (P:=P) (ι:=ι) (Cn m) hs b off (λ_=>⟨u,rfl⟩) w;rw [k] at f;rw [l] at g;have f:(part e (o9 ι a).toArray off).run P w=.ok (l7 ι x) w:=f;have g:(part e (o9 ι b).toArray off).run P w=.ok (l7 ι y) w:=g;have q:=sF (ι:=ι) m p d w;rw [List.range'_succ];simp only [nV,ajT,J3,f,g,q,gM];cases s with
  | false=>have c:some false=some r:=c;cases c;simp
  | true=>
   have c:aM (List.replicate j .i) xs ys=some r:=c;simp only [agh,aau,if_false];refine ih (off+1) r ?_;have n:a.drop (off+1)=xs:=by rw [← ag6,k];rfl
   have o:b.drop (off+1)=ys:=by rw [← ag6,l];rfl
   rw [n,o];exact c
theorem yX {t:TypeId}{k:yK}(h:Xj P t=some k):∃n e kk,P.underlying t=some (.array n e)∧P.underlying e=some (.int kk)∧V5 P e=some 1∧P.eqGuardType P.depth t=false∧k=.flat (List.replicate n .i):=by unfold Xj at h;split at h;rename_i n e c;split at h;rename_i kk b;split at h;rename_i a;cases h;exact⟨n,e,kk,c,b,a.1,a.2,rfl⟩;cases h;cases h;cases h
theorem vW {c:Bool}{t:TypeId}{k:yK}(h:Tt P c t=some k):Tq P c t=some k∨Xj P t=some k:=by unfold Tt at h;split at h;rename_i b a;cases h;exact .inl a;exact .inr h
theorem Qz {c:Bool}{t:TypeId}{k:yK}(a:Tt P c t=some k)(b:k≠.prim .i)(d:k≠.prim .s){x y:d9}{r:Bool}(g:kL k x y=some r)(w:World):
  (binOp .eql t (l7 ι x) (l7 ι y)).run P w=.ok (.bool r) w∧(binOp .neq t (l7 ι x) (l7 ι y)).run P w=.ok (.bool (!r)) w:=by
 rcases vW a with a | a;exact TD a b d g w;obtain⟨n,e,q,p,f,h,_,rfl⟩:=yX a;obtain⟨l,rfl,j⟩:=dh g;obtain⟨m,rfl,o⟩:=dh j;refine TB (by simp) (λw=>?_) w;have:Op.equal t (l7 ι (.agg l)) (l7 ι (.agg m))=Op.equalIn (9999+1) t (.agg (o9 ι l).toArray) (.agg (o9 ι m).toArray):=by simp [l7,Op.equal,Op.maxDepth]
 rw [this,ED p h,agl];exact Qy f h l m 9998 w n 0 r (by simpa using o)
end
section
variable {P:Program}{G:Mem}{ι:H6}{n:Nm}{slots:List Nat}{done:List (Option Nat)}{ls:List d9}{env:T d9}{a:Act}
def Gives (P:Program)(ρ:Operand->Value)(op:Op)(v:Value):Prop:=
 ∀(o:Oper),o.op=op->∀w,(execOp ρ o).run P w=.ok (.value v) w
theorem kP {a:BinOp}(b:a≠.eql)(c:a≠.neq){t:TypeId}{x y:Operand}{u v:Value}{w:World}:(eqGuard a t x y u v).run P w=.ok () w:=by unfold eqGuard;cases a<;>first | exact absurd rfl b | exact absurd rfl c | simp
theorem Kg {a:BinOp}{t:TypeId}{x y:Operand}{u v:Array Value}{w:World}(h:P.eqGuardType P.depth t=false):(eqGuard a t x y (.agg u) (.agg v)).run P w=.ok () w:=by unfold eqGuard;cases a<;>simp [h]
theorem pJ {b:BinOp}{t:TypeId}{x y:Operand}{e:TypeId}{a:Operand->Value}{v:Value}
  (c:∀w,(eqGuard b t x y (a x) (a y)).run P w=.ok () w) (h:∀w,(binOp b t (a x) (a y)).run P w=.ok v w):Gives P a (.binOp b t x y e) v:=by
 intro o d w;simp [execOp,d,c,h]
theorem bind_eq {α β:Type}{o:Option α}{f:α->Option β}{b:β}(h:(o >>= f)=some b):∃a,o=some a∧f a=some b:=by
 cases o with
 | none=>cases h
 | some a=>exact⟨a,rfl,h⟩
theorem TF (p:Nat×Nat×OF)(ps:List (Nat×Nat×OF))(ls:List d9)(env:T d9)(cs:List d9):
  lay (p::ps) ls env cs=bi (Nat.beq (len' (p.2.2 ls env).cells) p.2.1) (bi (Nat.ble (Nat.add p.1 p.2.1) (len' cs)) (lay ps ls env (jY p.1 (p.2.2 ls env).cells cs)) none) none:=rfl
theorem yY (a:List Value):∀(A:Array Value) (off i:Nat),off+i+a.length<=A.size->
  ((a.zipIdx i).foldl (λcs (p:Value×Nat)=>cs.setIfInBounds (off+p.2) p.1) A).toList=A.toList.take (off+i)++(a++A.toList.drop (off+i+a.length)):=by
 induction a with
 | nil=>intro A off i h;simp
 | cons v a ih=>
  intro A off i h;simp only [List.zipIdx_cons,ajM,Y3] at h ⊢;rw [ih _ _ _ (by simp;omega)];simp only [Array.toList_setIfInBounds];have b:off+i<A.toList.length:=by simp;omega
  rw [List.take_set,show off+(i+1)=off+i+1 from by omega];rw [List.drop_set_of_lt (by omega)];rw [adC b,List.set_append_right _ _ (by simp;omega)];simp [show min (off+i) A.size=off+i from by simp at b;omega];congr 1;omega
theorem yZ (s:St P ι n slots done ls env a.tmps)(d:Nat->Option (Nat×Nat)):∀(parts:List (Nat×Operand)) (ps:List (Nat×Nat×N9)),
  rV P slots done d parts=some ps->∀(cs r:List d9),X0 n cs->lay (yP ps) ls env cs=some r->
   Instr.fill d (o9 ι cs).toArray (parts.map λp=>(p.1,a.eval p.2))=some (o9 ι r).toArray∧X0 n r∧r.length=cs.length:=by
 intro parts;induction parts with
 | nil=>intro ps h cs r c f;simp only [rV,gB] at h;subst h;cases f;exact⟨rfl,c,rfl⟩
 | cons p parts ih=>
  intro ps h cs r c f;simp only [rV] at h;split at h;rename_i b k x j C D g;cases h;simp only [yP,TF] at f;obtain⟨o,f⟩:=D5 f;obtain⟨q,f⟩:=D5 f;obtain⟨t,u⟩:=y9 s D;simp only [I4] at o q;have l:=aP o;have A:b+k<=cs.length:=K9 q;have i:b+((D8 x ls env).cells).length<=cs.length:=by omega
  have m:=xw b ((D8 x ls env).cells) cs i;obtain⟨w,y,z⟩:=ih j g _ r (by
   rw [bB] at c ⊢;intro v e;rw [kC b _ cs (by omega)] at e;simp only [Z5] at e;rcases e with e | e | e;exact c v (aeI e);exact bB.1 (rY u) v e;exact c v (adH e)) f
  refine⟨?_,y,by rw [z,m]⟩;simp only [Y6,Instr.fill,C];rw [t,jG];simp only [aey,Q9];rw [if_neg (by simp [l];omega)];rw [← w];congr 1;have B:=yY (o9 ι (D8 x ls env).cells) (o9 ι cs).toArray b 0 (by simp;omega);apply ajH.1;rw [← Array.foldl_toList];simp only [Array.toList_zipIdx];refine B.trans ?_;simp only [ak,kC b _ cs (show b<=cs.length by omega),ac5,ajZ,akb,aev,Y5];cases h
theorem EG:∀(fs:List Field) (pl:List (Nat×Nat)),placesOf P fs=some pl->∀w,
  ((fs.mapM λf=>do pure (f.offset,← sizeOf f.type):Sem (List (Nat×Nat)))).run P w=.ok pl w:=by
 intro fs;induction fs with
 | nil=>intro pl h w;simp only [placesOf,gB] at h;subst h;simp
 | cons f fs ih=>intro pl h w;simp only [placesOf] at h;split at h;rename_i s r b c;cases h;have a:=ih r c w;simp only [bind_pure_comp] at a;simp [ajW,run_sizeOf b,a];cases h
theorem Kh (s:St P ι n slots done ls env a.tmps){t:TypeId}{b:Array (Nat×Operand)}{o:wR}(h:vS P slots done t b.toList=some o):
  ∃zero ps,o=.p (.build zero ps)∧∀v,lX (.build zero ps) ls env=some v->v.lt n∧Gives P a.eval (.build t b) (l7 ι v):=by
 simp only [vS] at h;have j:(b.map λp=>(p.1,a.eval p.2)).toList=b.toList.map λp=>(p.1,a.eval p.2):=by simp
 split at h;rename_i zero c q G;split at h;rename_i I E;split at h;rename_i ps l;cases h;refine⟨zero,ps,rfl,λv H=>?_⟩;obtain⟨r,A,B⟩:=z8 H;cases B;obtain⟨z,d,e,g⟩:=bI (P:=P) (w:=default) q ι;obtain⟨u,y,_⟩:=yZ s _ b.toList ps l zero r (g n) A;refine⟨y,λo D w=>?_⟩;obtain⟨z,d,e,g⟩:=bI (P:=P) (w:=w) q ι;simp only [execOp,D,Instr.build,J3,d,gM,run_underlying G,e];have K:=EG (P:=P) c.toList I E w;have C:(c.mapM λf=>do pure (f.offset,← sizeOf f.type):Sem (Array (Nat×Nat)))=Functor.map List.toArray (c.toList.mapM λf=>do pure (f.offset,← sizeOf f.type):Sem (List (Nat×Nat))):=by rw [← List.mapM_toArray]
 rw [C];simp only [Sem.run_map,K,gM,j];have m:(λx:Nat=>I.toArray[x]?)=λi:Nat=>I[i]?:=by funext i;simp
 rw [m,u];simp [l7];cases h;cases h;rename_i zero k J q G;split at h;rename_i L F;split at h;rename_i ps l;cases h;refine⟨zero,ps,rfl,λv H=>?_⟩;obtain⟨r,A,B⟩:=z8 H;cases B;obtain⟨z,d,e,g⟩:=bI (P:=P) (w:=default) q ι;obtain⟨u,y,_⟩:=yZ s _ b.toList ps l zero r (g n) A;refine⟨y,λo D w=>?_⟩;obtain⟨z,d,e,g⟩:=bI (P:=P) (w:=w) q ι;simp only [execOp,D,Instr.build,J3,d,gM,run_underlying G,e,run_sizeOf F,j];rw [u];simp [l7];cases h;cases h;cases h
end
section
variable {P:Program}{G:Mem}{ι:H6}{n:Nm}{slots:List Nat}{done:List (Option Nat)}{ls:List d9}{env:T d9}{a:Act}
theorem sG {α:Type}(p q:Nat)(x y:α):bi (Nat.beq p q) x y=if p=q then x else y:=by by_cases h:p=q;subst h;rw [aat,if_pos rfl];rfl;rw [show Nat.beq p q=false from aaB.2 λe=>h (aP e),if_neg h];rfl
theorem M6 {l:List d9}{v:d9}(h:X0 n l)(a:v∈l):v.lt n:=bB.1 h v a
def xD (sz:Option Nat)(l:List d9)(o:Nat):Option d9:=match sz with
 | none=>l[o]?
 | some k=>ob (takeN k (l.drop o)) λr=>some (.agg r)
theorem Cq {t:TypeId}{c:Option Nat}(f:partT P t=some c){l:List d9}(b:X0 n l)(o:Nat){v:d9}
  (a:xD c l o=some v):
  v.lt n∧∀w,(part t (o9 ι l).toArray o).run P w=.ok (l7 ι v) w:=by
 rcases Ck f with⟨rfl,ha,k,hk⟩ | ⟨k,rfl,ha,hk⟩;simp only [xD] at a;refine⟨M6 b (U9 a),λw=>?_⟩;simp [part,pG ha,V4,a];simp only [xD] at a;obtain⟨r,d,e⟩:=z8 a;cases e;obtain⟨rfl,_⟩:=jF _ _ _ d;refine⟨bB.2 λv a=>M6 b (adH (aeI a)),λw=>?_⟩;simp [part,pG ha,run_sizeOf hk,l7,ak,ajZ,akb]
theorem Fw (s:St P ι n slots done ls env a.tmps){x:Option Operand}{o:Option N9}(h:cOpt P slots done x=some o):
  (x=none∧o=none)∨∃y z,x=some y∧o=some z∧a.eval y=l7 ι (D8 z ls env):=by
 cases x with
 | none=>simp only [cOpt,gB] at h;exact .inl ⟨rfl,h.symm⟩
 | some y=>
  simp only [cOpt] at h;cases hy:J7 P slots done y with
  | none=>simp [hy] at h
  | some z=>simp only [hy,gB] at h;exact .inr ⟨y,z,rfl,h.symm,(y9 s hy).1⟩
theorem qz (s:St P ι n slots done ls env a.tmps){lo u:Option Operand}{p j:Option N9}(v:cOpt P slots done lo=some p)(t:cOpt P slots done u=some j)
  {β:Type} {k:Nat->Nat->Option β} {d:Nat} {r:β} (h:dJ (jC p) 0 ls env (λl=>dJ (jC j) d ls env λh=>k l h)=some r):
  ∃l h,k l h=some r∧(u=none->h=d)∧(lo=none->l=0)∧
   (∀(isSlice:Bool) (len cap:Nat) (w:World),len=d->l<=h->h<=cap->(Instr.sliceBounds isSlice len cap (lo.map a.eval) (u.map a.eval) none).run P w=.ok (l,h,cap) w):=by
 rcases Fw s v with⟨rfl,rfl⟩ | ⟨y,z,rfl,rfl,hy⟩<;>rcases Fw s t with⟨rfl,rfl⟩ | ⟨y',z',rfl,rfl,hy'⟩
 exact⟨0,d,h,λ_=>rfl,λ_=>rfl,λo len cap w g _ _=>by subst g;simp [Instr.sliceBounds]⟩;obtain⟨i,m,b,f⟩:=dM h;refine⟨0,m,f,(by simp),(by simp),λo len cap w g c e=>?_⟩;have b:D8 z' ls env=.int i (m:Int):=b;simp only [aav,aeK,hy',b,l7,Instr.sliceBounds,Instr.sliceBound,asIntOf];cases o<;>simp [e]
 obtain⟨i,m,b,f⟩:=dM h;refine⟨m,d,f,(by simp),(by simp),λo len cap w g c e=>?_⟩;have b:D8 z ls env=.int i (m:Int):=b;subst g;simp only [aav,aeK,hy,b,l7,Instr.sliceBounds,Instr.sliceBound,asIntOf];simp [c];obtain⟨i,m,b,f⟩:=dM h;obtain⟨B,x,q,A⟩:=dM f;refine⟨m,x,A,(by simp),(by simp),λo len cap w g c e=>?_⟩;have b:D8 z ls env=.int i (m:Int):=b;have q:D8 z' ls env=.int B (x:Int):=q;simp only [aav,hy,b,hy',q,l7,Instr.sliceBounds,Instr.sliceBound,asIntOf];cases o<;>simp [c,e]
theorem uW {t e:TypeId}{es:Nat}(c:P.underlying t=some (.slice e))(hs:V5 P e=some es)(a:Addr)(len cap:Nat)(k:IntKind)(i:Nat)(b:i<len)(w:World):
  (Instr.indexAt t (.slice (some a) len cap) (.int k (i:Int))).run P w=.ok (.pointer (some (a.add (i*es)))) w:=by
 simp [Instr.indexAt,asIntOf,run_underlying c,run_sizeOf hs,b]
theorem EH {t e:TypeId}{es len:Nat}(c:P.underlying t=some (.array len e))(hs:V5 P e=some es)(a:Addr)(k:IntKind)(i:Nat)(b:i<len)(w:World):
  (Instr.indexAt t (.pointer (some a)) (.int k (i:Int))).run P w=.ok (.pointer (some (a.add (i*es)))) w:=by
 simp [Instr.indexAt,asIntOf,run_underlying c,run_sizeOf hs,b,Instr.sureAddr]
theorem Ki (a:Bool):∀(ys:List d9) (x v:d9),X0 n ys->x.lt n->wY a ys x=some v->v.lt n∧
  ∀w,((o9 ι ys).foldlM (if a then Builtin.max2 else Builtin.min2) (l7 ι x)).run P w=.ok (l7 ι v) w:=by
 intro ys;induction ys with
 | nil=>intro x v _ d h;cases h;exact⟨d,λw=>by simp [o9]⟩
 | cons y ys ih=>
  intro x v c d h;have h:ob (mm2 a x y) (λz=>wY a ys z)=some v:=h;obtain⟨z,b,j⟩:=z8 h;simp only [mm2] at b;obtain⟨k,p,e,b⟩:=iW b;obtain⟨l,q,f,b⟩:=iW b;cases b;obtain⟨g,i⟩:=ih _ v c.2 (by simp [d9.lt]) j;refine⟨g,λw=>?_⟩;subst e;subst f;simp only [o9,List.foldlM_cons,J3,l7];have:((if a=true then Builtin.max2 else Builtin.min2) (.int k p) (.int l q)).run P w=.ok (.int k (bi a (bi (nP p q) q p) (bi (nP q p) q p))) w:=by cases a;simp only [aau,if_false,Builtin.min2,Y2,O6,gF];by_cases hlt:q<p;simp [hlt];simp [hlt];simp only [if_true,Builtin.max2,Y2,U0,gF];by_cases hlt:p<q;simp [hlt];simp [hlt]
  rw [this];exact i w
end
section
variable {P:Program}{G:Mem}{ι:H6}{n:Nm}{slots:List Nat}{done:List (Option Nat)}{ls:List d9}{env:T d9}{a:Act}
theorem V8 {x y:Sn}(h:(pure (wR.p x):Option wR)=some (.p y)):x=y:=by cases h;rfl
theorem QA {f:FuncId}{a:Func}(h:P.funcs[f]?=some a)(hb:a.body.isNone=true)(b:a.name= "internal/abi.NoEscape")(i:(Extern.findNext a).isNone=true)(v:Value)(w:World):
  (callFunc f #[v]).run P w=.ok (.value v) w:=by
 have c:Extern.allGenericRows.lookup "internal/abi.NoEscape"=none:=by kernel_rfl
 have d:Extern.allTypedRows.lookup "internal/abi.NoEscape"=none:=by kernel_rfl
 have e:Extern.allRows.lookup "internal/abi.NoEscape"=some Extern.AbiNoEscape.same:=by kernel_rfl
 have g:Extern.find a=some Extern.AbiNoEscape.same:=by unfold Extern.find;simp only [b,c,d,e];rfl
 rw [run_callFunc_extern h (by rw [b];decide) hb (by simpa using i) g];rfl
set_option maxHeartbeats 1000000 in
theorem qA (s:St P ι n slots done ls env a.tmps){I:Op}{S:Sn}(h:dY P slots done I=some (.p S)){v:d9}(F:lX S ls env=some v):
  v.lt n∧Gives P a.eval I (l7 ι v):=by
 cases I with
 | move x=>obtain⟨x',A,h⟩:=bind_eq h;obtain rfl:=V8 h;cases F;obtain⟨B,E⟩:=y9 s A;exact⟨E,λo C w=>by simp [execOp,C,B]⟩
 | assign x=>obtain⟨x',A,h⟩:=bind_eq h;obtain rfl:=V8 h;cases F;obtain⟨B,E⟩:=y9 s A;exact⟨E,λo C w=>by simp [execOp,C,B]⟩
 | pick c x y=>
  obtain⟨c',hc,h⟩:=bind_eq h;obtain⟨x',A,h⟩:=bind_eq h;obtain⟨y',hy,h⟩:=bind_eq h;obtain rfl:=V8 h;obtain⟨b,d,D⟩:=pI F;have d:D8 c' ls env=.bool b:=d;obtain⟨B,_⟩:=y9 s hc;obtain⟨E,ac⟩:=y9 s A;obtain⟨V,ad⟩:=y9 s hy;rw [d] at B;cases b with
  | true=>cases D;exact⟨ac,λo C w=>by simp [execOp,C,B,E,l7,asBool]⟩
  | false=>cases D;exact⟨ad,λo C w=>by simp [execOp,C,B,V,l7,asBool]⟩
 | build t parts=>obtain⟨zero,ps,e,hb⟩:=Kh s (show vS P slots done t parts.toList=some (.p S) from h);cases e;exact hb v F
 | nilCheck x=>
  obtain⟨x',A,h⟩:=bind_eq h;obtain rfl:=V8 h;obtain⟨B,E⟩:=y9 s A;have F:yM (D8 x' ls env)=some v:=F;generalize D8 x' ls env=u at *;have:v=u∧∀o:Oper,o.op=.nilCheck x->∀w,(execOp a.eval o).run P w=.ok (.value (l7 ι u)) w:=by
   cases u<;>simp only [yM,gB,reduceCtorEq] at F<;>try (refine⟨F.symm,λo C w=>?_⟩;simp [execOp,C,B,l7];done)
   rename_i fn p q;cases fn<;>simp only [gB,reduceCtorEq] at F
   refine⟨F.symm,λo C w=>?_⟩;simp [execOp,C,B,l7,gZ]
  obtain⟨rfl,D⟩:=this;exact⟨E,D⟩
 | binOp I t x y yt=>
  simp only [dY] at h;by_cases d:I=.eql∨I=.neq
  ·have O:∃k x' y',Tt P (uU x||uU y) t=some k∧J7 P slots done x=some x'∧J7 P slots done y=some y'∧
     ((k=.prim .i∨k=.prim .s)∧S=.ib I x' y'∨(k≠.prim .i∧k≠.prim .s)∧S=.eq (decide (I=.neq)) k x' y'):=by
    rcases d with rfl | rfl <;>
    ·simp only at h;obtain⟨k,K,h⟩:=bind_eq h;cases k with
     | prim p=>
      cases p <;>
      ·simp only at h;obtain⟨x',A,h⟩:=bind_eq h;obtain⟨y',hy,h⟩:=bind_eq h;have:=V8 h;exact⟨_,x',y',K,A,hy,by simp [this]⟩
     | _=>simp only at h;obtain⟨x',A,h⟩:=bind_eq h;obtain⟨y',hy,h⟩:=bind_eq h;have:=V8 h;exact⟨_,x',y',K,A,hy,by simp [this]⟩
   obtain⟨k,x',y',K,A,hy,O⟩:=O;obtain⟨B,_⟩:=y9 s A;obtain⟨E,_⟩:=y9 s hy;rcases O with⟨_,rfl⟩ | ⟨⟨hk1,hk2⟩,rfl⟩;have a0:I≠.shl:=by rcases d with rfl | rfl<;>simp
   have a1:I≠.shr:=by rcases d with rfl | rfl<;>simp
   have F:AP (GL I) (GN I) (D8 x' ls env) (D8 y' ls env)=some v:=by rcases d with rfl | rfl<;>exact F
   refine⟨(qy (P:=P) (ι:=ι) a0 a1 F t default).2,pJ (λw=>?_) (λw=>by rw [B,E];exact (qy (n:=n) a0 a1 F t w).1)⟩;rw [B,E];rcases Qw F with⟨k,p,W⟩ | ⟨p,W⟩<;>rw [W]<;>exact qx (by simp [l7]) (by simp [l7])
   ·have F:∃r,kL k (D8 x' ls env) (D8 y' ls env)=some r∧v=.bool (if I=.neq then !r else r):=by
     rcases d with rfl | rfl <;>
     ·obtain⟨r,d,D⟩:=z8 F;cases D;exact⟨r,d,rfl⟩
    obtain⟨r,hr,rfl⟩:=F;refine⟨by simp [d9.lt],pJ (λw=>?_) (λw=>?_)⟩
    ·rw [B,E];cases k with
     | prim p=>
      cases p with
      | b=>obtain⟨p,q,H,Q,_⟩:=eX hr;rw [H,Q];exact qx (by simp [l7]) (by simp [l7])
      | i=>exact absurd rfl hk1
      | s=>exact absurd rfl hk2
     | flat ks=>
      obtain⟨l,H,Q⟩:=dh hr;obtain⟨m,h5,h6⟩:=dh Q;rw [H,h5];refine Kg ?_;rcases (vW K).symm with K | K;obtain⟨_,_,_,_,_,_,h7,_⟩:=yX K;exact h7;simp only [Tq] at K;split at K<;>first | (simp at K;done) | (split at K<;>simp at K;done) | skip
      split at K;split at K;assumption;cases K;cases K
     | iface=>
      have hc:uU x=true∨uU y=true:=by
       rcases (vW K).symm with K | K;obtain⟨_,_,_,_,_,_,_,h7⟩:=yX K;cases h7;simp only [Tq] at K;split at K<;>first | (simp at K;done) | (split at K<;>simp at K;done) | (split at K<;>first | (split at K<;>simp at K;done) | (simp at K;done)) | skip
       split at K;rename_i hc;simpa using hc;simp at K
      exact qx (λp q=>by cases A:D8 x' ls env<;>simp_all [kL,lF,l7]) (hc.elim (λh=>.inr (.inr (.inl h))) (λh=>.inr (.inr (.inr h))))
     | _=>refine qx (λp q=>?_) (.inl ?_)<;>cases A:D8 x' ls env<;>simp_all [kL,wV,wW,JD,BO,l7]
    rw [B,E];have:=Qz K hk1 hk2 (ι:=ι) hr w;rcases d with rfl | rfl;simpa [l7] using this.1;simpa [l7] using this.2
  ·have J:I≠.eql∧I≠.neq:=⟨λe=>d (.inl e),λe=>d (.inr e)⟩;have O:∃x' y',J7 P slots done x=some x'∧J7 P slots done y=some y'∧S=.ib I x' y':=by
    cases I<;>first
     | exact absurd rfl J.1
     | exact absurd rfl J.2
     | (simp only at h
        obtain⟨x',A,h⟩:=bind_eq h;obtain⟨y',hy,h⟩:=bind_eq h;exact⟨x',y',A,hy,(V8 h).symm⟩)
   obtain⟨x',y',A,hy,rfl⟩:=O;obtain⟨B,_⟩:=y9 s A;obtain⟨E,_⟩:=y9 s hy;by_cases a0:I=.shl;subst a0;refine⟨(Fq (P:=P) (ι:=ι) F t default).2,pJ (λw=>kP (by simp) (by simp)) (λw=>by rw [B,E];exact (Fq (n:=n) F t w).1)⟩;by_cases a1:I=.shr;subst a1;refine⟨(Fu (P:=P) (ι:=ι) F t default).2,pJ (λw=>kP (by simp) (by simp)) (λw=>by rw [B,E];exact (Fu (n:=n) F t w).1)⟩;have F:AP (GL I) (GN I) (D8 x' ls env) (D8 y' ls env)=some v:=by cases I<;>first | exact absurd rfl a0 | exact absurd rfl a1 | exact F
   exact⟨(qy (P:=P) (ι:=ι) a0 a1 F t default).2,pJ (λw=>kP J.1 J.2) (λw=>by rw [B,E];exact (qy (n:=n) a0 a1 F t w).1)⟩
 | unOp I t x=>
  have O:∃x',J7 P slots done x=some x'∧(I=.not∧S=.not x'∨I=.neg∧S=.neg x'∨I=.xor∧S=.inv x'):=by
   simp only [dY] at h;cases I<;>simp only at h<;>first
    | (cases h;done)
    | (obtain⟨x',A,h⟩:=bind_eq h
       exact⟨x',A,by simp [V8 h]⟩)
  obtain⟨x',A,O⟩:=O;obtain⟨B,_⟩:=y9 s A;rcases O with⟨rfl,rfl⟩ | ⟨rfl,rfl⟩ | ⟨rfl,rfl⟩;obtain⟨b,d,D⟩:=pI F;have d:D8 x' ls env=.bool b:=d;cases D;exact⟨by simp [d9.lt],λo C w=>by simp [execOp,C,B,d,l7,Op.unary]⟩;obtain⟨k,m,d,D⟩:=iW F;have d:D8 x' ls env=.int k m:=d;cases D;exact⟨by simp [d9.lt],λo C w=>by simp [execOp,C,B,d,l7,Op.unary,Op.intArith,sw]⟩;obtain⟨k,m,d,D⟩:=iW F;have d:D8 x' ls env=.int k m:=d;cases D;exact⟨by simp [d9.lt,wT],λo C w=>by cases K:k.signed<;>simp [execOp,C,B,d,l7,Op.unary,Op.intBits,wT,K]⟩
 | convert src dst x=>
  simp only [dY] at h;obtain⟨us,ag,h⟩:=bind_eq h;obtain⟨ud,af,h⟩:=bind_eq h;have O:∃x',J7 P slots done x=some x'∧∃j k,us=.int j∧ud=.int k∧S=.conv k x':=by split at h;obtain⟨x',A,h⟩:=bind_eq h;exact⟨x',A,_,_,rfl,rfl,(V8 h).symm⟩;obtain⟨ue,_,h⟩:=bind_eq h;split at h;obtain⟨x',A,h⟩:=bind_eq h;cases h;cases h;obtain⟨ue,_,h⟩:=bind_eq h;split at h;obtain⟨x',A,h⟩:=bind_eq h;cases h;cases h;obtain⟨_,_,h⟩:=bind_eq h;split at h;cases h;obtain⟨_,_,h⟩:=bind_eq h;cases h;obtain⟨_,_,h⟩:=bind_eq h;split at h;cases h;obtain⟨_,_,h⟩:=bind_eq h;cases h;cases h
  obtain⟨x',A,j,k,rfl,rfl,rfl⟩:=O;obtain⟨B,E⟩:=y9 s A;obtain⟨k',m,d,D⟩:=iW F;have d:D8 x' ls env=.int k' m:=d;cases D;exact⟨by simp [d9.lt],λo C w=>by simp [execOp,C,convert,run_underlying ag,run_underlying af,B,d,l7,Conv.intToInt,sw]⟩
 | makeInterface t x=>
  simp only [dY] at h;obtain⟨u,L,h⟩:=bind_eq h;have O:∃x',J7 P slots done x=some x'∧S=.mkIface t x'∧∀ms,u≠.interface ms:=by split at h;cases h;rename_i J;obtain⟨x',A,h⟩:=bind_eq h;exact⟨x',A,(V8 h).symm,λms e=>J ms e⟩
  obtain⟨x',A,rfl,J⟩:=O;obtain⟨B,E⟩:=y9 s A;cases F;refine⟨by simpa [d9.lt] using E,λo C w=>?_⟩;simp only [execOp,C,Instr.makeInterface,J3,run_underlying L,gM,B];cases u<;>first | exact absurd rfl (J _) | simp [l7]
 | typeAssert x xt t ok=>
  simp only [dY] at h;obtain⟨u,L,h⟩:=bind_eq h;have O:∃z x',zeroV P t=some z∧J7 P slots done x=some x'∧S=.assert t z ok x'∧∀ms,u≠.interface ms:=by split at h;cases h;rename_i J;obtain⟨z,hz,h⟩:=bind_eq h;obtain⟨x',A,h⟩:=bind_eq h;exact⟨z,x',hz,A,(V8 h).symm,λms e=>J ms e⟩
  obtain⟨z,x',hz,A,rfl,J⟩:=O;obtain⟨B,E⟩:=y9 s A;have G:OB t z ok (D8 x' ls env)=some v:=F;clear F;generalize D8 x' ls env=y at *;cases y with
  | nilIface=>
   cases ok with
   | false=>cases G
   | true=>have G:some (d9.tuple [z,.bool false])=some v:=G;cases G;refine⟨⟨(lZ (w:=default) hz ι).2 n,trivial,trivial⟩,λo C w=>?_⟩;have a8:=(lZ (w:=w) hz ι).1;simp only [execOp,C,Instr.typeAssert,J3,run_underlying L,gM,B,l7];cases u<;>first | exact absurd rfl (J _) | simp [a8,o9,l7]
  | iface t' y=>
   have G:bi (Nat.beq t' t) (some (bi ok (.tuple [y,.bool true]) y)) (bi ok (some (.tuple [z,.bool false])) none)=some v:=G;cases hb:Nat.beq t' t with
   | true=>
    have he:=aP hb;rw [hb] at G;have G:some (bi ok (.tuple [y,.bool true]) y)=some v:=G;cases ok with
    | false=>have G:some y=some v:=G;cases G;refine⟨E,λo C w=>?_⟩;simp only [execOp,C,Instr.typeAssert,J3,run_underlying L,gM,B,l7];cases u<;>first | exact absurd rfl (J _) | simp [he]
    | true=>have G:some (d9.tuple [y,.bool true])=some v:=G;cases G;refine⟨⟨E,trivial,trivial⟩,λo C w=>?_⟩;simp only [execOp,C,Instr.typeAssert,J3,run_underlying L,gM,B,l7];cases u<;>first | exact absurd rfl (J _) | simp [he,o9,l7]
   | false=>
    have he:t'≠t:=Nat.ne_of_beq_eq_false hb;rw [hb] at G;cases ok with
    | false=>cases G
    | true=>have G:some (d9.tuple [z,.bool false])=some v:=G;cases G;refine⟨⟨(lZ (w:=default) hz ι).2 n,trivial,trivial⟩,λo C w=>?_⟩;have a8:=(lZ (w:=w) hz ι).1;simp only [execOp,C,Instr.typeAssert,J3,run_underlying L,gM,B,l7];cases u<;>first | exact absurd rfl (J _) | simp [a8,he,o9,l7]
  | _=>cases G
 | makeFunc fn f c=>
  simp only [dY] at h;have O:∃g f' c',fn=.func g∧iE P slots done f.toList=some f'∧iE P slots done c.toList=some c'∧S=.mkFunc (.func g) f' c':=by split at h;obtain⟨f',W,h⟩:=bind_eq h;obtain⟨c',hc,h⟩:=bind_eq h;exact⟨_,f',c',rfl,W,hc,(V8 h).symm⟩;cases h
  obtain⟨g,f',c',rfl,W,hc,rfl⟩:=O;cases F;obtain⟨B,E⟩:=jH s W;obtain⟨V,e4⟩:=jH s hc;refine⟨⟨trivial,E,e4⟩,λo C w=>?_⟩;have q1:f.map a.eval=(o9 ι (evs (dU f') ls env)).toArray:=by apply ajH.1;rw [ajB];exact B
  have q2:c.map a.eval=(o9 ι (evs (dU c') ls env)).toArray:=by apply ajH.1;rw [ajB];exact V
  simp [execOp,C,Instr.makeFunc,q1,q2,l7,gZ]
 | slice t x lo hi mx=>
  simp only [dY] at h;cases mx with
  | some _=>simp at h
  | none=>
  simp only at h;obtain⟨u,L,h⟩:=bind_eq h;split at h;obtain⟨x',A,h⟩:=bind_eq h;obtain⟨ab,a5,h⟩:=bind_eq h;obtain⟨a9,a4,h⟩:=bind_eq h;obtain rfl:=V8 h;obtain⟨B,E⟩:=y9 s A;obtain⟨str,d,D⟩:=fE F;have d:D8 x' ls env=.str str:=d;obtain⟨l,h,H,_,_,Q⟩:=qz s a5 a4 D;obtain⟨Z,H⟩:=D5 H;obtain⟨g2,H⟩:=D5 H;obtain⟨r,h5,h6⟩:=z8 H;cases h6;have Z:=K9 Z;have g2:=K9 g2;simp only [I4,ku] at *;obtain⟨rfl,_⟩:=jF _ _ _ h5;refine⟨by simp [d9.lt],λo C w=>?_⟩;simp only [execOp,C,Instr.sliceAt,J3,run_underlying L,gM,Instr.slice,B,d,l7];simp only [aeK,Option.isSome_none,aau,if_false,J3,mO,Y2,gM];rw [Q false str.length str.length w rfl Z g2];simp only [gM,Y2];congr 3;apply ByteArray.ext;simp [ByteArray.data_extract,aeY];obtain⟨es,_,h⟩:=bind_eq h;obtain⟨x',A,h⟩:=bind_eq h;obtain⟨ab,a5,h⟩:=bind_eq h;obtain⟨a9,a4,h⟩:=bind_eq h;cases h;rename_i n' e';obtain⟨es,U,h⟩:=bind_eq h;obtain⟨x',A,h⟩:=bind_eq h;obtain⟨ab,a5,h⟩:=bind_eq h;obtain⟨a9,a4,h⟩:=bind_eq h;obtain rfl:=V8 h;obtain⟨B,E⟩:=y9 s A;obtain⟨i,o,d,D⟩:=cZ F;have d:D8 x' ls env=.ptr i o:=d;rw [d] at B E;obtain⟨l,h,H,_,_,Q⟩:=qz s a5 a4 D;obtain⟨Z,H⟩:=D5 H;obtain⟨g2,H⟩:=D5 H;cases H;have Z:=K9 Z;have g2:=K9 g2;refine⟨E,λI C w=>?_⟩;simp only [execOp,C,Instr.sliceAt,J3,run_underlying L,gM,B,l7,Instr.sureAddr,Y2,aeK];rw [Q false _ _ w rfl Z g2];simp only [gM,J3,run_sizeOf U,Y2];rw [sG,H6.mM];by_cases hl:n'=l;rw [if_pos hl,if_pos hl.symm];rfl;rw [if_neg hl,if_neg (λe=>hl e.symm)];rfl;cases h
 | fieldAddr t x f=>
  simp only [dY] at h;obtain⟨u,L,h⟩:=bind_eq h;have O:∃fs Y x' X,u=.struct fs∧fs[f]?=some Y∧V5 P Y.type=some X∧X≠0∧J7 P slots done x=some x'∧S=.fAddr Y.offset x':=by split at h;obtain⟨Y,W,h⟩:=bind_eq h;obtain⟨X,R,h⟩:=bind_eq h;split at h;cases h;obtain⟨x',A,h⟩:=bind_eq h;exact⟨_,Y,x',X,rfl,W,R,by assumption,A,(V8 h).symm⟩;cases h
  obtain⟨fs,Y,x',X,rfl,W,R,J,A,rfl⟩:=O;obtain⟨B,E⟩:=y9 s A;obtain⟨i,o,d,D⟩:=cZ F;have d:D8 x' ls env=.ptr i o:=d;cases D;rw [d] at B E;refine⟨E,λI C w=>?_⟩;simp only [execOp,C,Instr.fieldAt,J3,run_underlying L,gM,W,B,l7,Instr.sureAddr,Y2,fieldPlace,run_sizeOf R,if_neg J,H6.mM];rfl
 | field t x f=>
  simp only [dY] at h;obtain⟨u,L,h⟩:=bind_eq h;have O:∃fs Y x' X,u=.struct fs∧fs[f]?=some Y∧partT P Y.type=some X∧J7 P slots done x=some x'∧S=.fld Y.offset X x':=by split at h;obtain⟨Y,W,h⟩:=bind_eq h;obtain⟨X,R,h⟩:=bind_eq h;obtain⟨x',A,h⟩:=bind_eq h;exact⟨_,Y,x',X,rfl,W,R,A,(V8 h).symm⟩;cases h
  obtain⟨fs,Y,x',X,rfl,W,R,A,rfl⟩:=O;obtain⟨B,E⟩:=y9 s A;have a6:∃l,D8 x' ls env=.agg l∧xD X l Y.offset=some v:=by
   cases X with
   | none=>obtain⟨l,d,D⟩:=dh F;exact⟨l,d,by simpa [xD] using D⟩
   | some k=>obtain⟨l,d,D⟩:=dh F;exact⟨l,d,by simpa [xD] using D⟩
  obtain⟨l,d,D⟩:=a6;rw [d] at B E;obtain⟨Z,g2⟩:=Cq (ι:=ι) R (show X0 n l from E) Y.offset D;refine⟨Z,λI C w=>?_⟩;simp [execOp,C,Instr.field,run_underlying L,W,B,l7,asAgg,g2]
 | indexAddr t x i=>simp only [dY] at h;obtain⟨u,L,h⟩:=bind_eq h;split at h;obtain⟨es,U,h⟩:=bind_eq h;obtain⟨x',A,h⟩:=bind_eq h;obtain⟨i',hi,h⟩:=bind_eq h;obtain rfl:=V8 h;obtain⟨B,E⟩:=y9 s A;obtain⟨V,_⟩:=y9 s hi;rcases qw F with⟨_,D⟩ | ⟨id,off,N,cap,d,D⟩ | ⟨id,off,N,es',d,D⟩;cases D;obtain⟨k,m,H,M,Q⟩:=idx_eq D;cases Q;have d:D8 x' ls env=.slice id off N cap:=d;have H:D8 i' ls env=.int k (m:Int):=H;rw [d] at B E;refine⟨E,λI C w=>?_⟩;simp only [execOp,C,J3,B,V,H,l7,uW L U _ _ _ _ _ M,H6.mM,gM,Y2];rfl;obtain⟨k,m,H,M,Q⟩:=idx_eq D;cases Q;have d:D8 x' ls env=.sliceU id off N es':=d;have H:D8 i' ls env=.int k (m:Int):=H;rw [d] at B E;refine⟨E.1,λI C w=>?_⟩;simp only [execOp,C,J3,B,V,H,l7,uW L U _ _ _ _ _ M,H6.mM,gM,Y2];rfl;obtain⟨es,U,h⟩:=bind_eq h;obtain⟨x',A,h⟩:=bind_eq h;obtain⟨i',hi,h⟩:=bind_eq h;obtain rfl:=V8 h;obtain⟨B,E⟩:=y9 s A;obtain⟨V,_⟩:=y9 s hi;obtain⟨id,off,d,D⟩:=cZ F;obtain⟨k,m,H,M,Q⟩:=idx_eq D;cases Q;have d:D8 x' ls env=.ptr id off:=d;have H:D8 i' ls env=.int k (m:Int):=H;rw [d] at B E;refine⟨E,λI C w=>?_⟩;simp only [execOp,C,J3,B,V,H,l7,EH L U _ _ _ M,H6.mM,gM,Y2];rfl;cases h
 | index t x i=>
  simp only [dY] at h;obtain⟨u,L,h⟩:=bind_eq h;split at h;obtain⟨x',A,h⟩:=bind_eq h;obtain⟨i',hi,h⟩:=bind_eq h;obtain rfl:=V8 h;obtain⟨B,E⟩:=y9 s A;obtain⟨V,_⟩:=y9 s hi;obtain⟨str,d,D⟩:=fE F;obtain⟨k,m,H,Q⟩:=dM D;obtain⟨b,h5,h6⟩:=z8 Q;cases h6;have d:D8 x' ls env=.str str:=d;have H:D8 i' ls env=.int k (m:Int):=H;rw [gW] at h5;refine⟨by simp [d9.lt],λI C w=>?_⟩;obtain⟨M,hb⟩:=gq.1 h5;have aa:(⟨str.toArray⟩:ByteArray)[m]?=some b:=by rw [ByteArray.getElem?_lt' _ _ (by rw [mO];exact M)];congr 1
  simp only [execOp,C,Instr.index,J3,run_underlying L,B,d,V,H,l7,asIntOf,Y2,gM];rw [if_pos (Int.natCast_nonneg m),aiC,aa];rfl;rename_i N ai;obtain⟨es,U,h⟩:=bind_eq h;obtain⟨X,R,h⟩:=bind_eq h;obtain⟨x',A,h⟩:=bind_eq h;obtain⟨i',hi,h⟩:=bind_eq h;obtain rfl:=V8 h;obtain⟨B,E⟩:=y9 s A;obtain⟨V,_⟩:=y9 s hi;have a6:∃l k,∃m:Nat,D8 x' ls env=.agg l∧D8 i' ls env=.int k (m:Int)∧m<N∧xD X l (m*es)=some v:=by
   cases X with
   | none=>obtain⟨l,d,D⟩:=dh F;obtain⟨k,m,H,M,Q⟩:=idx_eq D;exact⟨l,k,m,d,H,M,by simpa [xD] using Q⟩
   | some k=>obtain⟨l,d,D⟩:=dh F;obtain⟨k',m,H,M,Q⟩:=idx_eq D;exact⟨l,k',m,d,H,M,by simpa [xD] using Q⟩
  obtain⟨l,k,m,d,H,M,D⟩:=a6;rw [d] at B E;obtain⟨Z,g2⟩:=Cq (ι:=ι) R (show X0 n l from E) (m*es) D;refine⟨Z,λI C w=>?_⟩;simp [execOp,C,Instr.index,run_underlying L,run_sizeOf U,B,V,H,l7,asIntOf,M,g2];cases h
 | extract x i=>simp only [dY] at h;obtain⟨x',A,h⟩:=bind_eq h;obtain rfl:=V8 h;obtain⟨B,E⟩:=y9 s A;obtain⟨l,d,D⟩:=Xo F;have d:D8 x' ls env=.tuple l:=d;rw [gW] at D;rw [d] at B E;refine⟨M6 (show X0 n l from E) (U9 D),λI C w=>?_⟩;simp [execOp,C,Instr.extract,B,l7,V4,D]
 | call c=>
  obtain⟨a3,T,ts⟩:=c;simp only [dY] at h;cases a3 with
  | invoke _ _=>cases h
  | value f=>
   cases f with
   | func f=>
    obtain⟨fn,ae,h⟩:=bind_eq h;split at h;obtain⟨os,_,h⟩:=bind_eq h;cases h;split at h;rename_i a2;obtain⟨T⟩:=T;simp only [gI,beq_iff_eq] at a2;match T,h with
    | [x],h=>obtain⟨x',A,h⟩:=bind_eq h;obtain rfl:=V8 h;cases F;obtain⟨B,E⟩:=y9 s A;refine⟨E,λo C w=>?_⟩;have:=QA ae a2.1.1 a2.1.2 a2.2 (l7 ι (D8 x' ls env)) w;have W:a.eval (.func f)=.func (.func f) #[] #[]:=rfl;simp [execOp,C,resolve,invoke,W,Deferred.ofValue,this,B]
    | [],h=>cases h
    | _ :: _ :: _,h=>cases h
    cases h
   | _=>obtain⟨x',_,h⟩:=bind_eq h;obtain⟨os,_,h⟩:=bind_eq h;cases h
  | builtin b=>
   obtain⟨T⟩:=T;obtain⟨ts⟩:=ts;simp only [rW] at h;split at h
   ·
    rename_i t x;obtain⟨u,L,h⟩:=bind_eq h;have O:∃x',(J7 P slots done x=some x'∧u=.string∧S=.lenS x')∨(J7 P slots done x=some x'∧(∃e,u=.slice e)∧S=.len x')∨∃k e,u=.array k e∧S=.mov (.con (.int .i64 k)):=by split at h;obtain⟨x',A,h⟩:=bind_eq h;exact⟨x',.inl ⟨A,rfl,(V8 h).symm⟩⟩;obtain⟨x',A,h⟩:=bind_eq h;exact⟨x',.inr (.inl ⟨A,⟨_,rfl⟩,(V8 h).symm⟩)⟩;exact⟨default,.inr (.inr ⟨_,_,rfl,(V8 h).symm⟩)⟩;obtain⟨x',A,h⟩:=bind_eq h;cases h;cases h
    obtain⟨x',⟨A,rfl,rfl⟩ | ⟨A,⟨e,rfl⟩,rfl⟩ | ⟨k,e,rfl,rfl⟩⟩:=O;obtain⟨B,_⟩:=y9 s A;obtain⟨str,d,D⟩:=fE F;have d:D8 x' ls env=.str str:=d;cases D;exact⟨by simp [d9.lt],λo C w=>by simp [execOp,C,resolve,invoke,builtin,Builtin.len_,run_underlying L,B,d,l7,goInt,mO]⟩;obtain⟨B,_⟩:=y9 s A;rcases qw F with⟨d,D⟩ | ⟨id,off,N,cap,d,D⟩ | ⟨id,off,N,cap,d,D⟩;have d:D8 x' ls env=.nilSlice:=d;cases D;exact⟨by simp [d9.lt],λo C w=>by simp [execOp,C,resolve,invoke,builtin,Builtin.len_,run_underlying L,B,d,l7,goInt]⟩;have d:D8 x' ls env=.slice id off N cap:=d;cases D;exact⟨by simp [d9.lt],λo C w=>by simp [execOp,C,resolve,invoke,builtin,Builtin.len_,run_underlying L,B,d,l7,goInt]⟩;have d:D8 x' ls env=.sliceU id off N cap:=d;cases D;exact⟨by simp [d9.lt],λo C w=>by simp [execOp,C,resolve,invoke,builtin,Builtin.len_,run_underlying L,B,d,l7,goInt]⟩;cases F;refine⟨by simp [D8,C9,d9.lt],λo C w=>?_⟩;simp [execOp,C,resolve,invoke,builtin,Builtin.len_,run_underlying L,D8,C9,l7,goInt]
   ·
    rename_i t x;obtain⟨u,L,h⟩:=bind_eq h;split at h;obtain⟨x',A,h⟩:=bind_eq h;obtain rfl:=V8 h;obtain⟨B,_⟩:=y9 s A;rcases qw F with⟨d,D⟩ | ⟨id,off,N,cap,d,D⟩ | ⟨_,_,_,_,_,D⟩;have d:D8 x' ls env=.nilSlice:=d;cases D;exact⟨by simp [d9.lt],λo C w=>by simp [execOp,C,resolve,invoke,builtin,Builtin.cap_,run_underlying L,B,d,l7,goInt]⟩;have d:D8 x' ls env=.slice id off N cap:=d;cases D;exact⟨by simp [d9.lt],λo C w=>by simp [execOp,C,resolve,invoke,builtin,Builtin.cap_,run_underlying L,B,d,l7,goInt]⟩;cases D;cases h
   ·obtain⟨u,L,h⟩:=bind_eq h;split at h
    ·obtain⟨_,_,h⟩:=bind_eq h;split at h;all_goals (repeat' (first | (cases h;done) | (obtain⟨_,_,h⟩:=bind_eq h)))
    cases h
   obtain⟨u,L,h⟩:=bind_eq h;split at h;obtain⟨_,_,h⟩:=bind_eq h;obtain⟨_,_,h⟩:=bind_eq h;obtain⟨_,_,h⟩:=bind_eq h;cases h;cases h;obtain⟨u,L,h⟩:=bind_eq h;split at h;obtain⟨_,_,h⟩:=bind_eq h;obtain⟨_,_,h⟩:=bind_eq h;cases h;cases h
   ·
    rename_i x xs;obtain⟨x',A,h⟩:=bind_eq h;obtain⟨ah,a7,h⟩:=bind_eq h;obtain rfl:=V8 h;obtain⟨B,E⟩:=y9 s A;obtain⟨V,e4⟩:=jH s a7;obtain⟨Z,g2⟩:=Ki (P:=P) (ι:=ι) true _ _ v e4 E F;refine⟨Z,λo C w=>?_⟩;have:=g2 w;simp only [if_true] at this;simp [execOp,C,resolve,invoke,builtin,Builtin.max_,B,V,this]
   rename_i x xs;obtain⟨x',A,h⟩:=bind_eq h;obtain⟨ah,a7,h⟩:=bind_eq h;obtain rfl:=V8 h;obtain⟨B,E⟩:=y9 s A;obtain⟨V,e4⟩:=jH s a7;obtain⟨Z,g2⟩:=Ki (P:=P) (ι:=ι) false _ _ v e4 E F;refine⟨Z,λo C w=>?_⟩;have:=g2 w;simp only [aau,if_false] at this;simp [execOp,C,resolve,invoke,builtin,Builtin.min_,B,V,this];cases h;obtain⟨u,L,h⟩:=bind_eq h;split at h;obtain⟨x',A,h⟩:=bind_eq h;cases h;cases h
   ·obtain⟨u,L,h⟩:=bind_eq h;repeat' (first | (cases h;done) | (obtain⟨_,_,h⟩:=bind_eq h) | split at h)
   cases h
 | alloc t=>simp only [dY] at h;split at h;all_goals (obtain⟨_,_,h⟩:=bind_eq h;cases h)
 | box t x=>simp only [dY] at h;split at h;obtain⟨_,_,h⟩:=bind_eq h;obtain⟨_,_,h⟩:=bind_eq h;cases h;obtain⟨_,_,h⟩:=bind_eq h;cases h
 | buildSlice t N parts=>simp only [dY] at h;obtain⟨_,_,h⟩:=bind_eq h;split at h;obtain⟨_,_,h⟩:=bind_eq h;obtain⟨_,_,h⟩:=bind_eq h;split at h;obtain⟨_,_,h⟩:=bind_eq h;cases h;cases h;cases h
 | insert t m k x=>simp only [dY] at h;obtain⟨_,_,h⟩:=bind_eq h;split at h;obtain⟨_,_,h⟩:=bind_eq h;obtain⟨_,_,h⟩:=bind_eq h;obtain⟨_,_,h⟩:=bind_eq h;obtain⟨_,_,h⟩:=bind_eq h;cases h;cases h
 | mapUpdate t m k x=>simp only [dY] at h;obtain⟨_,_,h⟩:=bind_eq h;split at h;obtain⟨_,_,h⟩:=bind_eq h;obtain⟨_,_,h⟩:=bind_eq h;obtain⟨_,_,h⟩:=bind_eq h;obtain⟨_,_,h⟩:=bind_eq h;cases h;cases h
 | load t x=>simp only [dY] at h;obtain⟨_,_,h⟩:=bind_eq h;obtain⟨_,_,h⟩:=bind_eq h;cases h
 | store t x y=>simp only [dY] at h;obtain⟨_,_,h⟩:=bind_eq h;obtain⟨_,_,h⟩:=bind_eq h;obtain⟨_,_,h⟩:=bind_eq h;cases h
 | makeMap t r=>simp only [dY] at h;repeat' (first | (cases h;done) | split at h)
 | makeSlice t l c=>simp only [dY] at h;obtain⟨_,_,h⟩:=bind_eq h;split at h;obtain⟨_,_,h⟩:=bind_eq h;obtain⟨_,_,h⟩:=bind_eq h;obtain⟨_,_,h⟩:=bind_eq h;obtain⟨_,_,h⟩:=bind_eq h;obtain⟨_,_,h⟩:=bind_eq h;cases h;cases h
 | lookup t x k ok=>simp only [dY] at h;obtain⟨_,_,h⟩:=bind_eq h;split at h;obtain⟨_,_,h⟩:=bind_eq h;obtain⟨_,_,h⟩:=bind_eq h;obtain⟨_,_,h⟩:=bind_eq h;obtain⟨_,_,h⟩:=bind_eq h;cases h;cases h
 | range t x=>simp only [dY] at h;obtain⟨_,_,h⟩:=bind_eq h;split at h;obtain⟨_,_,h⟩:=bind_eq h;cases h;obtain⟨_,_,h⟩:=bind_eq h;cases h;cases h
 | next it is=>cases is;simp only [dY] at h;obtain⟨_,_,h⟩:=bind_eq h;cases h;simp only [dY] at h;obtain⟨_,_,h⟩:=bind_eq h;cases h
 | entry it=>simp only [dY] at h;obtain⟨_,_,h⟩:=bind_eq h;cases h
 | panic x=>simp only [dY] at h;obtain⟨_,_,h⟩:=bind_eq h;cases h
 | defer c=>simp only [dY] at h;split at h;obtain⟨_,_,h⟩:=bind_eq h;obtain⟨_,_,h⟩:=bind_eq h;cases h;cases h
 | _=>simp only [dY] at h;cases h
end
end
end Go.AM
