/- A part of an evaluator for the model, proved sound: what it answers holds of the model; it speaks of every program, no condition. -/
import GoSem.Core.Code
import GoSem.Core.Program
import GoSem.Core.View
import GoSem.Core.World
import GoSem.Core.Utf8
import GoSem.Core.Region
import GoSem.Core.Layout
import GoSem.Op.Equal
import GoSem.Extern.Table
import Derived.CallsIn
import Derived.Laws.Sem
import GoSem.Dispatch
import Derived.Laws.Strings
import Derived.KernelRfl
import Derived.Laws.Externs
set_option linter.all false
namespace Go.AM
open Go
abbrev aA:=@Nat.le_trans
abbrev aP:=@List.mem_singleton
abbrev gI:=@Nat.lt_of_lt_of_le
abbrev q8:=@Nat.eq_of_beq_eq_true
abbrev q9:=@List.drop_zero
abbrev Hl:=@List.getElem?_eq_getElem
abbrev J2:=@Nat.le_refl
abbrev J3:=@List.getElem?_eq_some_iff
abbrev J4:=@Option.some.injEq
abbrev K9:=@Result.andThen_ok
abbrev Q5:=@Array.getElem?_eq_some_iff
abbrev U9:=@Bool.and_eq_true
abbrev Xb:=@List.take_of_length_le
abbrev Xd:=@Array.getD_eq_getD_getElem?
abbrev Xl:=@List.drop_eq_getElem_cons
abbrev X8:=@Sem.run_bind
abbrev Y1:=@List.length_cons
abbrev Y2:=@Nat.le_of_ble_eq_true
abbrev Y3:=@Nat.add_zero
abbrev Y4:=@Nat.ble_eq_true_of_le
abbrev Y5:=@Nat.blt_eq
abbrev Y6:=@List.mem_of_getElem?
abbrev Y7:=@Array.getElem?_setIfInBounds_ne
abbrev Y8:=@Option.some.inj
abbrev Z4:=@Array.getElem?_setIfInBounds_self_of_lt
abbrev Z5:=@List.length_append
abbrev Z6:=@List.getD_eq_getElem?_getD
abbrev Z7:=@List.map_cons
abbrev Z8:=@List.mem_cons_of_mem
abbrev Z9:=@List.mem_cons
abbrev aaS:=@Sem.run_pure
abbrev aaT:=@List.getElem?_append_left
abbrev aaW:=@List.length_map
abbrev aa1:=@Nat.mul_le_mul_right
abbrev aa2:=@Nat.zero_add
abbrev aa3:=@List.mem_append
abbrev aa4:=@Array.getElem?_eq_getElem
abbrev aa5:=@List.length_eq_zero_iff
abbrev aa6:=@Array.toArray_toList
abbrev aa7:=@List.getElem?_of_mem
abbrev abp:=@Nat.beq_refl
abbrev abq:=@List.getElem?_map
abbrev abr:=@List.getElem?_append_right
abbrev abt:=@Nat.mod_two_eq_zero_or_one
abbrev abu:=@List.take_succ_eq_append_getElem
abbrev abv:=@List.all_eq_true
abbrev abw:=@List.length_nil
abbrev abx:=@List.drop_length
abbrev aby:=@Bool.eq_false_iff
abbrev abz:=@List.drop_of_length_le
abbrev abA:=@Bool.false_eq_true
abbrev abB:=@Option.map_some
abbrev abC:=@Option.bind_eq_some_iff
abbrev abD:=@Option.map_eq_some_iff
abbrev abE:=@Bool.eq_iff_iff
abbrev abF:=@List.getElem?_cons_succ
abbrev abN:=@List.map_append
abbrev abU:=@List.mem_range
abbrev ab1:=@List.mem_map
abbrev ab8:=@Array.getElem?_replicate
abbrev ac1:=@Nat.succ_mul
abbrev ac2:=@List.mem_cons_self
abbrev ac4:=@List.mem_append_left
abbrev ac8:=@List.getElem_mem
abbrev ac9:=@List.length_eq_one_iff
abbrev adf:=@List.getElem?_inj
abbrev adg:=@List.mem_append_right
abbrev adh:=@List.getElem?_toArray
abbrev adi:=@Option.bind_some
abbrev adj:=@Array.ext_getElem?
abbrev adk:=@Nat.zero_mul
abbrev adl:=@Bool.true_and
abbrev adn:=@List.nil_append
abbrev ado:=@Nat.add_mul
abbrev adp:=@Nat.le_of_not_lt
abbrev adq:=@Nat.le_div_iff_mul_le
abbrev adr:=@Nat.mul_one
abbrev ads:=@List.nodup_cons
abbrev adt:=@Prod.ext_iff
abbrev adu:=@Nat.mul_comm
abbrev adv:=@List.mem_filter
abbrev adw:=@List.size_toArray
abbrev adE:=@List.eq_nil_of_length_eq_zero
abbrev ad1:=@List.length_pos_iff
abbrev ad2:=@Array.getElem?_eq_none
abbrev ad3:=@List.getElem?_take
abbrev ad4:=@List.map_map
abbrev ad5:=@Nat.lt_or_ge
abbrev ad6:=@List.append_nil
abbrev aeg:=@List.cons.injEq
abbrev aeE:=@List.getElem?_eq_none
abbrev aeF:=@Nat.add_assoc
abbrev aeG:=@List.sum_cons
abbrev aeI:=@List.mem_of_mem_take
abbrev aeJ:=@Bool.or_eq_false_iff
abbrev ae1:=@List.cons_append
abbrev ae2:=@Nat.mod_eq_of_lt
abbrev ae3:=@List.take_succ_cons
abbrev ae4:=@Bool.or_eq_true
abbrev ae5:=@Option.map_none
abbrev ae6:=@List.getElem?_drop
abbrev ae7:=@Nat.lt_of_lt_of_eq
abbrev afr:=@Nat.zero_le
abbrev afx:=@Nat.lt_trichotomy
abbrev afy:=@List.append_assoc
abbrev afz:=@Bool.and_eq_false_iff
abbrev afA:=@List.length_replicate
abbrev afB:=@List.map_nil
abbrev afC:=@Nat.le_of_lt
abbrev afD:=@List.mem_of_mem_drop
abbrev afE:=@List.take_length
abbrev afF:=@Calls.mono
abbrev afG:=@Nat.lt_irrefl
abbrev afH:=@List.filter_eq_self
abbrev afI:=@List.mem_map_of_mem
abbrev afJ:=@List.getElem?_zip_eq_some
abbrev afK:=@List.extract_eq_take_drop
abbrev afL:=@List.exists_mem_of_ne_nil
abbrev afM:=@Nat.pow_succ
abbrev afN:=@Nat.pos_of_ne_zero
abbrev afO:=@Nat.mul_div_cancel
abbrev afP:=@List.getElem_append_left
abbrev afQ:=@Int.negSucc_eq
abbrev afR:=@Ne.symm
abbrev afS:=@List.filter_cons_of_pos
abbrev afU:=@List.filter_cons_of_neg
abbrev afV:=@List.getElem?_cons_zero
abbrev afW:=@List.length_range
abbrev afX:=@Array.setIfInBounds_eq_of_size_le
abbrev afY:=@Array.getElem?_push_lt
abbrev afZ:=@List.filter_eq_nil_iff
abbrev ag0:=@Prod.mk.injEq
abbrev ag1:=@List.length_take
abbrev ag5:=@List.getElem_map
abbrev aha:=@List.take_append_drop
abbrev ahb:=@Array.getElem?_modify
abbrev ahc:=@Nat.ne_of_lt
abbrev ahd:=@List.range_eq_range'
abbrev ahe:=@List.forIn_cons
abbrev ahf:=@Nat.mod_lt
abbrev ahg:=@Nat.pow_le_pow_right
abbrev ahh:=@List.map_congr_left
abbrev ahi:=@List.drop_drop
abbrev ahj:=@Array.forIn_toList
abbrev ahk:=@Nat.add_sub_cancel
abbrev ahl:=@Bool.not_true
abbrev ahm:=@Bool.false_or
abbrev ahn:=@List.all_cons
abbrev aho:=@Array.getElem?_append_left
abbrev ahp:=@Int.toNat_natCast
abbrev ahq:=@Nat.le_succ_of_le
abbrev ahr:=@Array.mapM_eq_mapM_toList
abbrev ahs:=@List.mem_reverse
abbrev aht:=@Nat.sub_zero
abbrev ahu:=@Nat.add_comm
abbrev ahv:=@CallsIn.mono
abbrev ahw:=@List.not_mem_nil
abbrev ah5:=@Array.toList_inj
abbrev ah6:=@Array.toList_map
abbrev ah7:=@Option.isSome_iff_exists
abbrev ah8:=@Nat.lt_succ_self
abbrev ah9:=@Nat.div_eq_of_lt
abbrev aic:=@Array.size_setIfInBounds
abbrev aiu:=@Nat.add_sub_cancel_left
abbrev aix:=@UInt8.toNat_inj
abbrev aiz:=@Nat.mul_add_mod
abbrev aiA:=@List.foldl_cons
abbrev aiF:=@Nat.div_add_mod
abbrev ajr:=@Nat.le_succ
abbrev akh:=@Nat.mul_le_mul
abbrev aki:=@List.mapM_cons
abbrev akl:=@List.map_take
abbrev akm:=@List.map_drop
end Go.AM
namespace Go.AM
open Go
noncomputable section
inductive T (α:Type) where
 | e:T α
 | nd:T α->α->T α->T α
inductive d9 where
 | undef
 | bool (b:Bool)
 | int (k:IntKind) (n:Int)
 | str (s:List UInt8)
 | nilPtr
 | ptr (id off:Nat)
 | nilSlice
 | slice (id off len cap:Nat)
 | sliceU (id off len es:Nat)
 | nilMap
 | map (id:Nat)
 | nilFunc
 | func (fn:Fn) (first captured:List d9)
 | nilIface
 | iface (t:TypeId) (v:d9)
 | agg (l:List d9)
 | tuple (l:List d9)
 | lY (v:d9)
 deriving Inhabited
def d9.cells:d9->List d9
 | .agg l=>l
 | v=>[v]
inductive Q8 where
 | loc (k:Nat)
 | slot (j:Nat)
 | con (v:d9)
 deriving Inhabited
inductive PK where
 | i | b | s
 deriving Inhabited,DecidableEq
inductive Ad where
 | prim (k:PK) | flat (ks:List PK) | ptr | slice | map | func | iface
 deriving Inhabited,DecidableEq
inductive Ue where
 | mov (x:Q8)
 | pick (c a b:Q8)
 | build (zero:List d9) (parts:List (Nat×Nat×Q8))
 | nilCheck (x:Q8)
 | ib (op:BinOp) (x y:Q8)
 | eq (neg:Bool) (k:Ad) (x y:Q8)
 | not (x:Q8)
 | neg (x:Q8)
 | inv (x:Q8)
 | conv (k:IntKind) (x:Q8)
 | mkIface (t:TypeId) (x:Q8)
 | mkFunc (fn:Fn) (first captured:List Q8)
 | slStr (x:Q8) (lo hi:Option Q8)
 | slArr (es n:Nat) (x:Q8) (lo hi:Option Q8)
 | fAddr (off:Nat) (x:Q8)
 | fld (off:Nat) (size:Option Nat) (x:Q8)
 | iAddr (es:Nat) (x i:Q8)
 | iAddrArr (es n:Nat) (x i:Q8)
 | iArr (es n:Nat) (size:Option Nat) (x i:Q8)
 | iStr (x i:Q8)
 | ext (x:Q8) (i:Nat)
 | len (x:Q8)
 | Q0 (x:Q8)
 | cap (x:Q8)
 | mm (max:Bool) (x:Q8) (xs:List Q8)
 | assert (t:TypeId) (zero:d9) (ok:Bool) (x:Q8)
 deriving Inhabited
inductive OG where
 | load (size:Option Nat) (a:Q8)
 | look (kk:Ad) (zero:d9) (ok:Bool) (m k:Q8)
 | lenM (x:Q8)
 | bytesStr (x:Q8)
 | entry (it:Q8)
 | slData (x:Q8)
 | toUns (x:Q8)
 | fromUns (oks:List (Nat×Nat)) (x:Q8)
 deriving Inhabited
inductive RA where
 | alloc (zero:List d9)
 | box (x:Q8)
 | allocT (ty:Nat) (zero:List d9)
 | boxT (ty k:Nat) (x:Q8)
 | buildSlice (es len:Nat) (zero:List d9) (parts:List (Nat×Nat×Q8))
 | mkMap
 | mkSlice (es bytes:Nat) (zero:List d9) (len cap:Q8)
 | strBytes (x:Q8)
 | sl (es:Nat) (x:Q8) (lo hi:Option Q8)
 deriving Inhabited
inductive Uf where
 | store (size:Nat) (a x:Q8)
 | mapSet (kk:Ad) (m k x:Q8)
 | range (x:Q8)
 | next (it:Q8)
 | app (es:Nat) (zeros:Bool) (zero:List d9) (bytes:Nat) (s x:Q8)
 | copy (es:Nat) (d s:Q8)
 | clear (zero:List d9) (x:Q8)
 | call (f:FuncId) (args:List Q8)
 | callv (f:Q8) (args:List Q8)
 | defer (f:Q8) (args:List Q8)
 | panic (x:Q8)
 | recover
 | bad
 | rangeS (x:Q8)
 | nextS (it:Q8)
 | appB (ty:Nat) (s x:Q8)
 | ustr (ty:Nat) (p n:Q8)
 | storeAp (size:Nat) (a x b:Q8)
 deriving Inhabited
inductive yE where
 | p (o:Ue)
 | r (o:OG)
 | a (o:RA)
 | e (o:Uf)
 deriving Inhabited
structure Inst where
 op:yE
 dst:Option Nat
 guard:Option (Q8×Bool)
 deriving Inhabited
inductive U7 where
 | skip
 | reg (ops:List Inst)
 | dreg (ids:Nat) (ops:List (Nat×Inst))
 | dreg2 (ids:Nat) (ops:List (Nat×Inst)) (tail:List Inst)
 | seq (a b:U7)
 | cond (c:Q8) (thn els:U7)
 | block (id:Nat) (body:U7)
 | loop (body:U7)
 | exit (id:Nat)
 | ret
 | rangeFunc (f:Q8) (params:List (Option Nat)) (assign body:U7)
 deriving Inhabited
inductive bT where
 | normal
 | exit (id:Nat)
 | ret
 deriving Inhabited,DecidableEq
inductive Mk where
 | c (id:Nat)
 | d (f:d9) (args:List d9)
 deriving Inhabited
inductive pY where
 | tmp (j:Nat)
 | cell (j:Nat) (size:Option Nat)
 deriving Inhabited
structure AFn where
 nargs:Nat
 args:List (Option Nat)
 nslots:Nat
 results:List pY
 body:U7
 deriving Inhabited
def gJ:Ue->List Q8
 | .mov x=>[x]
 | .pick a b c=>[a,b,c]
 | .build _ ps=>ps.map (·.2.2)
 | .nilCheck x=>[x]
 | .ib _ x y=>[x,y]
 | .eq _ _ x y=>[x,y]
 | .not x=>[x]
 | .neg x=>[x]
 | .inv x=>[x]
 | .conv _ x=>[x]
 | .mkIface _ x=>[x]
 | .mkFunc _ a b=>a++b
 | .slStr x a b=>x::(a.toList++b.toList)
 | .slArr _ _ x a b=>x::(a.toList++b.toList)
 | .fAddr _ x=>[x]
 | .fld _ _ x=>[x]
 | .iAddr _ x i=>[x,i]
 | .iAddrArr _ _ x i=>[x,i]
 | .iArr _ _ _ x i=>[x,i]
 | .iStr x i=>[x,i]
 | .ext x _=>[x]
 | .len x=>[x]
 | .Q0 x=>[x]
 | .cap x=>[x]
 | .mm _ x xs=>x::xs
 | .assert _ _ _ x=>[x]
def bI:OG->List Q8
 | .load _ a=>[a]
 | .look _ _ _ m x=>[m,x]
 | .lenM x=>[x]
 | .bytesStr x=>[x]
 | .entry x=>[x]
 | .slData x=>[x]
 | .toUns x=>[x]
 | .fromUns _ x=>[x]
def opsL:RA->List Q8
 | .alloc _=>[]
 | .box x=>[x]
 | .allocT _ _=>[]
 | .boxT _ _ x=>[x]
 | .buildSlice _ _ _ ps=>ps.map (·.2.2)
 | .mkMap=>[]
 | .mkSlice _ _ _ l c=>[l,c]
 | .strBytes x=>[x]
 | .sl _ x a b=>x::(a.toList++b.toList)
def opsE:Uf->List Q8
 | .store _ a x=>[a,x]
 | .mapSet _ a b c=>[a,b,c]
 | .range x=>[x]
 | .next x=>[x]
 | .app _ _ _ _ s x=>[s,x]
 | .copy _ d s=>[d,s]
 | .clear _ x=>[x]
 | .call _ a=>a
 | .callv g a=>g::a
 | .defer g a=>g::a
 | .panic x=>[x]
 | .recover=>[]
 | .bad=>[]
 | .rangeS x=>[x]
 | .nextS x=>[x]
 | .appB _ s x=>[s,x]
 | .ustr _ p n=>[p,n]
 | .storeAp _ a x b=>[a,x,b]
def Dx:yE->List Q8
 | .p o=>gJ o
 | .r o=>bI o
 | .a o=>opsL o
 | .e o=>opsE o
variable {α β γ:Type}
def ob (o:Option α)(k:α->Option β):Option β:=Option.rec none (λa=>k a) o
def bi (b:Bool)(x y:α):α:=Bool.rec y x b
def T.get (t:T α):Nat->Option α:=
 T.rec (λ_=>none) (λ_ x _ ihl ihr i=>Nat.rec (some x) (λj _=>Nat.rec (ihl (Nat.div j 2)) (λ_ _=>ihr (Nat.div j 2)) (Nat.mod j 2)) i) t
def T.put (t:T α):Nat->α->T α:=
 T.rec (λ_ x=>.nd .e x .e) (λl y r ihl ihr i x=>Nat.rec (.nd l x r) (λj _=>Nat.rec (.nd (ihl (Nat.div j 2) x) y r) (λ_ _=>.nd l y (ihr (Nat.div j 2) x)) (Nat.mod j 2)) i) t
def T.nO (l:List α):T α->Nat->T α:=
 List.rec (λt _=>t) (λx _ ih t i=>ih (t.put i x) (Nat.succ i)) l
def T.ofList (l:List α):T α:=T.nO l .e 0
def T.slice (t:T α)(n:Nat):Nat->Option (List α):=
 Nat.rec (λ_=>some []) (λ_ ih i=>ob (t.get i) λx=>ob (ih (Nat.succ i)) λxs=>some (x::xs)) n
def T.rep (x:α)(n:Nat):T α->Nat->T α:=
 Nat.rec (λt _=>t) (λ_ ih t i=>ih (t.put i x) (Nat.succ i)) n
def takeN (n:Nat):List α->Option (List α):=
 Nat.rec (λ_=>some []) (λ_ ih l=>List.rec none (λx xs _=>ob (ih xs) λr=>some (x::r)) l) n
def lN (n:Nat):List α->List α:=
 Nat.rec (λl=>l) (λ_ ih l=>List.rec [] (λ_ xs _=>ih xs) l) n
def oN (n:Nat):List α->Option α:=
 Nat.rec (λl=>List.rec none (λx _ _=>some x) l) (λ_ ih l=>List.rec none (λ_ xs _=>ih xs) l) n
def nth (n:Nat):List d9->d9:=
 Nat.rec (λl=>List.rec d9.undef (λx _ _=>x) l) (λ_ ih l=>List.rec d9.undef (λ_ xs _=>ih xs) l) n
def U2 (l m:List α):List α:=List.rec m (λx _ ih=>x::ih) l
def len' (l:List α):Nat:=List.rec 0 (λ_ _ ih=>Nat.succ ih) l
def lQ (n:Nat)(vs:List α):List α->List α:=
 Nat.rec (λl=>U2 vs (lN (len' vs) l)) (λ_ ih l=>List.rec [] (λx xs _=>x::ih xs) l) n
def gN (v:d9)(k:Nat->Nat->Option β):Option β:=match v with
 | .ptr i o=>k i o
 | _=>none
def qR (v:d9)(k:IntKind->Int->Option β):Option β:=match v with
 | .int a b=>k a b
 | _=>none
def oV (v:d9)(k:Bool->Option β):Option β:=match v with
 | .bool b=>k b
 | _=>none
def oO (v:d9)(k:List UInt8->Option β):Option β:=match v with
 | .str s=>k s
 | _=>none
def tN (v:d9)(k:List d9->Option β):Option β:=match v with
 | .agg l=>k l
 | _=>none
def Ll (v:d9)(k:List d9->Option β):Option β:=match v with
 | .tuple l=>k l
 | _=>none
def tO (v:d9)(nl:Option β)(k:Nat->Option β):Option β:=match v with
 | .nilMap=>nl
 | .map i=>k i
 | _=>none
def qU (v:d9)(nl:Option β)(k:Nat->Nat->Nat->Nat->Option β)(u:Nat->Nat->Nat->Nat->Option β):Option β:=match v with
 | .nilSlice=>nl
 | .slice a b c d=>k a b c d
 | .sliceU a b c d=>u a b c d
 | _=>none
def Lm (v:d9)(k:Fn->List d9->List d9->Option β):Option β:=match v with
 | .func f a b=>k f a b
 | _=>none
def Lr (n:Int)(k:Nat->Option β):Option β:=match n with
 | .ofNat m=>k m
 | .negSucc _=>none
def jN (v:d9)(k:Nat->Option β):Option β:=qR v λ_ n=>Lr n k
inductive Q6 where
 | void
 | dead
 | cells (rs n:Nat) (rows:T (List d9))
 | map (es:List (d9×d9))
 | iter (m:Option Nat) (since:Nat) (seen:List Nat)
 | tail (parent:Nat)
 | loop (st:LoopState) (pend:Option bT) (env:T d9) (params:List (Option Nat)) (assign body:U7)
 | deferred
 | siter (s:List UInt8) (pos:Nat)
 | buf (ty:Nat) (s:List UInt8)
 | mapU (es:List (d9×d9))
 deriving Inhabited
structure Mem where
 t:T Q6
 nx:Nat
 lim:Nat
def Mem.get (m:Mem)(i:Nat):Option Q6:=m.t.get i
def Mem.new (m:Mem)(b:Q6):Mem:=⟨m.t.put m.nx b,Nat.succ m.nx,m.lim⟩
def Mem.set (m:Mem)(i:Nat)(b:Q6):Mem:=⟨m.t.put i b,m.nx,m.lim⟩
def P8 (b:Option Q6)(k:Nat->Nat->T (List d9)->Option β):Option β:=match b with
 | some (.cells rs n rows)=>k rs n rows
 | _=>none
def Ov (b:Option Q6)(k:List (d9×d9)->Option β):Option β:=match b with
 | some (.map es)=>k es
 | _=>none
def Cw (b:Option Q6)(k:List (d9×d9)->Option β):Option β:=match b with
 | some (.map es)=>k es
 | some (.mapU es)=>k es
 | _=>none
def Ut (ty:Nat):List d9:=[.lY (.int .u64 (.ofNat ty))]
def Dy (rows:T (List d9)):Option Nat:=ob (rows.get 1) λr=>List.rec none (λv _ _=>match v with
 | .lY (.int .u64 (.ofNat n))=>some n
 | _=>none) r
def cell1 (rs n:Nat)(rows:T (List d9))(off:Nat):Option d9:=
 Bool.rec none (Option.rec none (λrow=>oN (Nat.mod off rs) row) (rows.get (Nat.div off rs))) (Nat.blt (Nat.div off rs) n)
def jO (rs n:Nat)(rows:T (List d9))(off k:Nat):Option (List d9):=
 bi (Nat.blt (Nat.div off rs) n) (ob (rows.get (Nat.div off rs)) λrow=>
  bi (Nat.beq (Nat.mod off rs) 0) (bi (Nat.beq k rs) (some row) (takeN k row)) (takeN k (lN (Nat.mod off rs) row))) none
def L9 (rs n:Nat)(rows:T (List d9))(k:Nat):Nat->Option (List d9):=
 Nat.rec (λ_=>some []) (λ_ ih off=>ob (cell1 rs n rows off) λv=>ob (ih (Nat.succ off)) λl=>some (v::l)) k
def aJ (rs n:Nat)(rows:T (List d9))(off:Nat)(vs:List d9):Option (T (List d9)):=
 bi (Nat.blt (Nat.div off rs) n) (ob (rows.get (Nat.div off rs)) λrow=>
  bi (Nat.ble (Nat.add (Nat.mod off rs) (len' vs)) rs) (some (rows.put (Nat.div off rs) (lQ (Nat.mod off rs) vs row))) none) none
def iy (rs n:Nat)(vs:List d9):T (List d9)->Nat->Option (T (List d9)):=
 List.rec (λrows _=>some rows) (λv _ ih rows off=>ob (aJ rs n rows off [v]) λrows'=>ih rows' (Nat.succ off)) vs
def rowsOf (rs n:Nat):List d9->Option (List (List d9)):=
 Nat.rec (λl=>List.rec (some []) (λ_ _ _=>none) l) (λ_ ih l=>ob (takeN rs l) λr=>ob (ih (lN rs l)) λrest=>some (r::rest)) n
def r9 (v:d9):Bool:=match v with
 | .undef | .agg _ | .tuple _ | .lY _=>false
 | _=>true
def K7 (l:List d9):Bool:=List.rec true (λv _ ih=>bi (r9 v) ih false) l
def storeAt (m:Mem)(id off:Nat)(vs:List d9)(k:Mem->Option β):Option β:=
 bi (Nat.blt id m.lim) none (bi (K7 vs) (P8 (m.get id) λrs n rows=>ob (aJ rs n rows off vs) λrows'=>k (m.set id (.cells rs n rows'))) none)
def jy (m:Mem)(id off:Nat)(vs:List d9)(k:Mem->Option β):Option β:=
 List.rec (k m) (λ_ _ _=>bi (Nat.blt id m.lim) none (bi (K7 vs) (P8 (m.get id) λrs n rows=>ob (iy rs n vs rows off) λrows'=>k (m.set id (.cells rs n rows'))) none)) vs
abbrev OF:=List d9->T d9->d9
def cu (k:Nat):OF:=λls _=>nth k ls
def G7:OF:=λls _=>List.rec d9.undef (λx _ _=>x) ls
def bW:OF:=λls _=>List.rec d9.undef (λ_ l _=>List.rec d9.undef (λx _ _=>x) l) ls
def eP:OF:=λls _=>List.rec d9.undef (λ_ l _=>List.rec d9.undef (λ_ l _=>List.rec d9.undef (λx _ _=>x) l) l) ls
def nP:OF:=λls _=>List.rec d9.undef (λ_ l _=>List.rec d9.undef (λ_ l _=>List.rec d9.undef (λ_ l _=>List.rec d9.undef (λx _ _=>x) l) l) l) ls
def u6 (v:d9):OF:=λ_ _=>v
def gH:T d9->d9:=T.rec .undef (λ_ x _ _ _=>x)
def gL (g:T d9->d9):T d9->d9:=T.rec .undef (λl _ _ _ _=>g l)
def gR (g:T d9->d9):T d9->d9:=T.rec .undef (λ_ _ r _ _=>g r)
def J9 (g:T d9->d9):OF:=λ_ env=>g env
def way:Nat->Nat->T d9->d9
 | 0,_=>λ_=>.undef
 | _+1,0=>gH
 | n+1,j+1=>match j%2 with
  | 0=>gL (way n (j / 2))
  | _=>gR (way n (j / 2))
def H8:Q8->OF
 | .loc 0=>G7
 | .loc 1=>bW
 | .loc 2=>eP
 | .loc 3=>nP
 | .loc k=>cu k
 | .slot j=>J9 (way 64 j)
 | .con v=>u6 v
def fH:List Q8->List OF
 | []=>[]
 | x::l=>H8 x::fH l
def kQ:Option Q8->Option OF
 | none=>none
 | some x=>some (H8 x)
def evs (l:List OF)(ls:List d9)(env:T d9):List d9:=List.rec [] (λx _ ih=>x ls env::ih) l
def sH:d9->T d9->T d9:=λv=>T.rec .e (λl _ r _ _=>.nd l v r)
def sL (s:d9->T d9->T d9):d9->T d9->T d9:=λv=>T.rec .e (λl x r _ _=>.nd (s v l) x r)
def sR (s:d9->T d9->T d9):d9->T d9->T d9:=λv=>T.rec .e (λl x r _ _=>.nd l x (s v r))
def tQ:Nat->Nat->d9->T d9->T d9
 | 0,_=>λ_ t=>t
 | _+1,0=>sH
 | n+1,j+1=>match j%2 with
  | 0=>sL (tQ n (j / 2))
  | _=>sR (tQ n (j / 2))
def D8:d9->T d9->T d9:=λ_ t=>t
def cB:Option Nat->d9->T d9->T d9
 | none=>D8
 | some j=>tQ 64 j
def jA (n:Int):Int:=match n with
 | .ofNat m=>bi (Nat.blt m 9223372036854775808) (.ofNat m) (IntKind.i64.wrap (.ofNat m))
 | .negSucc m=>bi (Nat.blt m 9223372036854775808) (.negSucc m) (IntKind.i64.wrap (.negSucc m))
def sI (k:IntKind)(n:Int):Int:=match k with
 | .i64=>jA n
 | k=>k.wrap n
def bY:Int->Int->Bool
 | .ofNat a,.ofNat b=>Nat.beq a b
 | .negSucc a,.negSucc b=>Nat.beq a b
 | _,_=>false
def mM:Int->Int->Bool
 | .ofNat a,.ofNat b=>Nat.blt a b
 | .negSucc _,.ofNat _=>true
 | .ofNat _,.negSucc _=>false
 | .negSucc a,.negSucc b=>Nat.blt b a
def Yb (a b:IntKind):Bool:=match a,b with
 | .i64,.i64=>true
 | a,b=>decide (a=b)
def strEq (a:List UInt8):List UInt8->Bool:=
 List.rec (λb=>List.rec true (λ_ _ _=>false) b) (λx _ ih b=>List.rec false (λy ys _=>bi (Nat.beq x.toNat y.toNat) (ih ys) false) b) a
def qV:List UInt8->List UInt8->Bool
 | _,[]=>false
 | [],_ :: _=>true
 | a::x,b::y=>a<b||(a==b&&qV x y)
def yF (k:IntKind)(f:BitVec k.bits->BitVec k.bits->BitVec k.bits)(a b:Int):d9:=
 .int k (k.wrap (f (BitVec.ofInt k.bits a) (BitVec.ofInt k.bits b)).toNat)
def abZ (b:Int)(r:Option d9):Option d9:=match b with
 | .ofNat 0=>none
 | _=>r
abbrev IB:=IntKind->Int->Int->Option d9
def aH:IB:=λk a b=>some (.int k (sI k (a+b)))
def Gi:IB:=λk a b=>some (.int k (sI k (a-b)))
def Yc:IB:=λk a b=>some (.int k (sI k (a*b)))
def OH:IB:=λk a b=>abZ b (some (.int k (sI k (a.tdiv b))))
def Yd:IB:=λk a b=>abZ b (some (.int k (a.tmod b)))
def ag2:IB:=λk a b=>some (yF k (· &&& ·) a b)
def iOr:IB:=λk a b=>some (yF k (· ||| ·) a b)
def ag3:IB:=λk a b=>some (yF k (· ^^^ ·) a b)
def Qp:IB:=λk a b=>some (yF k (λx y=>x &&& ~~~y) a b)
def dO:IB:=λ_ a b=>some (.bool (bY a b))
def BD:IB:=λ_ a b=>some (.bool (!bY a b))
def yD:IB:=λ_ a b=>some (.bool (mM a b))
def Qq:IB:=λ_ a b=>some (.bool (!mM b a))
def Le:IB:=λ_ a b=>some (.bool (mM b a))
def Ug:IB:=λ_ a b=>some (.bool (!mM a b))
def iNo:IB:=λ_ _ _=>none
abbrev SB:=List UInt8->List UInt8->Option d9
def I6:SB:=λa b=>bi (Nat.blt (Nat.add (len' a) (len' b)) 9223372036854775808) (some (.str (U2 a b))) none
def dQ:SB:=λa b=>some (.bool (strEq a b))
def BF:SB:=λa b=>some (.bool (!strEq a b))
def yG:SB:=λa b=>some (.bool (qV a b))
def Uh:SB:=λa b=>some (.bool (qV a b||strEq a b))
def Ls:SB:=λa b=>some (.bool (!(qV a b||strEq a b)))
def XL:SB:=λa b=>some (.bool (!qV a b))
def oW:SB:=λ_ _=>none
def Jr:BinOp->IB
 | .add=>aH | .sub=>Gi | .mul=>Yc | .quo=>OH | .rem=>Yd | .and=>ag2 | .or=>iOr | .xor=>ag3 | .andNot=>Qp
 | .shl=>iNo | .shr=>iNo | .eql=>dO | .neq=>BD | .lss=>yD | .leq=>Qq | .gtr=>Le | .geq=>Ug
def Js:BinOp->SB
 | .add=>I6 | .eql=>dQ | .neq=>BF | .lss=>yG | .leq=>Uh | .gtr=>Ls | .geq=>XL
 | _=>oW
def Cx (f:IB)(g:SB)(x y:d9):Option d9:=match x with
 | .int k a=>qR y λk' b=>bi (Yb k k') (f k a b) none
 | .str a=>oO y λb=>g a b
 | _=>none
def Ye (x y:d9):Option d9:=qR x λk a=>jN y λm=>some (.int k (sI k (a*2^(min m k.bits))))
def Yf (x y:d9):Option d9:=qR x λk a=>jN y λm=>some (.int k (a.fdiv (2^(min m k.bits))))
def Dz (a b:Bool):Bool:=bi a b (bi b false true)
def ay (x y:d9):Option Bool:=qR x λk a=>qR y λk' b=>bi (Yb k k') (some (bY a b)) none
def qW (x y:d9):Option Bool:=oV x λa=>oV y λb=>some (Dz a b)
def eqStr (x y:d9):Option Bool:=oO x λa=>oO y λb=>some (strEq a b)
def Gj (k:PK):d9->d9->Option Bool:=match k with
 | .i=>ay
 | .b=>qW
 | .s=>eqStr
def bO (ks:List PK):List d9->List d9->Option Bool:=
 List.rec (λ_ _=>some true) (λk _ ih a b=>List.rec none (λx xs _=>List.rec none (λy ys _=>ob (Gj k x y) λr=>bi r (ih xs ys) (some false)) b) a) ks
def tV (ks:List PK)(x y:d9):Option Bool:=tN x λa=>tN y λb=>bO ks a b
def iH (x y:d9):Option Bool:=match x,y with
 | .nilPtr,.nilPtr=>some true
 | .nilPtr,.ptr _ _=>some false
 | .ptr _ _,.nilPtr=>some false
 | .ptr a b,.ptr c d=>bi (Nat.beq a c) (bi (Nat.beq b d) (some true) none) none
 | _,_=>none
def yH (x y:d9):Option Bool:=match x,y with
 | .nilSlice,.nilSlice=>some true
 | .nilSlice,.slice .. | .nilSlice,.sliceU ..=>some false
 | .slice ..,.nilSlice | .sliceU ..,.nilSlice=>some false
 | _,_=>none
def Lu (x y:d9):Option Bool:=match x,y with
 | .nilMap,.nilMap=>some true
 | .nilMap,.map _ | .map _,.nilMap=>some false
 | _,_=>none
def DF (x y:d9):Option Bool:=match x,y with
 | .nilFunc,.nilFunc=>some true
 | .nilFunc,.func .. | .func ..,.nilFunc=>some false
 | _,_=>none
def lG (x y:d9):Option Bool:=match x,y with
 | .nilIface,.nilIface=>some true
 | .nilIface,.iface .. | .iface ..,.nilIface=>some false
 | _,_=>none
abbrev Gd:=d9->d9->Option Bool
def mo:Ad->Gd
 | .prim .i=>ay | .prim .b=>qW | .prim .s=>eqStr | .flat ks=>tV ks | .ptr=>iH | .slice=>yH | .map=>Lu | .func=>DF | .iface=>lG
abbrev PF:=List d9->T d9->Option d9
def N9 (x:OF):PF:=λls env=>some (x ls env)
def gq (c a b:OF):PF:=λls env=>oV (c ls env) λt=>some (bi t (a ls env) (b ls env))
def lay (ps:List (Nat×Nat×OF))(ls:List d9)(env:T d9):List d9->Option (List d9):=
 List.rec (λcs=>some cs) (λp _ ih cs=>
  bi (Nat.beq (len' (p.2.2 ls env).cells) p.2.1) (bi (Nat.ble (Nat.add p.1 p.2.1) (len' cs)) (ih (lQ p.1 (p.2.2 ls env).cells cs)) none) none) ps
def aK (zero:List d9)(ps:List (Nat×Nat×OF)):PF:=λls env=>ob (lay ps ls env zero) λl=>some (.agg l)
def Ak (v:d9):Option d9:=match v with
 | .nilPtr | .nilIface | .nilFunc=>none
 | .func (.func f) a b=>some (.func (.func f) a b)
 | .func ..=>none
 | v=>some v
def dh (x:OF):PF:=λls env=>Ak (x ls env)
def K8 (f:IB)(g:SB)(x y:OF):PF:=λls env=>Cx f g (x ls env) (y ls env)
def ac0 (x y:OF):PF:=λls env=>Ye (x ls env) (y ls env)
def ac3 (x y:OF):PF:=λls env=>Yf (x ls env) (y ls env)
def pEq (f:Gd)(x y:OF):PF:=λls env=>ob (f (x ls env) (y ls env)) λb=>some (.bool b)
def pNe (f:Gd)(x y:OF):PF:=λls env=>ob (f (x ls env) (y ls env)) λb=>some (.bool (!b))
def Uu (x:OF):PF:=λls env=>oV (x ls env) λb=>some (.bool (!b))
def ac5 (x:OF):PF:=λls env=>qR (x ls env) λk n=>some (yF k (· ^^^ ·) (bi k.signed (-1) k.max) n)
def ac6 (x:OF):PF:=λls env=>qR (x ls env) λk n=>some (.int k (sI k (0-n)))
def GU (k:IntKind)(x:OF):PF:=λls env=>qR (x ls env) λ_ n=>some (.int k (sI k n))
def Jt (t:TypeId)(x:OF):PF:=λls env=>some (.iface t (x ls env))
def Qr (fn:Fn)(a b:List OF):PF:=λls env=>some (.func fn (evs a ls env) (evs b ls env))
def eY (o:Option OF)(d:Nat)(ls:List d9)(env:T d9)(k:Nat->Option β):Option β:=
 Option.rec (k d) (λx=>jN (x ls env) k) o
def Uv (x:OF)(lo hi:Option OF):PF:=λls env=>oO (x ls env) λs=>eY lo 0 ls env λl=>eY hi (len' s) ls env λh=>bi (Nat.ble l h) (bi (Nat.ble h (len' s)) (ob (takeN (Nat.sub h l) (lN l s)) λr=>some (.str r)) none) none
def Uw (es n:Nat)(x:OF)(lo hi:Option OF):PF:=λls env=>gN (x ls env) λid off=>eY lo 0 ls env λl=>eY hi n ls env λh=>bi (Nat.ble l h) (bi (Nat.ble h n) (some (.slice id (bi (Nat.beq l n) off (Nat.add off (Nat.mul l es))) (Nat.sub h l) (Nat.sub n l))) none) none
def L6 (o:Nat)(x:OF):PF:=λls env=>gN (x ls env) λid off=>some (.ptr id (Nat.add off o))
def Ux (off:Nat)(x:OF):PF:=λls env=>tN (x ls env) λcs=>oN off cs
def Uy (off k:Nat)(x:OF):PF:=λls env=>tN (x ls env) λcs=>ob (takeN k (lN off cs)) λl=>some (.agg l)
def idx (len:Nat)(v:d9)(k:Nat->Option β):Option β:=jN v λi=>bi (Nat.blt i len) (k i) none
def Y0 (es:Nat)(x i:OF):PF:=λls env=>
 qU (x ls env) none (λid off len _=>idx len (i ls env) λk=>some (.ptr id (Nat.add off (Nat.mul k es))))
  (λid off len _=>idx len (i ls env) λk=>some (.ptr id (Nat.add off (Nat.mul k es))))
def Al (es n:Nat)(x i:OF):PF:=λls env=>gN (x ls env) λid off=>idx n (i ls env) λk=>some (.ptr id (Nat.add off (Nat.mul k es)))
def Am (es n:Nat)(x i:OF):PF:=λls env=>tN (x ls env) λcs=>idx n (i ls env) λk=>oN (Nat.mul k es) cs
def Uz (es n sz:Nat)(x i:OF):PF:=λls env=>tN (x ls env) λcs=>idx n (i ls env) λk=>ob (takeN sz (lN (Nat.mul k es) cs)) λl=>some (.agg l)
def tX (x i:OF):PF:=λls env=>oO (x ls env) λs=>jN (i ls env) λk=>ob (oN k s) λb=>some (.int .u8 b.toNat)
def pExt (x:OF)(i:Nat):PF:=λls env=>Ll (x ls env) λl=>oN i l
def lenOf (v:d9):Option Nat:=match v with
 | .nilSlice=>some 0
 | .slice _ _ n _=>some n
 | .sliceU _ _ n _=>some n
 | .str s=>some (len' s)
 | _=>none
def yI (x:OF):PF:=λls env=>qU (x ls env) (some (.int .i64 0)) (λ_ _ n _=>some (.int .i64 (.ofNat n))) (λ_ _ n _=>some (.int .i64 (.ofNat n)))
def yJ (x:OF):PF:=λls env=>oO (x ls env) λs=>some (.int .i64 (.ofNat (len' s)))
def ac7 (x:OF):PF:=λls env=>qU (x ls env) (some (.int .i64 0)) (λ_ _ _ c=>some (.int .i64 (.ofNat c))) (λ_ _ _ _=>none)
def mm2 (mx:Bool)(x y:d9):Option d9:=qR x λk a=>qR y λ_ b=>some (.int k (bi mx (bi (mM a b) b a) (bi (mM b a) b a)))
def Lv (mx:Bool)(ys:List d9):d9->Option d9:=List.rec (λx=>some x) (λy _ ih x=>ob (mm2 mx x y) ih) ys
def pMm (mx:Bool)(x:OF)(xs:List OF):PF:=λls env=>Lv mx (evs xs ls env) (x ls env)
def Qs (t:TypeId)(zero:d9)(ok:Bool)(v:d9):Option d9:=match v with
 | .iface u y=>bi (Nat.beq u t) (some (bi ok (.tuple [y,.bool true]) y)) (bi ok (some (.tuple [zero,.bool false])) none)
 | .nilIface=>bi ok (some (.tuple [zero,.bool false])) none
 | _=>none
def Qt (t:TypeId)(zero:d9)(ok:Bool)(x:OF):PF:=λls env=>Qs t zero ok (x ls env)
def Ao:List (Nat×Nat×Q8)->List (Nat×Nat×OF)
 | []=>[]
 | p::l=>(p.1,p.2.1,H8 p.2.2)::Ao l
def nE:Ue->PF
 | .mov x=>N9 (H8 x)
 | .pick c a b=>gq (H8 c) (H8 a) (H8 b)
 | .build z ps=>aK z (Ao ps)
 | .nilCheck x=>dh (H8 x)
 | .ib op x y=>match op with
  | .shl=>ac0 (H8 x) (H8 y)
  | .shr=>ac3 (H8 x) (H8 y)
  | op=>K8 (Jr op) (Js op) (H8 x) (H8 y)
 | .eq neg k x y=>match neg with
  | true=>pNe (mo k) (H8 x) (H8 y)
  | false=>pEq (mo k) (H8 x) (H8 y)
 | .not x=>Uu (H8 x)
 | .neg x=>ac6 (H8 x)
 | .inv x=>ac5 (H8 x)
 | .conv k x=>GU k (H8 x)
 | .mkIface t x=>Jt t (H8 x)
 | .mkFunc fn a b=>Qr fn (fH a) (fH b)
 | .slStr x lo hi=>Uv (H8 x) (kQ lo) (kQ hi)
 | .slArr es n x lo hi=>Uw es n (H8 x) (kQ lo) (kQ hi)
 | .fAddr o x=>L6 o (H8 x)
 | .fld off size x=>match size with
  | none=>Ux off (H8 x)
  | some k=>Uy off k (H8 x)
 | .iAddr es x i=>Y0 es (H8 x) (H8 i)
 | .iAddrArr es n x i=>Al es n (H8 x) (H8 i)
 | .iArr es n size x i=>match size with
  | none=>Am es n (H8 x) (H8 i)
  | some k=>Uz es n k (H8 x) (H8 i)
 | .iStr x i=>tX (H8 x) (H8 i)
 | .ext x i=>pExt (H8 x) i
 | .len x=>yI (H8 x)
 | .Q0 x=>yJ (H8 x)
 | .cap x=>ac7 (H8 x)
 | .mm mx x xs=>pMm mx (H8 x) (fH xs)
 | .assert t z ok x=>Qt t z ok (H8 x)
abbrev RF:=List d9->T d9->Mem->Option d9
def xu (a:OF):RF:=λls env m=>gN (a ls env) λid off=>P8 (m.get id) λrs n rows=>cell1 rs n rows off
def eu (k:Nat)(a:OF):RF:=λls env m=>gN (a ls env) λid off=>P8 (m.get id) λrs n rows=>ob (jO rs n rows off k) λl=>some (.agg l)
def findKey (f:Gd)(k:d9)(es:List (d9×d9)):Nat->Option (Option (Nat×d9)):=
 List.rec (λ_=>some none) (λe _ ih i=>ob (f k e.1) λb=>bi b (some (some (i,e.2))) (ih (Nat.succ i))) es
def found (ok:Bool)(zero:d9)(o:Option (Nat×d9)):Option d9:=
 Option.rec (some (bi ok (.tuple [zero,.bool false]) zero)) (λp=>some (bi ok (.tuple [p.2,.bool true]) p.2)) o
def R8 (f:Gd)(n:Nat)(k:d9)(es:List (d9×d9)):Option (Option (Nat×d9)):=
 bi (Nat.beq (len' k.cells) n) (List.rec (ob (f k k) λ_=>some none) (λ_ _ _=>findKey f k es 0) es) none
def GV (f:Gd)(n:Nat)(zero:d9)(ok:Bool)(mp k:OF):RF:=λls env m=>tO (mp ls env) (ob (R8 f n (k ls env) []) λr=>found ok zero r) λid=>Cw (m.get id) λes=>ob (R8 f n (k ls env) es) λr=>found ok zero r
def aaU (x:OF):RF:=λls env m=>tO (x ls env) (some (.int .i64 0)) λid=>Ov (m.get id) λes=>some (.int .i64 (.ofNat (len' es)))
def bytesOf:List UInt8->List d9
 | []=>[]
 | b::l=>.int .u8 b.toNat::bytesOf l
def byteOf:List d9->Option (List UInt8)
 | []=>some []
 | .int .u8 (.ofNat n)::l=>match byteOf l with
  | some s=>some (UInt8.ofNat n::s)
  | none=>none
 | _ :: _=>none
def R9 (m:Mem)(id off n:Nat):Option (List d9):=
 Nat.rec (some []) (λ_ _=>P8 (m.get id) λrs k rows=>L9 rs k rows n off) n
def bG (m:Mem)(es n:Nat)(v:d9):Option (List d9):=match v with
 | .nilSlice=>some []
 | .slice id off _ _=>R9 m id off (Nat.mul n es)
 | .sliceU id off _ _=>R9 m id off (Nat.mul n es)
 | .str s=>some (bytesOf (s.take n))
 | _=>none
def dw (x:OF):RF:=λls env m=>
 qU (x ls env) (some (.str [])) (λid off len _=>ob (R9 m id off len) λl=>ob (byteOf l) λs=>some (.str s))
  (λid off len _=>ob (R9 m id off len) λl=>ob (byteOf l) λs=>some (.str s))
def GX (b:Option Q6)(nl:Option β)(k:Nat->Nat->List Nat->Option β):Option β:=match b with
 | some (.iter none _ _)=>nl
 | some (.iter (some mp) since seen)=>k mp since seen
 | _=>none
def qX (it:OF):RF:=λls env m=>gN (it ls env) λid off=>bi (Nat.beq off 0)
 (GX (m.get id) none λmp since seen=>List.rec none (λi _ _=>Ov (m.get mp) λes=>bi (Nat.beq (len' es) since) (ob (oN i es) λe=>some (.tuple [e.1,e.2])) none) seen) none
def CY (x:OF):RF:=λls env _=>qU (x ls env) (some .nilPtr) (λid off _ cap=>bi (Nat.blt 0 cap) (some (.ptr id off)) none) (λid off len _=>bi (Nat.blt 0 len) (some (.ptr id off)) none)
def qY (x:OF):RF:=λls env m=>match x ls env with
 | .nilPtr=>some .nilPtr
 | .ptr id off=>P8 (m.get id) λrs n _=>bi (Nat.blt off (Nat.mul n rs)) (some (.ptr id off)) none
 | _=>none
def UA (ty off:Nat)(l:List (Nat×Nat)):Bool:=List.rec false (λp _ ih=>bi (Nat.beq p.1 ty) (bi (Nat.beq p.2 off) true ih) ih) l
def jP (oks:List (Nat×Nat))(x:OF):RF:=λls env m=>match x ls env with
 | .nilPtr=>some .nilPtr
 | .ptr id off=>P8 (m.get id) λ_ n rows=>bi (Nat.beq n 1) (ob (Dy rows) λty=>bi (UA ty off oks) (some (.ptr id off)) none) none
 | _=>none
def Ap:Ad->Nat
 | .flat ks=>ks.length
 | _=>1
def qZ:OG->RF
 | .load size a=>match size with
  | none=>xu (H8 a)
  | some k=>eu k (H8 a)
 | .look kk zero ok m k=>GV (mo kk) (Ap kk) zero ok (H8 m) (H8 k)
 | .lenM x=>aaU (H8 x)
 | .bytesStr x=>dw (H8 x)
 | .entry it=>qX (H8 it)
 | .slData x=>CY (H8 x)
 | .toUns x=>qY (H8 x)
 | .fromUns oks x=>jP oks (H8 x)
abbrev LR:=Option (d9×Option Q6)
abbrev LF:=List d9->T d9->Nat->LR
def o8 (cs:List d9):Q6:=.cells (len' cs) 1 (.nd .e cs .e)
def yK (es n:Nat)(cells:List d9)(k:Q6->Option β):Option β:=ob (rowsOf es n cells) λrows=>k (.cells es n (T.ofList rows))
def eB (ty:Nat)(cs:List d9):Q6:=.cells (len' cs) 1 (.nd (.nd .e (Ut ty) .e) cs .e)
def yL (ty:Nat)(zero:List d9):LF:=λ_ _ nid=>some (.ptr nid 0,some (eB ty zero))
def aaV (ty k:Nat)(x:OF):LF:=λls env nid=>bi (Nat.beq (len' (x ls env).cells) k) (some (.ptr nid 0,some (eB ty (x ls env).cells))) none
def ru (zero:List d9):LF:=λ_ _ nid=>some (.ptr nid 0,some (o8 zero))
def RB (x:OF):LF:=λls env nid=>some (.ptr nid 0,some (o8 (x ls env).cells))
def U1 (zero:List d9)(n:Nat):List d9:=Nat.rec [] (λ_ ih=>U2 zero ih) n
def H9 (es len:Nat)(zero:List d9)(ps:List (Nat×Nat×OF)):LF:=λls env nid=>ob (lay ps ls env (U1 zero len)) λcells=>yK es len cells λb=>some (.slice nid 0 len len,some b)
def ji:LF:=λ_ _ nid=>some (.map nid,some (.map []))
def Lx (es bytes:Nat)(zero:List d9)(len cap:OF):LF:=λls env nid=>
 jN (len ls env) λl=>jN (cap ls env) λc=>
  bi (Nat.ble l c) (bi (Nat.ble (Nat.mul bytes c) 281474976710656) (bi (Nat.blt c 9223372036854775808)
   (some (.slice nid 0 l c,some (.cells es c (T.rep zero c .e 0)))) none) none) none
def GY (x:OF):LF:=λls env nid=>oO (x ls env) λs=>yK 1 (len' s) (bytesOf s) λb=>some (.sliceU nid 0 (len' s) 1,some b)
def N7 (nid es:Nat)(x:d9)(lo:Nat)(hi:Option Nat):LR:=
 qU x (bi (Nat.beq lo 0) (Option.rec (some (.nilSlice,none)) (λh=>bi (Nat.beq h 0) (some (.nilSlice,none)) none) hi) none)
  (λid off len cap=>Option.rec (known id off cap len) (λh=>known id off cap h) hi)
  (λid off len es'=>Option.rec (unk id off len es' len) (λh=>unk id off len es' h) hi)
where
 known (id off cap h:Nat):LR:=bi (Nat.ble lo h) (bi (Nat.ble h cap)
  (some (.slice id (bi (Nat.beq lo cap) off (Nat.add off (Nat.mul lo es))) (Nat.sub h lo) (Nat.sub cap lo),none)) none) none
 unk (id off len es' h:Nat):LR:=bi (Nat.ble lo h) (bi (Nat.ble h len) (bi (Nat.beq es es')
  (bi (Nat.blt lo len) (some (.sliceU id (Nat.add off (Nat.mul lo es)) (Nat.sub h lo) es,none))
   (bi (Nat.beq lo 0) (some (.sliceU id off (Nat.sub h lo) es,none)) (some (.sliceU nid 0 0 es,some (.tail id))))) none) none) none
def lSl (es:Nat)(x:OF)(lo hi:Option OF):LF:=λls env nid=>eY lo 0 ls env λl=>Option.rec (N7 nid es (x ls env) l none) (λh=>jN (h ls env) λh=>N7 nid es (x ls env) l (some h)) hi
def wH:RA->LF
 | .alloc zero=>ru zero
 | .box x=>RB (H8 x)
 | .allocT ty zero=>yL ty zero
 | .boxT ty k x=>aaV ty k (H8 x)
 | .buildSlice es len zero ps=>H9 es len zero (Ao ps)
 | .mkMap=>ji
 | .mkSlice es bytes zero l c=>Lx es bytes zero (H8 l) (H8 c)
 | .strBytes x=>GY (H8 x)
 | .sl es x lo hi=>lSl es (H8 x) (kQ lo) (kQ hi)
structure VM where
 v:d9
 m:Mem
abbrev eD:=Option (List VM)
abbrev G9:=Fn->List d9->Mem->eD
abbrev EF:=G9->List d9->T d9->Mem->eD
def one (v:d9)(m:Mem):eD:=some [⟨v,m⟩]
def U8 (size:Nat)(a x:OF):EF:=λ_ ls env m=>gN (a ls env) λid off=>bi (Nat.beq (len' (x ls env).cells) size) (storeAt m id off (x ls env).cells λm'=>one .undef m') none
def DI (size:Nat)(a x b:OF):EF:=λcf ls env m=>gN (a ls env) λi _=>gN (b ls env) λj _=>bi (Nat.beq i j) none (U8 size a x cf ls env m)
def cK (es:List (d9×d9))(k v:d9):Nat->List (d9×d9):=
 List.rec (λ_=>[]) (λe es ih i=>Nat.rec ((k,v)::es) (λj _=>e::ih j) i) es
def nQ (m:Mem)(id:Nat)(k:d9)(es:List (d9×d9)):eD:=match m.get id with
 | some (.mapU _)=>oO k λ_=>one .undef (m.set id (.mapU es))
 | _=>one .undef (m.set id (.map es))
def J8 (f:Gd)(n:Nat)(mp k x:OF):EF:=λ_ ls env m=>tO (mp ls env) none λid=>bi (Nat.blt id m.lim) none
 (Cw (m.get id) λes=>ob (R8 f n (k ls env) es) λr=>
  Option.rec (nQ m id (k ls env) (U2 es [(k ls env,x ls env)])) (λp=>ob (oN p.1 es) λe=>
   bi (Nat.beq (len' e.1.cells) n) (nQ m id (k ls env) (cK es (k ls env) (x ls env) p.1)) none) r)
def nR (x:OF):EF:=λ_ ls env m=>tO (x ls env) (one (.ptr m.nx 0) (m.new (.iter none 0 [])))
 λid=>Ov (m.get id) λes=>one (.ptr m.nx 0) (m.new (.iter (some id) (len' es) []))
def rz (n:Nat)(l:List Nat):Bool:=List.rec false (λx _ ih=>bi (Nat.beq x n) true ih) l
def nexts (m:Mem)(id mp since:Nat)(seen:List Nat)(es:List (d9×d9)):Nat->List VM:=
 List.rec (λ_=>[]) (λe _ ih i=>bi (rz i seen) (ih (Nat.succ i))
  (⟨.tuple [.bool true,e.1,e.2],m.set id (.iter (some mp) since (i::seen))⟩::ih (Nat.succ i))) es
def Ju (m:Mem)(l:List VM):List VM:=List.rec [⟨.tuple [.bool false],m⟩] (λx xs _=>x::xs) l
def BG (it:OF):EF:=λ_ ls env m=>gN (it ls env) λid off=>bi (Nat.beq off 0) (bi (Nat.blt id m.lim) none
 (GX (m.get id) (one (.tuple [.bool false]) m) λmp since seen=>Ov (m.get mp) λes=>
  bi (Nat.beq (len' es) since) (some (Ju m (nexts m id mp since seen es 0))) none)) none
def big (n bytes es:Nat):Bool:=bi (Nat.ble (Nat.mul (Nat.add (Nat.mul 2 n) 2048) bytes) 281474976710656) (bi (Nat.ble 1 es) (Nat.ble 1 bytes) false) false
def grown (m:Mem)(es n:Nat)(cells:List d9):eD:=yK es n cells λb=>one (.sliceU m.nx 0 n es) (m.new b)
def UC (m:Mem)(es bytes n:Nat)(new:List d9):eD:=
 Nat.rec (one .nilSlice m) (λ_ _=>bi (big n bytes es) (grown m es n new) none) n
def nT (m:Mem)(es bytes n:Nat)(new:List d9)(id off len cap:Nat):eD:=
 bi (Nat.ble (Nat.add len n) cap) (jy m id (Nat.add off (Nat.mul len es)) new λm'=>one (.slice id off (Nat.add len n) cap) m')
  (bi (big (Nat.add len n) bytes es) (ob (R9 m id off (Nat.mul len es)) λold=>grown m es (Nat.add len n) (U2 old new)) none)
def BH (b:Option Q6)(c:Nat->Nat->T (List d9)->Option β)(k:Nat->Option β):Option β:=match b with
 | some (.cells rs n rows)=>c rs n rows
 | some (.tail p)=>k p
 | _=>none
def Aq (m:Mem)(es bytes n:Nat)(new:List d9)(id off len es':Nat):eD:=
 Nat.rec (one (.sliceU id off len es') m) (λ_ _=>bi (Nat.beq es es') (bi (big (Nat.add len n) bytes es) (bi (Nat.ble m.lim id) (bi (K7 new)
  (BH (m.get id)
   (λrs k rows=>
    bi (bi (Nat.beq rs es) (bi (Nat.beq off 0) (bi (Nat.ble len k) (bi (Nat.beq n 1) (bi (Nat.beq (len' new) es) (Nat.blt 0 len) false) false) false) false) false)
     (one (.sliceU m.nx 0 (Nat.succ len) es) ((m.set id .dead).new (.cells es (Nat.succ len) (rows.put len new))))
     (ob (L9 rs k rows (Nat.mul len es) off) λold=>grown (m.set id .dead) es (Nat.add len n) (U2 old new)))
   (λp=>P8 (m.get p) λ_ _ _=>bi (Nat.ble m.lim p) (bi (Nat.beq len 0) (grown (m.set p .dead) es n new) none) none)) none) none) none) none) n
def sJ (m:Mem)(es bytes n:Nat)(new:List d9)(s:d9):eD:=
 qU s (UC m es bytes n new) (λa b c d=>nT m es bytes n new a b c d) (λa b c d=>Aq m es bytes n new a b c d)
def qy (es bytes:Nat)(s x:OF):EF:=λ_ ls env m=>ob (lenOf (x ls env)) λn=>ob (bG m es n (x ls env)) λnew=>sJ m es bytes n new (s ls env)
def aaX (es:Nat)(zero:List d9)(bytes:Nat)(s x:OF):EF:=λ_ ls env m=>jN (x ls env) λn=>bi (Nat.ble (Nat.mul n bytes) 281474976710656) (bi (Nat.blt n 9223372036854775808) (sJ m es bytes n (U1 zero n) (s ls env)) none) none
def UD (es:Nat)(d s:OF):EF:=λ_ ls env m=>ob (lenOf (s ls env)) λn=>qU (d ls env) (one (.int .i64 0) m) (λid off len _=>go m n id off len (s ls env)) (λid off len _=>go m n id off len (s ls env))
where
 go (m:Mem) (n id off len:Nat) (s:d9):eD:=ob (bG m es (Nat.min n len) s) λcells=>jy m id off cells λm'=>one (.int .i64 (.ofNat (Nat.min n len))) m'
def UE (zero:List d9)(x:OF):EF:=λ_ ls env m=>
 qU (x ls env) (one (.tuple []) m) (λid off len _=>jy m id off (U1 zero len) λm'=>one (.tuple []) m')
  (λid off len _=>jy m id off (U1 zero len) λm'=>one (.tuple []) m')
def D6 (f:FuncId)(args:List OF):EF:=λcf ls env m=>cf (.func f) (evs args ls env) m
def UF (cf:G9)(m:Mem)(args:List d9)(v:d9):eD:=Lm v λfn a b=>match fn with
 | .func f=>cf (.func f) (U2 a (U2 args b)) m
 | .yield l=>cf (.yield l) (U2 a args) m
 | _=>none
def DJ (f:OF)(args:List OF):EF:=λcf ls env m=>UF cf m (evs args ls env) (f ls env)
def Yg (v:d9)(m:Mem):eD:=match v with
 | .iface t x=>one (.lY (.iface t x)) m
 | _=>none
def Jv (b:Option Q6)(k:List UInt8->Nat->Option β):Option β:=match b with
 | some (.siter s pos)=>k s pos
 | _=>none
def CZ (x:OF):EF:=λ_ ls env m=>oO (x ls env) λs=>one (.ptr m.nx 0) (m.new (.siter s 0))
def DK (it:OF):EF:=λ_ ls env m=>gN (it ls env) λid off=>bi (Nat.beq off 0) (bi (Nat.blt id m.lim) none
 (Jv (m.get id) λs pos=>bi (Nat.blt pos (len' s))
  ((λ(r:Nat×Nat)=>one (.tuple [.bool true,.int .i64 (.ofNat pos),.int .i32 (.ofNat r.1)]) (m.set id (.siter s (Nat.add pos r.2)))) (Utf8.decode ⟨s.toArray⟩ pos))
  (one (.tuple [.bool false]) m))) none
def wI (ty:Nat)(s x:OF):EF:=λcf ls env m=>match s ls env with
 | .nilSlice=>oO (x ls env) λt=>List.rec (one .nilSlice m) (λ_ _ _=>bi (big (len' t) 1 1) (one (.sliceU m.nx 0 (len' t) 1) (m.new (.buf ty t))) none) t
 | .sliceU id off len es=>match m.get id with
  | some (.buf ty' s0)=>oO (x ls env) λt=>bi (Nat.beq ty ty') (bi (Nat.beq off 0) (bi (Nat.beq es 1) (bi (Nat.beq len (len' s0)) (bi (Nat.ble m.lim id) (List.rec (one (.sliceU id off len es) m) (λ_ _ _=>bi (big (Nat.add len (len' t)) 1 1) (one (.sliceU m.nx 0 (Nat.add len (len' t)) 1) ((m.set id .dead).new (.buf ty (U2 s0 t)))) none) t) none) none) none) none) none
  | _=>qy 1 1 s x cf ls env m
 | _=>qy 1 1 s x cf ls env m
def Yh (v:d9)(k:Nat->Option β):Option β:=match v with
 | .int .i64 (.ofNat n)=>k n
 | _=>none
def Qu (ty:Nat)(p n:OF):EF:=λ_ ls env m=>Yh (n ls env) λk=>match p ls env with
 | .nilPtr=>bi (Nat.beq k 0) (one (.str []) m) none
 | .ptr id off=>bi (Nat.beq off 0) (bi (Nat.ble m.lim id) (match m.get id with
  | some (.buf ty' s)=>bi (Nat.beq ty ty') (bi (Nat.beq k (len' s)) (bi (Nat.ble k 9223372036854775807) (one (.str s) (m.set id .dead)) none) none) none
  | _=>none) none) none
 | _=>none
def Jw (x:OF):EF:=λ_ ls env m=>Yg (x ls env) m
def Yi:EF:=λ_ _ _ _=>none
def nG:Uf->EF
 | .store size a x=>U8 size (H8 a) (H8 x)
 | .storeAp size a x b=>DI size (H8 a) (H8 x) (H8 b)
 | .mapSet kk m k x=>J8 (mo kk) (Ap kk) (H8 m) (H8 k) (H8 x)
 | .range x=>nR (H8 x)
 | .next it=>BG (H8 it)
 | .app es zeros zero bytes s x=>match zeros with
  | true=>aaX es zero bytes (H8 s) (H8 x)
  | false=>qy es bytes (H8 s) (H8 x)
 | .copy es d s=>UD es (H8 d) (H8 s)
 | .clear zero x=>UE zero (H8 x)
 | .call f args=>D6 f (fH args)
 | .callv f args=>DJ (H8 f) (fH args)
 | .panic x=>Jw (H8 x)
 | .defer _ _=>Yi
 | .recover=>Yi
 | .bad=>Yi
 | .rangeS x=>CZ (H8 x)
 | .nextS it=>DK (H8 it)
 | .appB ty s x=>wI ty (H8 s) (H8 x)
 | .ustr ty p n=>Qu ty (H8 p) (H8 n)
def DL (f:α->Option (List β))(l:List α):Option (List β):=
 List.rec (some []) (λa _ ih=>ob (f a) λx=>ob ih λy=>some (x++y)) l
def bnd (x:Option (List α))(f:α->Option (List β)):Option (List β):=
 Option.rec none (λl=>List.rec (some []) (λa t _=>List.rec (f a) (λ_ _ _=>DL f l) t) l) x
structure EM where
 env:T d9
 m:Mem
 px:Option d9
 mks:List Mk
def bU (v:d9)(p:d9->β)(q:β):β:=match v with
 | .lY x=>p x
 | _=>q
abbrev RC:=G9->List d9->T d9->Mem->Option (List EM)
def o7:RC:=λ_ _ env m=>some [⟨env,m,none,[]⟩]
def I8 (f:PF)(d:d9->T d9->T d9)(k:RC):RC:=λcf ls env m=>Option.rec none (λv=>k cf (v::ls) (d v env) m) (f ls env)
def j6 (f:PF)(k:RC):RC:=λcf ls env m=>Option.rec none (λv=>k cf (v::ls) env m) (f ls env)
def rcR (f:RF)(d:d9->T d9->T d9)(k:RC):RC:=λcf ls env m=>Option.rec none (λv=>k cf (v::ls) (d v env) m) (f ls env m)
def G6 (f:RF)(k:RC):RC:=λcf ls env m=>Option.rec none (λv=>k cf (v::ls) env m) (f ls env m)
def dF (m:Mem)(b:Option Q6):Mem:=Option.rec m (λb=>m.new b) b
def nH (f:LF)(d:d9->T d9->T d9)(k:RC):RC:=λcf ls env m=>ob (f ls env m.nx) λr=>k cf (r.1::ls) (d r.1 env) (dF m r.2)
def iJ (f:LF)(k:RC):RC:=λcf ls env m=>Option.rec none (λr=>k cf (r.1::ls) env (dF m r.2)) (f ls env m.nx)
def F9 (f:EF)(k:RC):RC:=λcf ls env m=>bnd (f cf ls env m) λr=>bU r.v (λx=>some [⟨env,r.m,some x,[]⟩]) (k cf (r.v::ls) env r.m)
def Qv (f:EF)(d:d9->T d9->T d9)(k:RC):RC:=λcf ls env m=>bnd (f cf ls env m) λr=>bU r.v (λx=>some [⟨env,r.m,some x,[]⟩]) (k cf (r.v::ls) (d r.v env) r.m)
def LA (f:OF)(args:List OF):RC:=λ_ ls env m=>Lm (f ls env) λfn a b=>some [⟨env,m,none,[.d (.func fn a b) (evs args ls env)]⟩]
def oP (w:Bool)(v:d9):Bool:=match v with
 | .bool b=>Dz b w
 | _=>false
def gP (x:OF)(w:Bool)(f:PF):PF:=λls env=>bi (oP w (x ls env)) (f ls env) (some .undef)
def UG (x:OF)(w:Bool)(f:RF):RF:=λls env m=>bi (oP w (x ls env)) (f ls env m) (some .undef)
def gLk (x:OF)(w:Bool)(f:LF):LF:=λls env i=>bi (oP w (x ls env)) (f ls env i) (some (.undef,none))
def gE (x:OF)(w:Bool)(f:EF):EF:=λcf ls env m=>bi (oP w (x ls env)) (f cf ls env m) (one .undef m)
def Gl (g:Option (Q8×Bool))(f:PF):PF:=match g with
 | none=>f
 | some (x,w)=>gP (H8 x) w f
def xw (g:Option (Q8×Bool))(f:RF):RF:=match g with
 | none=>f
 | some (x,w)=>UG (H8 x) w f
def Cy (g:Option (Q8×Bool))(f:LF):LF:=match g with
 | none=>f
 | some (x,w)=>gLk (H8 x) w f
def Jy (g:Option (Q8×Bool))(f:EF):EF:=match g with
 | none=>f
 | some (x,w)=>gE (H8 x) w f
def Ui (o:yE)(d:Option Nat)(g:Option (Q8×Bool))(k:RC):RC:=match o with
 | .p o=>match d with
  | none=>j6 (Gl g (nE o)) k
  | some j=>I8 (Gl g (nE o)) (cB (some j)) k
 | .r o=>match d with
  | none=>G6 (xw g (qZ o)) k
  | some j=>rcR (xw g (qZ o)) (cB (some j)) k
 | .a o=>match d with
  | none=>iJ (Cy g (wH o)) k
  | some j=>nH (Cy g (wH o)) (cB (some j)) k
 | .e o=>match d with
  | none=>F9 (Jy g (nG o)) k
  | some j=>Qv (Jy g (nG o)) (cB (some j)) k
def oZ (i:Inst):Option (Q8×List Q8):=match i.op,i.guard,i.dst with
 | .e (.defer f as),none,none=>some (f,as)
 | _,_,_=>none
def DN (i:Inst):RC:=match oZ i with
 | some p=>LA (H8 p.1) (fH p.2)
 | none=>Ui i.op i.dst i.guard o7
def bJ:List Inst->RC
 | []=>o7
 | [i]=>DN i
 | i::j::l=>Ui i.op i.dst i.guard (bJ (j::l))
def kH (f:Q8->Q8):Ue->Ue
 | .mov x=>.mov (f x)
 | .pick a b c=>.pick (f a) (f b) (f c)
 | .build z ps=>.build z (ps.map λp=>(p.1,p.2.1,f p.2.2))
 | .nilCheck x=>.nilCheck (f x)
 | .ib o x y=>.ib o (f x) (f y)
 | .eq n k x y=>.eq n k (f x) (f y)
 | .not x=>.not (f x)
 | .neg x=>.neg (f x)
 | .inv x=>.inv (f x)
 | .conv k x=>.conv k (f x)
 | .mkIface t x=>.mkIface t (f x)
 | .mkFunc g a b=>.mkFunc g (a.map f) (b.map f)
 | .slStr x a b=>.slStr (f x) (a.map f) (b.map f)
 | .slArr e n x a b=>.slArr e n (f x) (a.map f) (b.map f)
 | .fAddr o x=>.fAddr o (f x)
 | .fld o s x=>.fld o s (f x)
 | .iAddr e x i=>.iAddr e (f x) (f i)
 | .iAddrArr e n x i=>.iAddrArr e n (f x) (f i)
 | .iArr e n s x i=>.iArr e n s (f x) (f i)
 | .iStr x i=>.iStr (f x) (f i)
 | .ext x i=>.ext (f x) i
 | .len x=>.len (f x)
 | .Q0 x=>.Q0 (f x)
 | .cap x=>.cap (f x)
 | .mm m x xs=>.mm m (f x) (xs.map f)
 | .assert t z ok x=>.assert t z ok (f x)
def Ar (f:Q8->Q8):OG->OG
 | .load s a=>.load s (f a)
 | .look k z o m x=>.look k z o (f m) (f x)
 | .lenM x=>.lenM (f x)
 | .bytesStr x=>.bytesStr (f x)
 | .entry x=>.entry (f x)
 | .slData x=>.slData (f x)
 | .toUns x=>.toUns (f x)
 | .fromUns l x=>.fromUns l (f x)
def Q7 (f:Q8->Q8):RA->RA
 | .alloc z=>.alloc z
 | .box x=>.box (f x)
 | .allocT t z=>.allocT t z
 | .boxT t k x=>.boxT t k (f x)
 | .buildSlice e l z ps=>.buildSlice e l z (ps.map λp=>(p.1,p.2.1,f p.2.2))
 | .mkMap=>.mkMap
 | .mkSlice e b z l c=>.mkSlice e b z (f l) (f c)
 | .strBytes x=>.strBytes (f x)
 | .sl e x a b=>.sl e (f x) (a.map f) (b.map f)
def sV (f:Q8->Q8):Uf->Uf
 | .store s a x=>.store s (f a) (f x)
 | .storeAp s a x b=>.storeAp s (f a) (f x) (f b)
 | .mapSet k a b c=>.mapSet k (f a) (f b) (f c)
 | .range x=>.range (f x)
 | .next x=>.next (f x)
 | .app e z zs b s x=>.app e z zs b (f s) (f x)
 | .copy e d s=>.copy e (f d) (f s)
 | .clear z x=>.clear z (f x)
 | .call g a=>.call g (a.map f)
 | .callv g a=>.callv (f g) (a.map f)
 | .defer g a=>.defer (f g) (a.map f)
 | .panic x=>.panic (f x)
 | .recover=>.recover
 | .bad=>.bad
 | .rangeS x=>.rangeS (f x)
 | .nextS x=>.nextS (f x)
 | .appB t s x=>.appB t (f s) (f x)
 | .ustr t p n=>.ustr t (f p) (f n)
def mapA (f:Q8->Q8):yE->yE
 | .p o=>.p (kH f o)
 | .r o=>.r (Ar f o)
 | .a o=>.a (Q7 f o)
 | .e o=>.e (sV f o)
def bump:Q8->Q8
 | .loc k=>.loc (k+1)
 | x=>x
def rn (r:List Q8):Q8->Q8
 | .loc k=>r.getD k (.con .undef)
 | x=>x
def xA (j:Nat):List Inst->Bool
 | []=>false
 | i::l=>i.dst==some j||xA j l
def mq (r:List Q8):List Inst->List Inst
 | []=>[]
 | i::l=>
  let keep:=⟨mapA (rn r) i.op,i.dst,i.guard.map λp=>(rn r p.1,p.2)⟩::mq (.loc 0::r.map bump) l
  match i.op,i.dst,i.guard with
  | .p (.mov x),none,none=>match rn r x with
   | .slot j=>bif xA j l then keep else mq (.slot j::r) l
   | y=>mq (y::r) l
  | _,_,_=>keep
def wu (f:d9->d9->Bool)(a:List d9):List d9->Bool:=
 List.rec (λb=>List.rec true (λ_ _ _=>false) b) (λx _ ih b=>List.rec false (λy ys _=>bi (f x y) (ih ys) false) b) a
def aB (n:Nat):d9->d9->Bool:=Nat.rec (λ_ _=>false) (λ_ ih x y=>match x,y with
  | .bool a,.bool b=>Dz a b
  | .int k a,.int k' b=>bi (Yb k k') (bY a b) false
  | .str a,.str b=>strEq a b
  | .nilPtr,.nilPtr=>true
  | .ptr a b,.ptr c d=>bi (Nat.beq a c) (Nat.beq b d) false
  | .nilSlice,.nilSlice=>true
  | .slice a b c d,.slice a' b' c' d'=>bi (Nat.beq a a') (bi (Nat.beq b b') (bi (Nat.beq c c') (Nat.beq d d') false) false) false
  | .sliceU a b c d,.sliceU a' b' c' d'=>bi (Nat.beq a a') (bi (Nat.beq b b') (bi (Nat.beq c c') (Nat.beq d d') false) false) false
  | .nilMap,.nilMap=>true
  | .map a,.map b=>Nat.beq a b
  | .nilFunc,.nilFunc=>true
  | .func (.func f) a b,.func (.func g) c d=>bi (Nat.beq f g) (bi (wu ih a c) (wu ih b d) false) false
  | .func (.yield f) a b,.func (.yield g) c d=>bi (Nat.beq f g) (bi (wu ih a c) (wu ih b d) false) false
  | .nilIface,.nilIface=>true
  | .iface t a,.iface u b=>bi (Nat.beq t u) (ih a b) false
  | .agg a,.agg b=>wu ih a b
  | .tuple a,.tuple b=>wu ih a b
  | .undef,.undef=>true
  | _,_=>false) n
abbrev DC:=G9->Nat->List d9->T d9->Mem->List Mem->Option (List EM)
def stable (f:RF)(ls:List d9)(env:T d9)(v:d9)(n:Nat):List Mem->Bool:=
 Nat.rec (λ_=>true) (λ_ ih gs=>List.rec false (λm ms _=>bi (Option.rec false (λu=>aB 100 u v) (f ls env m)) (ih ms) false) gs) n
def tl (l:List Mem):List Mem:=List.rec [] (λ_ t _=>t) l
def qz:DC:=λ_ _ _ env m _=>some [⟨env,m,none,[]⟩]
def P7 (f:PF)(d:d9->T d9->T d9)(k:DC):DC:=λcf b ls env m gs=>ob (f ls env) λv=>k cf b (v::ls) (d v env) m gs
def hd (m:Mem)(gs:List Mem):Mem:=List.rec m (λg _ _=>g) gs
def isVoid (b:Option Q6):Bool:=match b with
 | some .void=>true
 | _=>false
def lH (i:Nat)(gs:List Mem):Bool:=List.rec true (λg _ ih=>bi (isVoid (g.get i)) ih false) gs
def OI (x:Option (List α))(f:α->Option β):Option β:=
 Option.rec none (λl=>List.rec none (λa t _=>List.rec (f a) (λ_ _ _=>none) t) l) x
def mD (f:RF)(c:Nat)(d:d9->T d9->T d9)(k:DC):DC:=λcf b ls env m gs=>ob (f ls env (hd m gs)) λv=>bi (stable f ls env v c (tl gs)) (k cf b (v::ls) (d v env) m gs) none
def isCells (b:Option Q6):Bool:=match b with
 | some (.cells _ _ _)=>true
 | _=>false
def ag4 (x:OF)(c:Nat)(d:d9->T d9->T d9)(k:DC):DC:=λcf b ls env m gs=>match x ls env with
 | .slice id _ _ _=>bi (isVoid ((hd m gs).get id)) (bi (isCells (m.get id)) (ob (dw x ls env m) λv=>k cf b (v::ls) (d v env) m gs) none) (mD (dw x) c d k cf b ls env m gs)
 | _=>mD (dw x) c d k cf b ls env m gs
def acd (c:Nat)(o:OG)(d:Option Nat)(g:Option (Q8×Bool))(k:DC):DC:=match o,g with
 | .bytesStr y,none=>ag4 (H8 y) c (cB d) k
 | o,g=>mD (xw g (qZ o)) c (cB d) k
def LB (m:Mem)(i:Nat)(b:Option Q6):Mem:=Option.rec m (λb=>m.set i b) b
def dcL (f:LF)(c:Nat)(d:d9->T d9->T d9)(k:DC):DC:=λcf b ls env m gs=>ob (f ls env (Nat.add b c)) λr=>bi (isVoid (m.get (Nat.add b c))) (bi (lH (Nat.add b c) gs) (k cf b (r.1::ls) (d r.1 env) (LB m (Nat.add b c) r.2) gs) none) none
abbrev GF:=Nat->List d9->T d9->Mem->List Mem->List (T d9)->Option (List (T d9))
def gu:GF:=λ_ _ _ _ _ es=>some es
def Uj:GF:=λ_ _ _ _ _ _=>none
def fP (d:d9->T d9->T d9)(k:GF):GF:=λb ls env m gs es=>k b (.undef::ls) (d .undef env) m gs es
def LC (d:d9->T d9->T d9)(k:GF):GF:=λb ls env m gs es=>k b (.undef::ls) (d .undef env) m (m::gs) es
def ghA (f:LF)(c:Nat)(d:d9->T d9->T d9)(k:GF):GF:=λb ls env m gs es=>Option.rec (k b (.undef::ls) (d .undef env) m gs es) (λ_=>none) (f ls env (Nat.add b c))
def UH (f:T d9->T d9)(l:List (T d9)):List (T d9):=List.rec [] (λx _ ih=>f x::ih) l
def Uk (w:Bool)(f:T d9->T d9)(es:List (T d9)):List (T d9):=bi w (U2 es (UH f es)) es
def BI:d9->Bool
 | .int _ _ | .bool _ | .str _=>true
 | _=>false
def RG (w:Bool)(v:d9):Bool:=bi w (BI v) true
def ak (f:PF)(w:Bool)(d:d9->T d9->T d9)(k:GF):GF:=λb ls env m gs es=>ob (f ls env) λv=>bi (RG w v) (k b (v::ls) (d v env) m gs (Uk w (d v) es)) none
def Cz (f:RF)(c:Nat)(w:Bool)(d:d9->T d9->T d9)(k:GF):GF:=λb ls env m gs es=>ob (f ls env (hd m gs)) λv=>bi (stable f ls env v c (tl gs)) (bi (RG w v) (k b (v::ls) (d v env) m gs (Uk w (d v) es)) none) none
def ghL (f:LF)(c:Nat)(k:GF):GF:=λb ls env m gs es=>ob (f ls env (Nat.add b c)) λr=>bi (isVoid (m.get (Nat.add b c))) (bi (lH (Nat.add b c) gs) (k b (r.1::ls) env (LB m (Nat.add b c) r.2) gs es) none) none
def UJ (ds:List Bool):Q8->Bool
 | .loc k=>ds.getD k false
 | _=>false
def tY (ds:List Bool)(i:Inst):Bool:=(Dx i.op).any (UJ ds)||(match i.guard with
 | some p=>UJ ds p.1
 | none=>false)
def tZ:List (Nat×Inst)->List Bool->GF
 | [],_=>gu
 | x::l,ds=>match x.2.op with
  | .e _=>LC (cB x.2.dst) (tZ l (true::ds))
  | .a o=>bif tY ds x.2 then ghA (Cy x.2.guard (wH o)) x.1 (cB x.2.dst) (tZ l (true::ds)) else (match x.2.dst with
   | none=>ghL (Cy x.2.guard (wH o)) x.1 (tZ l (false::ds))
   | some _=>Uj)
  | .r o=>bif tY ds x.2 then fP (cB x.2.dst) (tZ l (true::ds)) else Cz (xw x.2.guard (qZ o)) x.1 x.2.dst.isSome (cB x.2.dst) (tZ l (false::ds))
  | .p o=>bif tY ds x.2 then fP (cB x.2.dst) (tZ l (true::ds)) else ak (Gl x.2.guard (nE o)) x.2.dst.isSome (cB x.2.dst) (tZ l (false::ds))
def Gm:List (Nat×Inst)->List Bool->Bool
 | [],_=>true
 | x::l,ds=>match x.2.op with
  | .e _=>Gm l (true::ds)
  | .a _=>bif tY ds x.2 then Gm l (true::ds) else (x.2.dst.isNone&&Gm l (false::ds))
  | .r _=>Gm l (tY ds x.2::ds)
  | .p _=>Gm l (tY ds x.2::ds)
def Yj (o:yE)(l:List (Nat×Inst)):GF:=match o with
 | .e (.call _ _)=>bif Gm l [true] then tZ l [true] else Uj
 | .e (.callv _ _)=>bif Gm l [true] then tZ l [true] else Uj
 | .e (.panic _)=>bif Gm l [true] then tZ l [true] else Uj
 | _=>Uj
def uf (m:Mem)(x:d9)(es:List (T d9)):List EM:=List.rec [] (λv _ ih=>⟨v,m,some x,[]⟩::ih) es
def yM (f:EF)(gh:GF)(d:d9->T d9->T d9)(k:DC):DC:=λcf b ls env m gs=>OI (f cf ls env m) λr=>bU r.v (λx=>ob (gh b (.undef::ls) (d .undef env) m (m::gs) [env]) λes=>some (uf r.m x es)) (k cf b (r.v::ls) (d r.v env) r.m (r.m::gs))
def ace (c:Nat)(o:yE)(d:Option Nat)(g:Option (Q8×Bool))(gh:GF)(k:DC):DC:=match o with
 | .p o=>P7 (Gl g (nE o)) (cB d) k
 | .r o=>acd c o d g k
 | .a o=>dcL (Cy g (wH o)) c (cB d) k
 | .e o=>yM (Jy g (nG o)) gh (cB d) k
def ug:List (Nat×Inst)->DC
 | []=>qz
 | (c,i)::l=>ace c i.op i.dst i.guard (Yj i.op l) (ug l)
def reserve (n:Nat)(m:Mem):Mem:=Nat.rec (λm=>m) (λ_ ih m=>ih (m.new .void)) n m
structure Out where
 x:bT
 env:T d9
 m:Mem
 marks:List Mk
 pv:Option d9
abbrev SC:=G9->Nat->Option Nat->T d9->Mem->List Mk->Option (List Out)
def nU (x:bT)(env:T d9)(m:Mem)(k:List Mk):Option (List Out):=some [⟨x,env,m,k,none⟩]
def D7:SC:=λ_ _ _ env m k=>nU .normal env m k
def gQ (k:List Mk)(e:EM):Option (List Out):=
 Option.rec (nU .normal e.env e.m (U2 e.mks k)) (λx=>some [⟨.ret,e.env,e.m,U2 e.mks k,some x⟩]) e.px
def j5 (r:RC):SC:=λcf _ _ env m k=>bnd (r cf [] env m) (gQ k)
def Jz (r:RC):SC:=λcf _ ir env m k=>Option.rec (bnd (r cf [] env m) (gQ k)) (λ_=>none) ir
def jk:List Inst->Bool
 | []=>false
 | i::l=>(oZ i).isSome||jk l
def cO (n:Nat)(r:DC):SC:=λcf _ _ env m k=>bnd (r cf m.nx [] env (reserve n m) [reserve n m]) (gQ k)
def j4 (a b:SC):SC:=λcf fuel ir env m k=>bnd (a cf fuel ir env m k) λo=>bT.rec (b cf fuel ir o.env o.m o.marks) (λ_=>some [o]) (some [o]) o.x
def p9 (c:OF)(a b:SC):SC:=λcf fuel ir env m k=>oV (c [] env) λt=>bi t (a cf fuel ir env m k) (b cf fuel ir env m k)
def D5 (id:Nat)(a:SC):SC:=λcf fuel ir env m k=>bnd (a cf fuel ir env m k) λo=>bT.rec (some [o]) (λid'=>bi (Nat.beq id id') (nU .normal o.env o.m o.marks) (some [o])) (some [o]) o.x
def A9 (body:T d9->Mem->List Mk->Option (List Out))(n:Nat):T d9->Mem->List Mk->Option (List Out):=
 Nat.rec (λ_ _ _=>none) (λ_ ih env m k=>bnd (body env m k) λo=>bT.rec (ih o.env o.m o.marks) (λ_=>some [o]) (some [o]) o.x) n
def P9 (a:SC):SC:=λcf fuel ir env m k=>A9 (λenv m k=>a cf fuel ir env m k) fuel env m k
def mE (id:Nat):SC:=λ_ _ _ env m k=>nU (.exit id) env m k
def C9:SC:=λ_ _ _ env m k=>nU .ret env m k
def pq (b:Option Q6)(f:LoopState->Option bT->T d9->List (Option Nat)->U7->U7->Option β):Option β:=match b with
 | some (.loop st pend env params assign body)=>f st pend env params assign body
 | _=>none
def UK (cf:G9)(m:Mem)(args:List d9)(v:d9):eD:=Lm v λfn a b=>match fn with
 | .func f=>cf (.func f) (U2 a (U2 args b)) m
 | _=>none
def OJ (cf:G9)(f:d9)(params:List (Option Nat))(assign body:U7)(env:T d9)(m:Mem)(k:List Mk):Option (List Out):=
 bnd (UK cf (m.new (.loop .ready none env params assign body)) [.func (.yield m.nx) [] []] f) λr=>bU r.v (λ_=>none) <|
  pq (r.m.get m.nx) λst pend _ _ _ _=>match st with
   | .busy=>none
   | _=>match pend with
    | none=>nU .normal env (r.m.set m.nx .dead) k
    | some x=>nU x env (r.m.set m.nx .dead) k
def Qw (f:OF)(params:List (Option Nat))(assign body:U7):SC:=λcf _ ir env m k=>
 Option.rec (OJ cf (f [] env) params assign body env (m.new .deferred) (.c m.nx::k))
  (λl=>pq (m.get l) λ_ _ _ _ _ _=>OJ cf (f [] env) params assign body env m k) ir
def CB:U7->SC
 | .skip=>D7
 | .reg ops=>bif jk ops then Jz (bJ ops) else j5 (bJ (mq [] ops))
 | .dreg n ops=>cO n (ug ops)
 | .dreg2 n ops t=>j4 (cO n (ug ops)) (j5 (bJ t))
 | .seq a b=>j4 (CB a) (CB b)
 | .cond c a b=>p9 (H8 c) (CB a) (CB b)
 | .block id a=>D5 id (CB a)
 | .loop a=>P9 (CB a)
 | .exit id=>mE id
 | .ret=>C9
 | .rangeFunc f params assign body=>Qw (H8 f) params assign body
def dx (js:List (Option Nat)):List d9->T d9->Option (T d9):=
 List.rec (λvs env=>List.rec (some env) (λ_ _ _=>none) vs) (λj _ ih vs env=>List.rec none (λv vs _=>ih vs (cB j v env)) vs) js
def results (rs:List pY)(env:T d9)(m:Mem):Option (List d9):=
 List.rec (some []) (λr _ ih=>ob (match r with
  | .tmp j=>T.get env j
  | .cell j size=>ob (T.get env j) λp=>gN p λid off=>P8 (m.get id) λrs n rows=>match size with
   | none=>cell1 rs n rows off
   | some k=>ob (jO rs n rows off k) λl=>some (.agg l)) λv=>ob ih λl=>some (v::l)) rs
def result (l:List d9):d9:=List.rec (.tuple l) (λv t _=>List.rec v (λ_ _ _=>.tuple l) t) l
def Yk (b:Option Q6)(k:Option β):Option β:=match b with
 | some .deferred=>k
 | _=>none
abbrev kR:=FuncId->List d9->Option d9->Mem->Option (List (Mem×Option d9))
def UL (dcf:kR)(v:d9)(args:List d9)(md:Option d9)(m:Mem):Option (List (Mem×Option d9)):=Lm v λfn a b=>match fn with
 | .func f=>dcf f (U2 a (U2 args b)) md m
 | _=>none
def DR (dcf:kR)(fin:Option d9->Mem->eD):List Mk->Option d9->Mem->eD:=
 List.rec (λmd m=>fin md m) (λx _ ih md m=>match x with
  | .c id=>Yk (m.get id) (ih md (m.set id .dead))
  | .d v args=>bnd (UL dcf v args md m) λr=>ih r.2 r.1)
def xB (rs:List pY)(env:T d9)(md:Option d9)(m:Mem):eD:=
 Option.rec (ob (results rs env m) λl=>one (result l) m) (λx=>one (.lY x) m) md
def leave (dcf:kR)(rs:List pY)(o:Out):eD:=bT.rec (DR dcf (xB rs o.env) o.marks none o.m) (λ_=>none) (DR dcf (xB rs o.env) o.marks o.pv o.m) o.x
def roundEnd (l:Nat)(o:Out):eD:=match o.marks,o.pv with
 | _ :: _,_=>none
 | _,some _=>none
 | [],none=>pq (o.m.get l) λst pend env params assign body=>match st,pend with
  | .busy,none=>match o.x with
   | .normal=>one (.bool true) (o.m.set l (.loop .ready none env params assign body))
   | x=>one (.bool false) (o.m.set l (.loop .done (some x) env params assign body))
  | _,_=>none
mutual
def Gn (lo:Nat):d9->List Nat
 | .ptr i _ | .slice i _ _ _ | .sliceU i _ _ _ | .map i=>bi (Nat.ble lo i) [i] []
 | .func _ a b=>sW lo a++sW lo b
 | .iface _ v=>Gn lo v
 | .agg l=>sW lo l
 | .tuple l=>sW lo l
 | _=>[]
def sW (lo:Nat):List d9->List Nat
 | []=>[]
 | v::l=>Gn lo v++sW lo l
end
inductive NB where
 | cells (rs:Nat) (rows:List (List d9))
 | map (es:List (d9×d9))
 | tail (p:Nat)
 | dead
 deriving Inhabited
def xC (b:Q6):Option NB:=match b with
 | .cells rs n rows=>ob (rows.slice n 0) λl=>some (.cells rs l)
 | .map es=>some (.map es)
 | .tail p=>some (.tail p)
 | .dead=>some .dead
 | _=>none
def LD (lo:Nat):List (List d9)->List Nat
 | []=>[]
 | l::ls=>sW lo l++LD lo ls
def UM (lo:Nat):List (d9×d9)->List Nat
 | []=>[]
 | e::es=>Gn lo e.1++(Gn lo e.2++UM lo es)
def LG (lo:Nat):NB->List Nat
 | .cells _ rows=>LD lo rows
 | .map es=>UM lo es
 | .tail p=>bi (Nat.ble lo p) [p] []
 | .dead=>[]
def GZ (n:Nat)(l:List (Nat×NB)):Bool:=List.rec false (λx _ ih=>bi (Nat.beq x.1 n) true ih) l
def reach (m:Mem)(lo n:Nat):List Nat->List (Nat×NB)->Option (List (Nat×NB)):=
 Nat.rec (λ_ _=>none) (λ_ ih work seen=>List.rec (some seen.reverse) (λw ws _=>
  bi (GZ w seen) (ih ws seen) (ob (m.get w) λb=>ob (xC b) λnb=>ih (LG lo nb++ws) ((w,nb)::seen))) work) n
def placeOf (i:Nat)(l:List Nat):Nat->Option Nat:=List.rec (λ_=>none) (λx _ ih k=>bi (Nat.beq x i) (some k) (ih (Nat.succ k))) l
mutual
def eZ (r:Nat->Option Nat):d9->Option d9
 | .ptr i o=>ob (r i) λj=>some (.ptr j o)
 | .slice i o l c=>ob (r i) λj=>some (.slice j o l c)
 | .sliceU i o l c=>ob (r i) λj=>some (.sliceU j o l c)
 | .map i=>ob (r i) λj=>some (.map j)
 | .func fn a b=>match fn with
  | .yield _=>none
  | fn=>ob (kI r a) λx=>ob (kI r b) λy=>some (.func fn x y)
 | .iface t v=>ob (eZ r v) λx=>some (.iface t x)
 | .agg l=>ob (kI r l) λx=>some (.agg x)
 | .tuple l=>ob (kI r l) λx=>some (.tuple x)
 | .lY _=>none
 | v=>some v
def kI (r:Nat->Option Nat):List d9->Option (List d9)
 | []=>some []
 | v::l=>ob (eZ r v) λx=>ob (kI r l) λy=>some (x::y)
end
def nV (r:Nat->Option Nat):List (List d9)->Option (List (List d9))
 | []=>some []
 | l::ls=>ob (kI r l) λx=>ob (nV r ls) λy=>some (x::y)
def CF (r:Nat->Option Nat):List (d9×d9)->Option (List (d9×d9))
 | []=>some []
 | e::es=>ob (eZ r e.1) λx=>ob (eZ r e.2) λy=>ob (CF r es) λz=>some ((x,y)::z)
def oQ (r:Nat->Option Nat):NB->Option NB
 | .cells rs rows=>ob (nV r rows) λx=>some (.cells rs x)
 | .map es=>ob (CF r es) λx=>some (.map x)
 | .tail p=>ob (r p) λq=>some (.tail q)
 | .dead=>some .dead
def wJ (r:Nat->Option Nat):List NB->Option (List NB)
 | []=>some []
 | p::l=>ob (oQ r p) λx=>ob (wJ r l) λy=>some (x::y)
structure CO where
 ids:List Nat
 vs:List d9
 bs:List NB
def wz (lo:Nat)(ids:List Nat)(i:Nat):Option Nat:=bi (Nat.ble lo i) (placeOf i ids lo) (some i)
def je (lo:Nat)(vs:List d9)(m:Mem):Option CO:=
 ob (reach m lo 100000 (sW lo vs) []) λseen=>ob (kI (wz lo (seen.map (·.1))) vs) λxs=>ob (wJ (wz lo (seen.map (·.1))) (seen.map (·.2))) λbs=>some ⟨seen.map (·.1),xs,bs⟩
def iQ:NB->Q6
 | .cells rs rows=>.cells rs (len' rows) (T.ofList rows)
 | .map es=>.map es
 | .tail p=>.tail p
 | .dead=>.dead
def layAll (bs:List NB):Mem->Mem:=List.rec (λm=>m) (λb _ ih m=>ih (m.new (iQ b))) bs
def Au:List (List d9)->List (List d9)->Bool
 | [],[]=>true
 | a::x,b::y=>bi (wu (aB 100) a b) (Au x y) false
 | _,_=>false
def He:List (d9×d9)->List (d9×d9)->Bool
 | [],[]=>true
 | a::x,b::y=>bi (aB 100 a.1 b.1) (bi (aB 100 a.2 b.2) (He x y) false) false
 | _,_=>false
def UN:NB->NB->Bool
 | .cells r a,.cells s b=>bi (Nat.beq r s) (Au a b) false
 | .map a,.map b=>He a b
 | .tail p,.tail q=>Nat.beq p q
 | .dead,.dead=>true
 | _,_=>false
def kS:List NB->List NB->Bool
 | [],[]=>true
 | a::x,b::y=>bi (UN a b) (kS x y) false
 | _,_=>false
structure BJ where
 v:d9
 bs:List NB
def BK (lo:Nat)(r:VM):Option BJ:=ob (je lo [r.v] r.m) λc=>List.rec none (λv _ _=>some ⟨v,c.bs⟩) c.vs
def JA (lo:Nat)(l:List VM):Option BJ:=
 List.rec none (λr rs ih=>ob (BK lo r) λa=>List.rec (some a) (λ_ _ _=>ob ih λb=>bi (aB 100 a.v b.v) (bi (kS a.bs b.bs) (some a) none) none) rs) l
structure W9 where
 pure:Bool
 args:List (Option Nat)
 nslots:Nat
 results:List pY
 code:SC
 rcode:Option U7
structure Known where
 fns:FuncId->Option W9
 base:Mem
 sum:FuncId->List d9->List NB->Option BJ
 eff:FuncId->List d9->Mem->eD
def lS (cf:G9)(dcf:kR)(fuel:Nat)(f:W9)(args:List d9)(m:Mem):eD:=
 ob (dx f.args args (T.rep .undef f.nslots .e 0)) λenv=>bnd (f.code cf fuel none env m []) (leave dcf f.results)
structure LH where
 o:Out
 md:Option d9
def isRec (i:Inst):Bool:=match i.op,i.guard with
 | .e .recover,none=>true
 | _,_=>false
def OL:List Inst->Bool
 | []=>false
 | i::l=>isRec i||OL l
def wB:List Inst->G9->List d9->T d9->Mem->Option d9->Option (List (EM×Option d9))
 | [],_,_,env,m,md=>some [(⟨env,m,none,[]⟩,md)]
 | i::l,cf,ls,env,m,md=>match isRec i with
  | true=>match md with
   | some x=>wB l cf (x::ls) (cB i.dst x env) m none
   | none=>wB l cf (.nilIface::ls) (cB i.dst .nilIface env) m none
  | false=>match i.op with
   | .p o=>ob (Gl i.guard (nE o) ls env) λv=>wB l cf (v::ls) (cB i.dst v env) m md
   | .r o=>ob (xw i.guard (qZ o) ls env m) λv=>wB l cf (v::ls) (cB i.dst v env) m md
   | _=>none
def Qx:U7->G9->Nat->T d9->Mem->Option d9->Option (List LH)
 | .seq a b,cf,fuel,env,m,md=>bnd (Qx a cf fuel env m md) λr=>match r.o.x with
  | .normal=>match r.o.marks with
   | []=>Qx b cf fuel r.o.env r.o.m r.md
   | _=>none
  | _=>some [r]
 | .cond c a b,cf,fuel,env,m,md=>oV (H8 c [] env) λt=>bi t (Qx a cf fuel env m md) (Qx b cf fuel env m md)
 | .reg ops,cf,fuel,env,m,md=>match OL ops with
  | true=>bnd (wB ops cf [] env m md) λr=>some [⟨⟨.normal,r.1.env,r.1.m,[],none⟩,r.2⟩]
  | false=>bnd (CB (.reg ops) cf fuel none env m []) λo=>some [⟨o,md⟩]
 | c,cf,fuel,env,m,md=>bnd (CB c cf fuel none env m []) λo=>some [⟨o,md⟩]
def UO (rs:List pY)(r:LH):Option (List (Mem×Option d9)):=match r.o.x,r.o.marks,r.o.pv with
 | .exit _,_,_=>none
 | _,[],none=>ob (results rs r.o.env r.o.m) λ_=>some [(r.o.m,r.md)]
 | _,_,_=>none
def al1 (cf:G9)(fuel:Nat)(f:W9)(args:List d9)(md:Option d9)(m:Mem):Option (List (Mem×Option d9)):=
 ob f.rcode λc=>ob (dx f.args args (T.rep .undef f.nslots .e 0)) λenv=>bnd (Qx c cf fuel env m md) (UO f.results)
def Mem.shut (m:Mem):Mem:=⟨m.t,m.nx,m.nx⟩
def uh (K:Known)(cf:G9)(fuel:Nat):kR:=λf args md m=>ob (K.fns f) λsf=>al1 cf fuel sf args md m
def BL (K:Known)(cf:G9)(fuel:Nat)(f:FuncId)(sf:W9)(args:List d9)(bs:List NB):Option BJ:=
 Option.rec (ob (lS cf (uh K cf fuel) fuel sf args (layAll bs K.base).shut) λl=>JA (layAll bs K.base).nx l) (λa=>some a) (K.sum f args bs)
def mF (g:Nat)(ids:List Nat)(next i:Nat):Option Nat:=
 bi (Nat.blt i g) (some i) (bi (Nat.blt (Nat.sub i g) (len' ids)) (oN (Nat.sub i g) ids) (some (Nat.add next (Nat.sub (Nat.sub i g) (len' ids)))))
def iR (K:Known)(cf:G9)(fuel:Nat)(f:FuncId)(sf:W9)(args:List d9)(m:Mem):eD:=
 ob (je K.base.nx args m) λc=>ob (BL K cf fuel f sf c.vs c.bs) λa=>ob (eZ (mF K.base.nx c.ids m.nx) a.v) λv=>ob (wJ (mF K.base.nx c.ids m.nx) a.bs) λbs=>one v (layAll bs m)
def JB (cf:G9)(fuel l:Nat)(args:List d9)(m:Mem):eD:=
 bi (Nat.blt l m.lim) none (pq (m.get l) λst pend env params assign body=>match st,pend with
  | .ready,none=>ob (dx params args env) λenv1=>bnd (CB assign cf fuel (some l) env1 m []) λo=>match o.x,o.marks with
   | .normal,[]=>pq (o.m.get l) λst2 pend2 env2 params2 assign2 body2=>match st2,pend2 with
    | .ready,none=>bnd (CB body cf fuel (some l) o.env (o.m.set l (.loop .busy none env2 params2 assign2 body2)) []) (roundEnd l)
    | _,_=>none
   | _,_=>none
  | _,_=>none)
def l7 (K:Known)(fuel n:Nat):G9:=
 Nat.rec (λ_ _ _=>none) (λ_ ih fn args m=>match fn with
  | .func f=>Option.rec (ob (K.fns f) λsf=>bi sf.pure (iR K ih fuel f sf args m) (lS ih (uh K ih fuel) fuel sf args m)) (λl=>some l) (K.eff f args m)
  | .yield l=>JB ih fuel l args m
  | _=>none) n
mutual
def ofValue:Value->Option d9
 | .bool b=>some (.bool b)
 | .int k n=>some (.int k n)
 | .string s=>some (.str s.data.toList)
 | .pointer none=>some .nilPtr
 | .slice none 0 0=>some .nilSlice
 | .map none=>some .nilMap
 | .func (.func f) ⟨[]⟩ ⟨[]⟩=>some (.func (.func f) [] [])
 | .nilFunc=>some .nilFunc
 | .nilIface=>some .nilIface
 | .agg ⟨l⟩=>match ofValues l with
  | some x=>some (.agg x)
  | none=>none
 | .tuple ⟨[]⟩=>some (.tuple [])
 | _=>none
def ofValues:List Value->Option (List d9)
 | []=>some []
 | v::l=>match ofValue v,ofValues l with
  | some x,some y=>some (x::y)
  | _,_=>none
end
section
variable (P:Program)
def aS (t:TypeId):Option Nat:=(P.info? t).map (·.size)
def fI (t:TypeId):Option Nat:=(P.info? t).map (·.bytes)
def wC (t:TypeId):Option Bool:=match P.underlying t with
 | some (.struct _) | some (.array _ _)=>some true
 | some _=>some false
 | none=>none
def partT (t:TypeId):Option (Option Nat):=match wC P t,aS P t with
 | some true,some n=>some (some n)
 | some false,some _=>some none
 | _,_=>none
def qA (t:TypeId):Option (List d9):=match (P.info? t).bind (·.zero) with
 | some z=>match ofValue z with
  | some a=>some a.cells
  | none=>none
 | none=>none
def zeroV (t:TypeId):Option d9:=match (P.info? t).bind (·.zero) with
 | some z=>ofValue z
 | none=>none
def nW (f:TypeId->Option (List PK)):List Field->Nat->Option (List PK)
 | [],_=>some []
 | fd::l,off=>if fd.name≠ "_"∧fd.offset=off then match f fd.type with
   | some ks=>match nW f l (off+ks.length) with
    | some r=>some (ks++r)
    | none=>none
   | none=>none
  else none
def fA:Nat->TypeId->Option (List PK)
 | 0,_=>none
 | d+1,t=>match P.underlying t with
  | some .bool=>if aS P t=some 1 then some [.b] else none
  | some (.int _)=>if aS P t=some 1 then some [.i] else none
  | some .string=>if aS P t=some 1 then some [.s] else none
  | some (.struct fs)=>match nW (fA d) fs.toList 0 with
   | some ks=>if P.stoodInHeld t=false∧aS P t=some ks.length then some ks else none
   | none=>none
  | _=>none
def UQ (cst:Bool)(t:TypeId):Option Ad:=match P.underlying t with
 | some .bool=>some (.prim .b)
 | some (.int _)=>some (.prim .i)
 | some .string=>some (.prim .s)
 | some (.struct _)=>match fA P 10 t with
  | some k=>if P.eqGuardType P.depth t=false then some (.flat k) else none
  | none=>none
 | some (.pointer e)=>match aS P e with
  | some _=>some .ptr
  | none=>none
 | some (.slice _)=>some .slice
 | some (.map _ _)=>some .map
 | some (.func ..)=>some .func
 | some (.interface _)=>if cst then some .iface else none
 | _=>none
def Yl (t:TypeId):Option Ad:=match P.underlying t with
 | some (.array n e)=>match P.underlying e with
  | some (.int _)=>if aS P e=some 1∧P.eqGuardType P.depth t=false then some (.flat (List.replicate n .i)) else none
  | _=>none
 | _=>none
def UR (cst:Bool)(t:TypeId):Option Ad:=match UQ P cst t with
 | some k=>some k
 | none=>Yl P t
def CJ (t:TypeId):Option (List d9):=match qA P t,aS P t with
 | some z,some k=>if z.length=k then some z else none
 | _,_=>none
def aaY (t:TypeId):Bool:=match P.info? t with
 | some {desc:=.named n _,..}=>n == "strings.Builder"
 | _=>false
def OM (t:TypeId):Bool:=aaY P t||(match P.underlying t with
 | some (.struct fs)=>fs.toList.any λf=>aaY P f.type
 | _=>false)
def LJ (u:TypeId):List (Nat×Nat):=(List.range P.types.size).flatMap λty=>if OM P ty&&P.cellsOf ty != 0 then
 ((if liesAt P P.depth ty 1 0 u 1 then [(ty,0)] else [])++(match P.underlying ty with
  | some (.struct fs)=>fs.toList.flatMap λf=>if f.offset≠0∧liesAt P P.depth ty 1 f.offset u 1 then [(ty,f.offset)] else []
  | _=>[])) else []
def BM (e:TypeId):Bool:=(match P.underlying e with
 | some (.int .u8)=>true
 | _=>false)&&aS P e==some 1&&fI P e==some 1&&(CJ P e).isSome
def sZ (t:TypeId):Option Ad:=match UQ P false t with
 | some (.prim j)=>some (.prim j)
 | some (.flat ks)=>some (.flat ks)
 | _=>none
end
def idxOf (t:Nat):List Nat->Nat->Option Nat
 | [],_=>none
 | x::l,i=>bif Nat.beq x t then some i else idxOf t l (i+1)
def iK (t:Nat):List (Option Nat)->Nat->Option Nat
 | [],_=>none
 | some x::l,i=>bif Nat.beq x t then some i else iK t l (i+1)
 | none::l,i=>iK t l (i+1)
section
variable (P:Program)(slots:List Nat)(done:List (Option Nat))
def N8:Operand->Option Q8
 | .tmp t=>match iK t done 0 with
  | some k=>some (.loc k)
  | none=>match idxOf t slots 0 with
   | some j=>some (.slot j)
   | none=>none
 | .const v=>match ofValue v with
  | some a=>some (.con a)
  | none=>none
 | .global g=>if g<P.globals.size then some (.con (.ptr g 0)) else none
 | .func f=>some (.con (.func (.func f) [] []))
def jB:List Operand->Option (List Q8)
 | []=>some []
 | x::l=>match N8 P slots done x,jB l with
  | some a,some b=>some (a::b)
  | _,_=>none
def cOpt:Option Operand->Option (Option Q8)
 | none=>some none
 | some x=>match N8 P slots done x with
  | some a=>some (some a)
  | none=>none
def wK:Operand->Bool
 | .const _=>true
 | _=>false
def uj (place:Nat->Option (Nat×Nat)):List (Nat×Operand)->Option (List (Nat×Nat×Q8))
 | []=>some []
 | p::l=>match place p.1,N8 P slots done p.2,uj place l with
  | some (o,s),some x,some r=>some ((o,s,x)::r)
  | _,_,_=>none
def placesOf:List Field->Option (List (Nat×Nat))
 | []=>some []
 | f::l=>match aS P f.type,placesOf l with
  | some s,some r=>some ((f.offset,s)::r)
  | _,_=>none
def xD (t:TypeId)(parts:List (Nat×Operand)):Option yE:=
 match qA P t,P.underlying t with
 | some zero,some (.struct fields)=>match placesOf P fields.toList with
  | some pl=>match uj P slots done (λi=>pl[i]?) parts with
   | some ps=>some (.p (.build zero ps))
   | none=>none
  | none=>none
 | some zero,some (.array _ elem)=>match aS P elem with
  | some s=>match uj P slots done (λi=>some (i*s,s)) parts with
   | some ps=>some (.p (.build zero ps))
   | none=>none
  | none=>none
 | _,_=>none
def acf:TypeDesc->Bool
 | .string=>true
 | _=>false
def um (b:Builtin)(ts:List TypeId)(args:List Operand):Option yE:=do
 match b,ts,args with
 | .len,[t],[x]=>match ← P.underlying t with
  | .string=>do pure (.p (.Q0 (← N8 P slots done x)))
  | .slice _=>do pure (.p (.len (← N8 P slots done x)))
  | .array n _=>pure (.p (.mov (.con (.int .i64 n))))
  | .map _ _=>do pure (.r (.lenM (← N8 P slots done x)))
  | _=>none
 | .cap,[t],[x]=>match ← P.underlying t with
  | .slice _=>do pure (.p (.cap (← N8 P slots done x)))
  | _=>none
 | .append,[t,u],[s,x]=>match ← P.underlying t with
  | .slice e=>do
   let d ← P.underlying u
   let zs:=match d with | .int _=>true | _=>false
   if acf d&&BM P e then pure (.e (.appB e (← N8 P slots done s) (← N8 P slots done x)))
   else pure (.e (.app (← aS P e) zs (← CJ P e) (← fI P e) (← N8 P slots done s) (← N8 P slots done x)))
  | _=>none
 | .copy,[t,_],[d,s]=>match ← P.underlying t with
  | .slice e=>do pure (.e (.copy (← aS P e) (← N8 P slots done d) (← N8 P slots done s)))
  | _=>none
 | .clear,[t],[x]=>match ← P.underlying t with
  | .slice e=>do pure (.e (.clear (← qA P e) (← N8 P slots done x)))
  | _=>none
 | .max,_,x::xs=>do pure (.p (.mm true (← N8 P slots done x) (← jB P slots done xs)))
 | .min,_,x::xs=>do pure (.p (.mm false (← N8 P slots done x) (← jB P slots done xs)))
 | .recover,[],[]=>pure (.e .recover)
 | .unsafeSliceData,[t],[x]=>match ← P.underlying t with
  | .slice _=>do pure (.r (.slData (← N8 P slots done x)))
  | _=>none
 | .unsafeString,[t,_],[p,n]=>match ← P.underlying t with
  | .pointer e=>do if BM P e then pure (.e (.ustr e (← N8 P slots done p) (← N8 P slots done n))) else none
  | _=>none
 | _,_,_=>none
def fQ (o:Op):Option yE:=do
 let r:=N8 P slots done
 match o with
 | .move x | .assign x=>pure (.p (.mov (← r x)))
 | .pick c a b=>pure (.p (.pick (← r c) (← r a) (← r b)))
 | .alloc t=>if OM P t then do pure (.a (.allocT t (← CJ P t))) else do pure (.a (.alloc (← qA P t)))
 | .box t x=>if OM P t then do pure (.a (.boxT t (← aS P t) (← r x))) else do pure (.a (.box (← r x)))
 | .build t parts=>xD P slots done t parts.toList
 | .buildSlice t len parts=>match ← P.underlying t with
  | .slice e=>do
   let es ← aS P e
   let ps ← uj P slots done (λi=>some (i*es,es)) parts.toList
   if len*es<=16777216 then pure (.a (.buildSlice es len (← qA P e) ps)) else none
  | _=>none
 | .load t a=>pure (.r (.load (← partT P t) (← r a)))
 | .store t a x=>pure (.e (.store (← aS P t) (← r a) (← r x)))
 | .nilCheck x=>pure (.p (.nilCheck (← r x)))
 | .binOp op t x y _=>match op with
  | .eql | .neq=>do
   let k ← UR P (wK x||wK y) t
   let neg:=match op with | .neq=>true | _=>false
   match k with
   | .prim .i=>pure (.p (.ib op (← r x) (← r y)))
   | .prim .s=>pure (.p (.ib op (← r x) (← r y)))
   | k=>pure (.p (.eq neg k (← r x) (← r y)))
  | _=>pure (.p (.ib op (← r x) (← r y)))
 | .unOp op _ x=>match op with
  | .not=>do pure (.p (.not (← r x)))
  | .neg=>do pure (.p (.neg (← r x)))
  | .xor=>do pure (.p (.inv (← r x)))
  | _=>none
 | .convert s d x=>match ← P.underlying s,← P.underlying d with
  | .int _,.int k=>do pure (.p (.conv k (← r x)))
  | .string,.slice e=>match ← P.underlying e with
   | .int .u8=>do pure (.a (.strBytes (← r x)))
   | _=>none
  | .slice e,.string=>match ← P.underlying e with
   | .int .u8=>do pure (.r (.bytesStr (← r x)))
   | _=>none
  | .pointer t,.unsafePointer=>match ← aS P t with
   | 0=>none
   | _=>do pure (.r (.toUns (← r x)))
  | .unsafePointer,.pointer u=>match ← aS P u with
   | 0=>none
   | _=>do pure (.r (.fromUns (LJ P u) (← r x)))
  | _,_=>none
 | .makeInterface t x=>match ← P.underlying t with
  | .interface _=>none
  | _=>do pure (.p (.mkIface t (← r x)))
 | .makeFunc fn a b=>match fn with
  | .func f=>do pure (.p (.mkFunc (.func f) (← jB P slots done a.toList) (← jB P slots done b.toList)))
  | _=>none
 | .makeMap t res=>match res with
  | none=>pure (.a .mkMap)
  | some (.const (.int _ _))=>match P.underlying t with
   | some (.map _ _)=>pure (.a .mkMap)
   | _=>none
  | _=>none
 | .makeSlice t l c=>match ← P.underlying t with
  | .slice e=>do pure (.a (.mkSlice (← aS P e) (← fI P e) (← CJ P e) (← r l) (← r c)))
  | _=>none
 | .slice t x lo hi none=>match ← P.underlying t with
  | .string=>do pure (.p (.slStr (← r x) (← cOpt P slots done lo) (← cOpt P slots done hi)))
  | .slice e=>do pure (.a (.sl (← aS P e) (← r x) (← cOpt P slots done lo) (← cOpt P slots done hi)))
  | .array n e=>do pure (.p (.slArr (← aS P e) n (← r x) (← cOpt P slots done lo) (← cOpt P slots done hi)))
  | _=>none
 | .fieldAddr s x f=>match ← P.underlying s with
  | .struct fs=>do
   let fd ← fs[f]?
   let sz ← aS P fd.type
   if sz=0 then none else pure (.p (.fAddr fd.offset (← r x)))
  | _=>none
 | .field s x f=>match ← P.underlying s with
  | .struct fs=>do
   let fd ← fs[f]?
   pure (.p (.fld fd.offset (← partT P fd.type) (← r x)))
  | _=>none
 | .indexAddr t x i=>match ← P.underlying t with
  | .slice e=>do pure (.p (.iAddr (← aS P e) (← r x) (← r i)))
  | .array n e=>do pure (.p (.iAddrArr (← aS P e) n (← r x) (← r i)))
  | _=>none
 | .index t x i=>match ← P.underlying t with
  | .string=>do pure (.p (.iStr (← r x) (← r i)))
  | .array n e=>do pure (.p (.iArr (← aS P e) n (← partT P e) (← r x) (← r i)))
  | _=>none
 | .lookup t x k ok=>match ← P.underlying t with
  | .map kt e=>do pure (.r (.look (← sZ P kt) (← zeroV P e) ok (← r x) (← r k)))
  | _=>none
 | .mapUpdate t m k x | .insert t m k x=>match ← P.underlying t with
  | .map kt _=>do pure (.e (.mapSet (← sZ P kt) (← r m) (← r k) (← r x)))
  | _=>none
 | .range t x=>match ← P.underlying t with
  | .map _ _=>do pure (.e (.range (← r x)))
  | .string=>do pure (.e (.rangeS (← r x)))
  | _=>none
 | .next it false=>pure (.e (.next (← r it)))
 | .next it true=>pure (.e (.nextS (← r it)))
 | .entry it=>pure (.r (.entry (← r it)))
 | .extract x i=>pure (.p (.ext (← r x) i))
 | .typeAssert x _ t ok=>match ← P.underlying t with
  | .interface _=>none
  | _=>do pure (.p (.assert t (← zeroV P t) ok (← r x)))
 | .panic x=>pure (.e (.panic (← r x)))
 | .defer c=>match c.callee with
  | .value f=>do pure (.e (.defer (← r f) (← jB P slots done c.args.toList)))
  | _=>none
 | .call c=>match c.callee with
  | .builtin b=>um P slots done b c.argTypes.toList c.args.toList
  | .value (.func f)=>do
   let fn ← P.funcs[f]?
   if fn.body.isSome&&fn.name != "runtime.NumGoroutine" then pure (.e (.call f (← jB P slots done c.args.toList)))
   else if fn.body.isNone&&fn.name == "internal/abi.NoEscape" && (Extern.findNext fn).isNone then match c.args.toList with
    | [x]=>do pure (.p (.mov (← r x)))
    | _=>none
   else none
  | .value f=>do pure (.e (.callv (← r f) (← jB P slots done c.args.toList)))
  | _=>none
 | _=>none
def Gp:Option Tmp->Option Nat
 | none=>none
 | some t=>idxOf t slots 0
def kJ (o:Op):yE:=match fQ P slots done o with
 | some a=>a
 | none=>.e .bad
def pz (ops:Array Oper)(i:Nat):Option (Inst×Option Nat):=do
 let o ← ops[i]?
 let a:=kJ P slots done o.op
 let g ← match o.guard with
  | none=>pure none
  | some (j,w)=>do
   let og ← ops[j]?
   let d ← og.dst
   let k ← iK d done 0
   pure (some (Q8.loc k,w))
 pure (⟨a,Gp slots o.dst,g⟩,o.dst)
end
def jQ (P:Program)(slots:List Nat)(ops:Array Oper):List (Option Nat)->List Nat->Option (List Inst)
 | _,[]=>some []
 | done,i::rest=>match pz P slots done ops i with
  | some (x,d)=>match jQ P slots ops (d::done) rest with
   | some l=>some (x::l)
   | none=>none
  | none=>none
def bitsOf (e:Array Edge)(acc:List Nat):Nat:=
 e.toList.foldl (λs x=>if Region.binds .any x then s ||| (1 <<< x.on) ||| (acc.getD x.on 0) else s) 0
def masks (ops:List Oper):List Nat:=ops.foldl (λacc o=>acc ++ [bitsOf o.after acc]) []
def OO (ms:List Nat)(i j:Nat):Bool:=Nat.testBit (ms.getD i 0) j
def ag6:Op->Bool
 | .store .. | .mapUpdate .. | .insert .. | .range .. | .next .. | .mapEntry .. | .entryStore .. | .panic _ | .defer _ | .typeAssert ..=>true
 | .call {callee:=.builtin b,..}=>match b with
  | .append | .copy | .clear | .delete | .unsafeString=>true
  | _=>false
 | .call _=>true
 | _=>false
def DT (ops:Array Oper)(i:Nat):Bool:=
 match ops[i]? with
 | some o=>ag6 o.op
 | none=>false
def canon (eff:Nat->Bool)(ms:List Nat)(n:Nat):List Nat:=
 let effs:=(List.range n).filter eff
 let step (acc:List Nat) (e:Nat):List Nat:=acc++(List.range n).filter (λi=>!acc.contains i&&OO ms e i) ++ [e]
 let acc:=effs.foldl (λacc e=>if acc.contains e then acc else step acc e) []
 acc++(List.range n).filter (λi=>!acc.contains i)
def U3 (x:Inst):Bool:=match x.op with
 | .e _=>true
 | _=>false
def isA (x:Inst):Bool:=match x.op with
 | .a _=>true
 | _=>false
def isR (x:Inst):Bool:=match x.op with
 | .r _=>true
 | _=>false
def acg (ms:List Nat)(i:Nat)(x:Inst)(effs:List Nat)(nal:Nat):Nat:=
 if isR x then (effs.takeWhile λe=>!OO ms i e).length else nal
def numbered (ms:List Nat):List (Nat×Inst)->List Nat->Nat->List (Nat×Inst)
 | [],_,_=>[]
 | (i,x)::rest,effs,nal=>(acg ms i x effs nal,x)::numbered ms rest (if U3 x then i::effs else effs) (if isA x then nal+1 else nal)
def xE (ops:Array Oper)(o:Oper):List Nat:=
 (o.op.operands.toList.filterMap fun | .tmp t=>some t | _=>none) ++
 (match o.guard with
  | some (g,_)=>((ops[g]?).bind (·.dst)).toList
  | none=>[])
def LK:List Nat->Bool
 | []=>true
 | x::l=>!l.contains x&&LK l
def JC:List Inst->Nat
 | []=>0
 | x::l=>(if isA x then 1 else 0)+JC l
def Qy (ms:List Nat)(i:Nat)(before:List (Nat×Inst)):Q8->Bool
 | .loc k=>match before[k]? with
  | some y=>OO ms i y.1
  | none=>false
 | .slot j=>before.all λy=>y.2.dst != some j
 | .con _=>true
def uo (ms:List Nat)(ops:Array Oper)(i:Nat)(x:Inst)(before:List (Nat×Inst)):Bool:=
 (match x.op with
  | .e _=>before.all λy=>OO ms i y.1
  | _=>true) &&
 (match ops[i]? with
  | some o=>(o.after.toList.all λe=>!Region.binds .any e||before.any λy=>y.1==e.on) &&
   ((xE ops o).all λt=>(List.range ops.size).all λq=>q==i||(match ops[q]? with
    | some oq=>oq.dst != some t
    | none=>true)||OO ms i q||OO ms q i)
  | none=>false) &&
 ((Dx x.op).all λy=>Qy ms i before y) &&
 (match x.guard with
  | some (y,_)=>Qy ms i before y
  | none=>true)
def vJ (ms:List Nat)(ops:Array Oper):List (Nat×Inst)->List (Nat×Inst)->Bool
 | [],_=>true
 | y::rest,before=>uo ms ops y.1 y.2 before&&vJ ms ops rest (y::before)
def UU (ms:List Nat)(ops:Array Oper)(ord:List Nat)(insts:List Inst):Bool:=
 LK ord&&(ord.all λi=>Nat.blt i ops.size)&&((List.range ops.size).all λi=>ord.contains i)&&LK (ops.toList.filterMap (·.dst))&&vJ ms ops (ord.zip insts) []
def yN (P:Program)(slots:List Nat)(ops:Array Oper):Option U7:=
 match jQ P slots ops [] (canon (DT ops) (masks ops.toList) ops.size) with
 | none=>none
 | some insts=>
  if UU (masks ops.toList) ops (canon (DT ops) (masks ops.toList) ops.size) insts then
   some (.dreg (JC insts) (numbered (masks ops.toList) ((canon (DT ops) (masks ops.toList) ops.size).zip insts) [] 0))
  else none
def LM:Q8->Bool
 | .loc _=>false
 | _=>true
def JD (ms:List Nat)(ops:Array Oper):Bool:=
 Nat.ble 3 ops.size &&
 ((List.range ops.size).all λi=>match ops[i]? with
  | some o=>(o.after.toList.all λe=>!Region.binds .any e||Nat.blt e.on i)&&o.guard.isNone
  | none=>false) &&
 ((List.range (ops.size-3)).all λj=>OO ms (ops.size-3) j&&OO ms (ops.size-2) j&&OO ms (ops.size-1) j) &&
 OO ms (ops.size-2) (ops.size-3)
def Da (x y z:Option (Inst×Option Nat))(n:Nat)(l:List (Nat×Inst)):Option U7:=
 match x,y,z with
 | some (⟨.p po,none,none⟩,_),some (⟨.e (.store s (.loc 0) v),none,none⟩,none),some (⟨.e (.store s' a' v'),none,none⟩,none)=>if LM a'&&LM v' then some (.dreg2 n l [⟨.p po,none,none⟩,⟨.e (.store s (.loc 0) v),none,none⟩,⟨.e (.storeAp s' a' v' (.loc 1)),none,none⟩]) else none
 | _,_,_=>none
def Qz:Option Oper->Bool
 | some o=>match o.op with
  | .store ..=>true
  | _=>false
 | none=>false
def splits (ops:Array Oper):Bool:=Qz ops[ops.size-1]? && Qz ops[ops.size-2]? && !OO (masks ops.toList) (ops.size-1) (ops.size-2)
def DU (P:Program)(slots:List Nat)(ops:Array Oper):Option U7:=
 match yN P slots (ops.extract 0 (ops.size-3)) with
 | some (.dreg n l)=>
  if JD (masks ops.toList) ops then
   Da (pz P slots [] ops (ops.size-3)) (pz P slots [(ops[ops.size-3]?).bind (·.dst)] ops (ops.size-2)) (pz P slots [] ops (ops.size-1)) n l
  else none
 | _=>none
def R7 (P:Program)(slots:List Nat):Code->Option U7
 | .skip=>some .skip
 | .region _ ops false=>match jQ P slots ops [] (List.range ops.size) with
  | some l=>some (.reg l)
  | none=>none
 | .region _ ops true=>if splits ops then DU P slots ops else yN P slots ops
 | .seq a b=>match R7 P slots a,R7 P slots b with
  | some x,some y=>some (.seq x y)
  | _,_=>none
 | .cond c a b=>match N8 P slots [] c,R7 P slots a,R7 P slots b with
  | some z,some x,some y=>some (.cond z x y)
  | _,_,_=>none
 | .block id a=>match R7 P slots a with
  | some x=>some (.block id x)
  | none=>none
 | .loop a=>match R7 P slots a with
  | some x=>some (.loop x)
  | none=>none
 | .exit id=>some (.exit id)
 | .ret=>some .ret
 | .rangeFunc f ps a b=>match N8 P slots [] f,R7 P slots a,R7 P slots b with
  | some z,some x,some y=>some (.rangeFunc z (ps.toList.map λt=>idxOf t slots 0) x y)
  | _,_,_=>none
 | .refuse _=>some (.reg [⟨.e .bad,none,none⟩])
 | _=>none
def tmpsIn (nt:Nat):Code->Bool
 | .region _ ops _=>ops.toList.all λo=>match o.dst with
  | some t=>Nat.blt t nt
  | none=>true
 | .seq a b=>tmpsIn nt a&&tmpsIn nt b
 | .cond _ a b=>tmpsIn nt a&&tmpsIn nt b
 | .block _ a=>tmpsIn nt a
 | .loop a=>tmpsIn nt a
 | .rangeFunc _ _ a b=>tmpsIn nt a&&tmpsIn nt b
 | _=>true
def CK (P:Program)(slots:List Nat):List ResultVar->Option (List pY)
 | []=>some []
 | .tmp t::l=>match idxOf t slots 0,CK P slots l with
  | some j,some r=>some (.tmp j::r)
  | _,_=>none
 | .cell t ty::l=>match idxOf t slots 0,partT P ty,CK P slots l with
  | some j,some s,some r=>some (.cell j s::r)
  | _,_,_=>none
def OP (P:Program)(slots:List Nat)(f:FuncId):Option AFn:=
 match P.funcs[f]? with
 | none=>none
 | some fn=>match fn.body with
  | none=>none
  | some c=>match R7 P slots c,CK P slots fn.results.toList with
   | some b,some r=>
    if tmpsIn fn.ntmps c&&(slots.all λt=>Nat.blt t fn.ntmps)&&Nat.blt slots.length 1152921504606846976&&fn.name != "runtime.NumGoroutine" then
     some ⟨fn.params.size+fn.nfree,(List.range (fn.params.size+fn.nfree)).map λt=>idxOf t slots 0,slots.length,r,b⟩
    else none
   | _,_=>none
section
variable {α β γ:Type}
@[simp] theorem K6 (a:α)(k:α->Option β):ob (some a) k=k a:=rfl
@[simp] theorem ajp (k:α->Option β):ob none k=none:=rfl
theorem A8 {o:Option α}{k:α->Option β}{b:β}(h:ob o k=some b):∃a,o=some a∧k a=some b:=by
 cases o with
 | none=>simp at h
 | some a=>exact⟨a,rfl,h⟩
@[simp] theorem T9 (x y:α):bi true x y=x:=rfl
@[simp] theorem R5 (x y:α):bi false x y=y:=rfl
theorem D9 {b:Bool}{x:Option α}{a:α}(h:bi b x none=some a):b=true∧x=some a:=by
 cases b with
 | true=>exact⟨rfl,h⟩
 | false=>simp at h
theorem jR {b:Bool}{x:Option α}{a:α}(h:bi b none x=some a):b=false∧x=some a:=by
 cases b with
 | true=>simp at h
 | false=>exact⟨rfl,h⟩
end
namespace T
variable {α:Type}
@[simp] theorem apF (i:Nat):(T.e:T α).get i=none:=rfl
@[simp] theorem ag7 (l:T α)(x:α)(r:T α):(T.nd l x r).get 0=some x:=rfl
theorem dG (l:T α)(x:α)(r:T α)(i:Nat):(T.nd l x r).get (i+1)=if i%2=0 then l.get (i / 2) else r.get (i / 2):=by show (Nat.rec (l.get (Nat.div i 2)) (λ_ _=>r.get (Nat.div i 2)) (Nat.mod i 2):Option α)=_;have h:Nat.mod i 2=i%2:=rfl;rcases abt i with h0 | h1;rw [h,h0];rfl;rw [h,h1];rfl
@[simp] theorem ag8 (i:Nat)(x:α):(T.e:T α).put i x=.nd .e x .e:=rfl
@[simp] theorem LP (l:T α)(y:α)(r:T α)(x:α):(T.nd l y r).put 0 x=.nd l x r:=rfl
theorem Y9 (l:T α)(y:α)(r:T α)(i:Nat)(x:α):(T.nd l y r).put (i+1) x=if i%2=0 then .nd (l.put (i / 2) x) y r else .nd l y (r.put (i / 2) x):=by show (Nat.rec (T.nd (l.put (Nat.div i 2) x) y r) (λ_ _=>T.nd l y (r.put (Nat.div i 2) x)) (Nat.mod i 2):T α)=_;have h:Nat.mod i 2=i%2:=rfl;rcases abt i with h0 | h1;rw [h,h0];rfl;rw [h,h1];rfl
inductive Ok:T α->Nat->Prop
 | e:Ok .e 0
 | nd {l r:T α} {x:α} {n:Nat} (hl:Ok l ((n+1) / 2)) (hr:Ok r (n / 2)):Ok (.nd l x r) (n+1)
theorem Ok.get {t:T α}{n:Nat}(h:Ok t n):∀i,(∃x,t.get i=some x)↔i<n:=by
 induction h with
 | e=>intro i;simp
 | @nd l r x n hl hr ihl ihr=>
  intro i;cases i with
  | zero=>simp
  | succ i=>rw [dG];split;rw [ihl];omega;rw [ihr];omega
theorem Ok.put {t:T α}{n:Nat}(h:Ok t n):∀i (x:α),i<n->Ok (t.put i x) n:=by
 induction h with
 | e=>intro i x a;omega
 | @nd l r y n hl hr ihl ihr=>
  intro i x a;cases i with
  | zero=>exact .nd hl hr
  | succ i=>rw [Y9];split;exact .nd (ihl _ _ (by omega)) hr;exact .nd hl (ihr _ _ (by omega))
theorem Ok.push {t:T α}{n:Nat}(h:Ok t n):∀(x:α),Ok (t.put n x) (n+1):=by
 induction h with
 | e=>intro x;exact .nd .e .e
 | @nd l r y n hl hr ihl ihr=>intro x;rw [Y9];split;rename_i a;refine .nd ?_ ?_;have:=ihl x;rw [show (n+1) / 2=n / 2 from by omega] at this;rw [show (n+1+1) / 2=n / 2+1 from by omega];exact this;rw [show (n+1) / 2=n / 2 from by omega];exact hr;rename_i a;refine .nd ?_ ?_;rw [show (n+1+1) / 2=(n+1) / 2 from by omega];exact hl;have:=ihr x;rw [show (n+1) / 2=n / 2+1 from by omega];exact this
theorem aL {t:T α}{n:Nat}(h:Ok t n):∀i (x:α),i<=n->(t.put i x).get i=some x:=by
 induction h with
 | e=>intro i x b;obtain rfl:i=0:=by omega
      rfl
 | @nd l r y n hl hr ihl ihr=>
  intro i x b;cases i with
  | zero=>rfl
  | succ i=>rw [Y9];split;rename_i a;rw [dG,if_pos a];exact ihl _ _ (by omega);rename_i a;rw [dG,if_neg a];exact ihr _ _ (by omega)
theorem bn {t:T α}{n:Nat}(h:Ok t n):∀i j (x:α),i<=n->i≠j->(t.put i x).get j=t.get j:=by
 induction h with
 | e=>
  intro i j x b d;obtain rfl:i=0:=by omega
  cases j with
  | zero=>omega
  | succ j=>rw [ag8,dG];simp
 | @nd l r y n hl hr ihl ihr=>
  intro i j x b c;cases i with
  | zero=>
   cases j with
   | zero=>omega
   | succ j=>rw [LP,dG,dG]
  | succ i=>
   rw [Y9];cases j with
   | zero=>split<;>rfl
   | succ j=>split;rename_i a;rw [dG,dG];split;exact ihl _ _ _ (by omega) (by omega);rfl;rename_i a;rw [dG,dG];split;rfl;exact ihr _ _ _ (by omega) (by omega)
theorem sK (x:α)(l:List α)(t:T α)(i:Nat):nO (x::l) t i=nO l (t.put i x) (i+1):=rfl
theorem Gq (l:List α):∀(t:T α) (i:Nat),Ok t i->Ok (nO l t i) (i+l.length):=by
 induction l with
 | nil=>intro t i h;exact h
 | cons x l ih=>intro t i h;rw [sK,Y1,show i+(l.length+1)=i+1+l.length from by omega];exact ih _ _ (h.push x)
theorem DV (l:List α):∀(t:T α) (i:Nat),Ok t i->∀j,(nO l t i).get j=if j<i then t.get j else l[j-i]?:=by
 induction l with
 | nil=>
  intro t i h j;show t.get j=_;split;rfl;rename_i a;cases hg:t.get j with
  | none=>simp
  | some x=>exact absurd ((h.get j).1 ⟨x,hg⟩) a
 | cons x l ih=>intro t i h j;rw [sK,ih _ _ (h.push x)];by_cases h1:j<i;rw [if_pos (by omega),if_pos h1,bn h _ _ _ (J2 _) (by omega)];by_cases h2:j=i;subst h2;rw [if_pos (by omega),aL h _ _ (J2 _)];simp;rw [if_neg (by omega),if_neg h1,show j-i=(j-(i+1))+1 from by omega];simp
theorem bA (l:List α)(j:Nat):(ofList l).get j=l[j]?:=by have:=DV l .e 0 .e j;simpa [ofList] using this
theorem eF (l:List α):Ok (ofList l) l.length:=by have:=Gq l .e 0 .e;simpa [ofList] using this
theorem DW (x:α)(n:Nat)(t:T α)(i:Nat):rep x (n+1) t i=rep x n (t.put i x) (i+1):=rfl
theorem OQ (x:α)(n:Nat):∀(t:T α) (i:Nat),Ok t i->Ok (rep x n t i) (i+n):=by
 induction n with
 | zero=>intro t i h;exact h
 | succ n ih=>intro t i h;rw [DW,show i+(n+1)=i+1+n from by omega];exact ih _ _ (h.push x)
theorem QA (x:α)(n:Nat):∀(t:T α) (i:Nat),Ok t i->∀j,(rep x n t i).get j=if j<i then t.get j else if j<i+n then some x else none:=by
 induction n with
 | zero=>
  intro t i h j;show t.get j=_;split;rfl;rename_i a;rw [if_neg (by omega)];cases hg:t.get j with
  | none=>rfl
  | some y=>exact absurd ((h.get j).1 ⟨y,hg⟩) a
 | succ n ih=>intro t i h j;rw [DW,ih _ _ (h.push x)];by_cases h1:j<i;rw [if_pos (by omega),if_pos h1,bn h _ _ _ (J2 _) (by omega)];by_cases h2:j=i;subst h2;rw [if_pos (by omega),aL h _ _ (J2 _),if_neg h1,if_pos (by omega)];rw [if_neg (by omega),if_neg h1];by_cases h3:j<i+1+n;rw [if_pos h3,if_pos (by omega)];rw [if_neg h3,if_neg (by omega)]
theorem DX (t:T α)(i:Nat):t.slice 0 i=some []:=rfl
theorem xG (t:T α)(n i:Nat):t.slice (n+1) i=ob (t.get i) λx=>ob (t.slice n (i+1)) λxs=>some (x::xs):=rfl
theorem OT (t:T α)(n:Nat):∀i l,t.slice n i=some l->l.length=n∧∀j,j<n->t.get (i+j)=l[j]?:=by
 induction n with
 | zero=>intro i l h;rw [DX] at h;cases h;simp
 | succ n ih=>
  intro i l h;rw [xG] at h;obtain⟨x,d,h⟩:=A8 h;obtain⟨f,a,h⟩:=A8 h;cases h;obtain⟨c,b⟩:=ih _ _ a;refine⟨by simp [c],λj e=>?_⟩;cases j with
  | zero=>simpa using d
  | succ j=>rw [show i+(j+1)=i+1+j from by omega,b j (by omega)];simp
end T
section
variable {α:Type}
@[simp] theorem I9 (l:List α):len' l=l.length:=by
 induction l with
 | nil=>rfl
 | cons x l ih=>show Nat.succ (len' l)=_;rw [ih];rfl
@[simp] theorem O4 (l m:List α):U2 l m=l++m:=by
 induction l with
 | nil=>rfl
 | cons x l ih=>show x::U2 l m=_;rw [ih];rfl
@[simp] theorem lT (n:Nat):∀l:List α,lN n l=l.drop n:=by
 induction n with
 | zero=>intro l;rfl
 | succ n ih=>
  intro l;cases l with
  | nil=>rfl
  | cons x l=>exact ih l
@[simp] theorem jf (n:Nat):∀l:List α,oN n l=l[n]?:=by
 induction n with
 | zero=>intro l;cases l<;>rfl
 | succ n ih=>
  intro l;cases l with
  | nil=>rfl
  | cons x l=>show oN n l=_;rw [ih];rfl
@[simp] theorem UW (n:Nat):∀l:List d9,nth n l=l[n]?.getD .undef:=by
 induction n with
 | zero=>intro l;cases l<;>rfl
 | succ n ih=>
  intro l;cases l with
  | nil=>rfl
  | cons x l=>show nth n l=_;rw [ih];rfl
theorem kT (n:Nat):∀(l r:List α),takeN n l=some r->r=l.take n∧n<=l.length:=by
 induction n with
 | zero=>intro l r h;cases h;simp
 | succ n ih=>
  intro l r h;cases l with
  | nil=>cases h
  | cons x l=>
   change ob (takeN n l) (λr=>some (x::r))=some r at h
   obtain⟨d,b,h⟩:=A8 h;cases h;obtain⟨a,c⟩:=ih _ _ b;exact⟨by simp [a],by simp;omega⟩
theorem nX (n:Nat):∀(l:List α),n<=l.length->takeN n l=some (l.take n):=by
 induction n with
 | zero=>intro l _;rfl
 | succ n ih=>
  intro l h;cases l with
  | nil=>simp at h
  | cons x l=>
   change ob (takeN n l) (λr=>some (x::r))=_
   rw [ih l (by simpa using h)];rfl
theorem lU (n:Nat)(a:List α):∀(l:List α),n<=l.length->lQ n a l=l.take n++(a++l.drop (n+a.length)):=by
 induction n with
 | zero=>intro l _;show U2 a (lN (len' a) l)=_;simp
 | succ n ih=>
  intro l h;cases l with
  | nil=>simp at h
  | cons x l=>show x::lQ n a l=_;rw [ih l (by simpa using h),show n+1+a.length=(n+a.length)+1 from by omega];simp
theorem yO (n:Nat)(a l:List α)(h:n+a.length<=l.length):(lQ n a l).length=l.length:=by rw [lU n a l (by omega)];simp;omega
theorem RH (n:Nat)(a l:List α)(h:n+a.length<=l.length)(j:Nat):
  (lQ n a l)[j]?=if n<=j∧j<n+a.length then a[j-n]? else l[j]?:=by
 rw [lU n a l (by omega)];rw [List.getElem?_append];simp only [ag1,show min n l.length=n from by omega];split;rw [if_neg (by omega),ad3,if_pos (by omega)];rw [List.getElem?_append];split;rw [if_pos (by omega)];rw [if_neg (by omega),ae6];congr 1;omega
end
structure Loc where
 b:Nat
 base:Nat
 cap:Nat
 spot:Option Nat
abbrev K4:=Nat->Loc
def K4.at (ι:K4)(i o:Nat):Addr:=⟨(ι i).b,(ι i).base+o,if o=0 then (ι i).spot else none⟩
theorem K4.yP {ι:K4}{i:Nat}(h:(ι i).spot=none)(o:Nat):ι.at i o=⟨(ι i).b,(ι i).base+o,none⟩:=by simp [K4.at,h]
def jl (ι:K4):Fn->Fn
 | .yield l=>.yield (ι l).b
 | f=>f
mutual
def l9 (ι:K4):d9->Value
 | .undef=>.tuple #[]
 | .bool b=>.bool b
 | .int k n=>.int k n
 | .str s=>.string ⟨s.toArray⟩
 | .nilPtr=>.pointer none
 | .ptr i o=>.pointer (some (ι.at i o))
 | .nilSlice=>.slice none 0 0
 | .slice i o l c=>.slice (some (ι.at i o)) l c
 | .sliceU i o l es=>.slice (some (ι.at i o)) l (((ι i).cap-o) / es)
 | .nilMap=>.map none
 | .map i=>.map (some (ι i).b)
 | .nilFunc=>.nilFunc
 | .func fn a b=>.func (jl ι fn) (p8 ι a).toArray (p8 ι b).toArray
 | .nilIface=>.nilIface
 | .iface t v=>.iface t (l9 ι v)
 | .agg l=>.agg (p8 ι l).toArray
 | .tuple l=>.tuple (p8 ι l).toArray
 | .lY v=>.tuple #[l9 ι v]
def p8 (ι:K4):List d9->List Value
 | []=>[]
 | v::l=>l9 ι v::p8 ι l
end
structure Nm where
 has:Nat->Prop
 cap:Nat->Nat
instance:CoeFun Nm (λ_=>Nat->Prop):=⟨Nm.has⟩
def Nm.le (n m:Nm):Prop:=∀i,n i->m i∧m.cap i=n.cap i
theorem Nm.le_refl (n:Nm):n.le n:=λ_ h=>⟨h,rfl⟩
theorem Nm.le_trans {a b c:Nm}(h:a.le b)(k:b.le c):a.le c:=λi d=>⟨(k i (h i d).1).1,(k i (h i d).1).2.trans (h i d).2⟩
def Ym (n:Nm):Fn->Prop
 | .yield l=>n l
 | _=>True
mutual
def d9.lt (n:Nm):d9->Prop
 | .ptr i _=>n i
 | .slice i _ _ _=>n i
 | .sliceU i o l es=>n i∧1<=es∧o+l*es<=n.cap i
 | .map i=>n i
 | .func fn a b=>Ym n fn∧bg n a∧bg n b
 | .iface _ v=>v.lt n
 | .agg l=>bg n l
 | .tuple l=>bg n l
 | .lY _=>False
 | _=>True
def bg (n:Nm):List d9->Prop
 | []=>True
 | v::l=>v.lt n∧bg n l
end
theorem bC (ι:K4)(l:List d9):p8 ι l=l.map (l9 ι):=by
 induction l with
 | nil=>simp [p8]
 | cons v l ih=>simp [p8,ih]
theorem bX {n:Nm}{l:List d9}:bg n l↔∀v∈l,v.lt n:=by
 induction l with
 | nil=>simp [bg]
 | cons v l ih=>simp [bg,ih]
@[simp] theorem V3 (ι:K4)(l:List d9):(p8 ι l).length=l.length:=by simp [bC]
theorem aQ (ι:K4)(l:List d9)(i:Nat):(p8 ι l)[i]?=l[i]?.map (l9 ι):=by simp [bC]
mutual
theorem R6 {n:Nm}{ι ι':K4}(h:∀i,n i->ι' i=ι i):∀v:d9,v.lt n->l9 ι' v=l9 ι v
 | .undef,_ | .bool _,_ | .int _ _,_ | .str _,_ | .nilPtr,_ | .nilSlice,_ | .nilMap,_ | .nilFunc,_ | .nilIface,_=>by simp [l9]
 | .ptr i o,hv=>by simp only [d9.lt] at hv;simp [l9,K4.at,h i hv]
 | .slice i o l c,hv=>by simp only [d9.lt] at hv;simp [l9,K4.at,h i hv]
 | .sliceU i o l c,hv=>by simp only [d9.lt] at hv;simp [l9,K4.at,h i hv.1]
 | .map i,hv=>by simp only [d9.lt] at hv;simp [l9,h i hv]
 | .func fn a b,hv=>by
  simp only [d9.lt] at hv;obtain⟨hf,ha,hb⟩:=hv;have e:jl ι' fn=jl ι fn:=by cases fn<;>simp_all [jl,Ym]
  simp [l9,e,eT h a ha,eT h b hb]
 | .iface t v,hv=>by simp only [d9.lt] at hv;simp [l9,R6 h v hv]
 | .agg l,hv=>by simp only [d9.lt] at hv;simp [l9,eT h l hv]
 | .tuple l,hv=>by simp only [d9.lt] at hv;simp [l9,eT h l hv]
 | .lY v,hv=>by simp only [d9.lt] at hv
theorem eT {n:Nm}{ι ι':K4}(h:∀i,n i->ι' i=ι i):∀l:List d9,bg n l->p8 ι' l=p8 ι l
 | [],_=>by simp [p8]
 | v::l,hl=>by simp only [bg] at hl;simp [p8,R6 h v hl.1,eT h l hl.2]
end
mutual
theorem d9.O6 {n m:Nm}(h:n.le m):∀v:d9,v.lt n->v.lt m
 | .undef,_ | .bool _,_ | .int _ _,_ | .str _,_ | .nilPtr,_ | .nilSlice,_ | .nilMap,_ | .nilFunc,_ | .nilIface,_=>by simp [d9.lt]
 | .ptr i o,hv=>by simp only [d9.lt] at *;exact (h _ hv).1
 | .slice i o l c,hv=>by simp only [d9.lt] at *;exact (h _ hv).1
 | .sliceU i o l c,hv=>by simp only [d9.lt] at *;exact⟨(h _ hv.1).1,hv.2.1,by rw [(h _ hv.1).2];exact hv.2.2⟩
 | .map i,hv=>by simp only [d9.lt] at *;exact (h _ hv).1
 | .func fn a b,hv=>by simp only [d9.lt] at *;exact⟨by cases fn<;>first | trivial | exact (h _ hv.1).1,dH h a hv.2.1,dH h b hv.2.2⟩
 | .iface t v,hv=>by simp only [d9.lt] at *;exact d9.O6 h v hv
 | .agg l,hv=>by simp only [d9.lt] at *;exact dH h l hv
 | .tuple l,hv=>by simp only [d9.lt] at *;exact dH h l hv
 | .lY v,hv=>by simp only [d9.lt] at hv
theorem dH {n m:Nm}(h:n.le m):∀l:List d9,bg n l->bg m l
 | [],_=>by simp [bg]
 | v::l,hl=>by simp only [bg] at *;exact⟨d9.O6 h v hl.1,dH h l hl.2⟩
end
theorem kU (ι:K4)(v:d9):(l9 ι v).cells=(p8 ι v.cells).toArray:=by cases v<;>simp [l9,Value.cells,d9.cells,p8]
theorem uq {n:Nm}{v:d9}(h:v.lt n):bg n v.cells:=by cases v<;>simp_all [d9.lt,d9.cells,bg]
mutual
theorem mW (ι:K4):∀(v:Value) (a:d9),ofValue v=some a->l9 ι a=v∧∀n,a.lt n
 | .bool b,a,h=>by simp only [ofValue,J4] at h;subst h;simp [l9,d9.lt]
 | .int k n,a,h=>by simp only [ofValue,J4] at h;subst h;simp [l9,d9.lt]
 | .string s,a,h=>by simp only [ofValue,J4] at h;subst h;simp [l9,d9.lt]
 | .pointer none,a,h=>by simp only [ofValue,J4] at h;subst h;simp [l9,d9.lt]
 | .pointer (some _),a,h=>by simp [ofValue] at h
 | .slice none 0 0,a,h=>by simp only [ofValue,J4] at h;subst h;simp [l9,d9.lt]
 | .slice (some _) _ _,a,h=>by simp [ofValue] at h
 | .slice none (_+1) _,a,h=>by simp [ofValue] at h
 | .slice none 0 (_+1),a,h=>by simp [ofValue] at h
 | .map none,a,h=>by simp only [ofValue,J4] at h;subst h;simp [l9,d9.lt]
 | .map (some _),a,h=>by simp [ofValue] at h
 | .nilFunc,a,h=>by simp only [ofValue,J4] at h;subst h;simp [l9,d9.lt]
 | .nilIface,a,h=>by simp only [ofValue,J4] at h;subst h;simp [l9,d9.lt]
 | .func (.func f) ⟨[]⟩ ⟨[]⟩,a,h=>by simp only [ofValue,J4] at h;subst h;simp [l9,d9.lt,jl,p8,Ym,bg]
 | .func (.func f) ⟨_ :: _⟩ _,a,h=>by simp [ofValue] at h
 | .func (.func f) ⟨[]⟩ ⟨_ :: _⟩,a,h=>by simp [ofValue] at h
 | .func (.method _) _ _,a,h=>by simp [ofValue] at h
 | .func (.methodOf _ _) _ _,a,h=>by simp [ofValue] at h
 | .func (.via _ _ _ _) _ _,a,h=>by simp [ofValue] at h
 | .func (.yield _) _ _,a,h=>by simp [ofValue] at h
 | .agg ⟨l⟩,a,h=>by
  simp only [ofValue] at h;cases hx:ofValues l with
  | none=>simp [hx] at h
  | some x=>simp only [hx,J4] at h;subst h;obtain⟨h1,h2⟩:=uw ι l x hx;simp [l9,d9.lt,h1];exact h2
 | .tuple ⟨[]⟩,a,h=>by simp only [ofValue,J4] at h;subst h;simp [l9,d9.lt,p8,bg]
 | .tuple ⟨_ :: _⟩,a,h=>by simp [ofValue] at h
 | .float _ _,a,h=>by simp [ofValue] at h
 | .complex _ _ _,a,h=>by simp [ofValue] at h
 | .chan _,a,h=>by simp [ofValue] at h
 | .iface _ _,a,h=>by simp [ofValue] at h
theorem uw (ι:K4):∀(l:List Value) (x:List d9),ofValues l=some x->p8 ι x=l∧∀n,bg n x
 | [],x,h=>by simp only [ofValues,J4] at h;subst h;simp [p8,bg]
 | v::l,x,h=>by
  simp only [ofValues] at h;cases hv:ofValue v with
  | none=>simp [hv] at h
  | some a=>
   cases hl:ofValues l with
   | none=>simp [hv,hl] at h
   | some y=>simp only [hv,hl,J4] at h;subst h;obtain⟨h1,h2⟩:=mW ι v a hv;obtain⟨h3,h4⟩:=uw ι l y hl;simp [p8,bg,h1,h3];exact λn=>⟨h2 n,h4 n⟩
end
theorem ach:∀(n j:Nat) (t:T d9),j+1<2^n->way n j t=(t.get j).getD .undef:=by
 intro n;induction n with
 | zero=>intro j t h;simp at h
 | succ n ih=>
  intro j t h;cases j with
  | zero=>cases t<;>rfl
  | succ j=>
   have a:j / 2+1<2^n:=by rw [afM] at h;omega
   rcases abt j with h0 | h0;simp only [way,h0];cases t with
   | e=>rfl
   | nd l x r=>rw [T.dG,if_pos h0];exact ih _ l a
   simp only [way,h0];cases t with
   | e=>rfl
   | nd l x r=>rw [T.dG,if_neg (by omega)];exact ih _ r a
theorem Yn (v:d9):∀(n j:Nat) (t:T d9) (x:d9),j+1<2^n->t.get j=some x->tQ n j v t=t.put j v:=by
 intro n;induction n with
 | zero=>intro j t x h;simp at h
 | succ n ih=>
  intro j t x h a;cases t with
  | e=>simp at a
  | nd l y r=>
   cases j with
   | zero=>rfl
   | succ j=>have b:j / 2+1<2^n:=(by rw [afM] at h;omega);rw [T.dG] at a;rcases abt j with h0 | h0;rw [if_pos h0] at a;simp only [tQ,h0];rw [T.Y9,if_pos h0];show T.nd (tQ n (j / 2) v l) y r=_;rw [ih _ l x b a];rw [if_neg (by omega)] at a;simp only [tQ,h0];rw [T.Y9,if_neg (by omega)];show T.nd l y (tQ n (j / 2) v r)=_;rw [ih _ r x b a]
theorem uy {t:Nat}{l:List Nat}{i j:Nat}(h:idxOf t l i=some j):i<=j∧j<i+l.length∧l[j-i]?=some t:=by
 induction l generalizing i with
 | nil=>simp [idxOf] at h
 | cons x l ih=>
  simp only [idxOf] at h;cases hx:Nat.beq x t with
  | true=>simp only [hx,cond_true,J4] at h;subst h;have:=q8 hx;simp [this]
  | false=>simp only [hx,cond_false] at h;obtain⟨b,c,a⟩:=ih h;refine⟨by omega,by simp;omega,?_⟩;rw [show j-i=(j-(i+1))+1 from by omega];simpa using a
theorem RI {t u:Nat}{l:List Nat}{i j:Nat}(h:idxOf t l i=some j)(h':idxOf u l i=some j):t=u:=by have a:=(uy h).2.2;have b:=(uy h').2.2;rw [a] at b;exact Y8 b
structure U4 (ι:K4)(n:Nm)(slots:List Nat)(env:T d9)(tmps:Array Value):Prop where
 ok:T.Ok env slots.length
 small:slots.length<2^60
 val:∀t j,idxOf t slots 0=some j->t<tmps.size∧∃v,env.get j=some v∧v.lt n∧tmps.getD t undef=l9 ι v
theorem U4.mono {ι ι':K4}{n c:Nm}{a:List Nat}{env:T d9}{tmps:Array Value}(h:U4 ι n a env tmps)
  (g:∀i,n i->ι' i=ι i) (k:n.le c):U4 ι' c a env tmps:=
 ⟨h.ok,h.small,λt j l=>by
  obtain⟨d,v,e,b,f⟩:=h.val t j l;exact⟨d,v,e,v.O6 k b,by rw [f,R6 g v b]⟩⟩
theorem bB (a:Array Value)(i j:Nat)(v:Value)(b:i<a.size):
  (a.setIfInBounds i v).getD j undef=if i=j then v else a.getD j undef:=by
 rw [Xd,Xd];by_cases h:i=j;subst h;rw [if_pos rfl,Z4 b];rfl;rw [if_neg h,Y7 h]
theorem U4.put {ι:K4}{n:Nm}{a:List Nat}{env:T d9}{tmps:Array Value}(h:U4 ι n a env tmps)(d:Option Tmp){v:d9}(w:v.lt n):
  U4 ι n a (cB (Gp a d) v env) (match d with | some t=>tmps.setIfInBounds t (l9 ι v) | none=>tmps):=by
 cases d with
 | none=>exact h
 | some t=>
  simp only [Gp];cases ht:idxOf t a 0 with
  | none=>
   refine⟨h.ok,h.small,λu j b=>?_⟩;obtain⟨f,l,g,s,m⟩:=h.val u j b;refine⟨by simpa using f,l,g,s,?_⟩;have i:t≠u:=λe=>by subst e;rw [ht] at b;cases b
   by_cases hts:t<tmps.size;rw [bB _ _ _ _ hts,if_neg i];exact m;rw [show tmps.setIfInBounds t (l9 ι v)=tmps from afX (adp hts)];exact m
  | some k=>
   obtain⟨f,x,g,_,_⟩:=h.val t k ht;have y:=(uy ht).2.1
   have c:cB (some k) v env=env.put k v:=Yn v 64 k env x (by have:=h.small;have:(2:Nat)^60<2^64:=by decide
                                                             omega) g
   rw [c];refine⟨h.ok.put _ _ (by omega),h.small,λu j b=>?_⟩;obtain⟨o,l,p,q,r⟩:=h.val u j b;refine⟨by simpa using o,?_⟩;rw [bB _ _ _ _ f];by_cases he:t=u;subst he;rw [ht] at b;cases b;exact⟨v,T.aL h.ok _ _ (by omega),w,by simp⟩;refine⟨l,?_,q,by rw [if_neg he];exact r⟩;rw [T.bn h.ok _ _ _ (by omega) (λe=>he (by subst e;exact RI ht b))];exact p
def U5:Q6->Bool
 | .cells .. | .map _ | .iter .. | .loop .. | .deferred | .siter .. | .buf .. | .mapU _=>true
 | _=>false
def exitCode:bT->Code
 | .normal=>.skip
 | .exit id=>.exit id
 | .ret=>.ret
section
variable (P:Program)
structure xH (ι:K4)(n:Nm)(L:Loop)(st:LoopState)(pend:Option bT)(env:T d9)(params:List (Option Nat))(assign body:U7):Prop where
 state:L.state=st
 pending:L.pending=pend.map exitCode
 code:∃slots,U4 ι n slots env L.tmps∧params=L.params.toList.map (λt=>idxOf t slots 0)∧R7 P slots L.assign=some assign∧R7 P slots L.body=some body∧
  ∃nt,nt<=L.tmps.size∧tmpsIn nt L.assign=true∧tmpsIn nt L.body=true
def J6 (ι:K4):List (d9×d9)->Nat->List MapEntry
 | [],_=>[]
 | e::es,i=>{key:=l9 ι e.1,val:=l9 ι e.2,born:=i}::J6 ι es (i+1)
def UY (P:Program)(l:Loc)(e:TypeId)(sz k:Nat)(rows:T (List d9)):Prop:=∀ty,k=1->Dy rows=some ty->e=ty∧l.base=0∧sz=P.cellsOf ty
theorem xI {P:Program}{l:Loc}{e:TypeId}{c k:Nat}{rows:T (List d9)}(h:k=1->rows.get 1=none):UY P l e c k rows:=λd b a=>by unfold Dy at a;rw [h b] at a;cases a
theorem uz {P:Program}{l:Loc}{e:TypeId}{b k:Nat}{rows:T (List d9)}(h:T.Ok rows k):UY P l e b k rows:=xI λa=>by
 subst a;cases hg:rows.get 1 with
 | none=>rfl
 | some x=>exact absurd ((h.get 1).1 ⟨x,hg⟩) (by omega)
theorem RJ {rows:T (List d9)}{N i:Nat}(h:T.Ok rows N)(b:i<=N)(a:i≠1)(r:List d9):Dy (rows.put i r)=Dy rows:=by unfold Dy;rw [T.bn h _ _ _ b a]
def UOk (ι:K4)(es:List (d9×d9))(L:List MapEntry):Prop:=
 (L.map λx=>(x.key,x.val)).Perm (es.map λe=>(l9 ι e.1,l9 ι e.2))∧(∀e∈es,∃s,e.1=.str s)∧(es.map (·.1)).Nodup
def dI (ι:K4)(n:Nm)(h:Array Obj)(l:Loc):Q6->Prop
 | .void=>True
 | .dead=>True
 | .cells rs k rows=>∃c e fz,h[l.b]?=some (.cells c e fz)∧l.base+l.cap<=c.size∧(k*rs<=l.cap∧∃N,k<=N∧T.Ok rows N∧UY P l e c.size k rows)∧
   ∀i,i<k->∃row,rows.get i=some row∧row.length=rs∧bg n row∧∀j,j<rs->c[l.base+(i*rs+j)]?=(row[j]?).map (l9 ι)
 | .map es=>h[l.b]?=some (.map (J6 ι es 0).toArray es.length)∧∀e∈es,e.1.lt n∧e.2.lt n
 | .iter mp since seen=>l.base=0∧(∀x,mp=some x->n x)∧∃sn st,h[l.b]?=some (.mapIter (mp.map λx=>(ι x).b) since sn st)∧sn.toList.reverse=seen∧(mp≠none->st=since)
 | .tail p=>n p∧(l.cap=0∨(l.b=(ι p).b∧l.base+l.cap<=(ι p).base+(ι p).cap∧((ι p).spot=none->l.spot=none)))
 | .loop st pend env params assign body=>∃L,h[l.b]?=some (.loop L)∧xH P ι n L st pend env params assign body
 | .deferred=>h[l.b]?=some (.deferred (some []))
 | .siter s pos=>l.base=0∧h[l.b]?=some (.stringIter ⟨s.toArray⟩ pos)
 | .buf ty s=>l.base=0∧∃c fz,h[l.b]?=some (.cells c ty fz)∧s.length<=l.cap∧l.cap<=c.size∧∀(j:Nat) (b:UInt8),s[j]?=some b->c[j]?=some (Value.int .u8 (b.toNat:Int))
 | .mapU es=>∃L ck,h[l.b]?=some (.map L.toArray ck)∧UOk ι es L∧∀e∈es,e.1.lt n∧e.2.lt n
structure al2 (ι:K4)(m:Mem)(h:Array Obj)(i:Nat):Prop where
 alone:∀j b,j≠i->m.get j=some b->U5 b=true->(ι j).b≠(ι i).b
 free:∀c e fz,h[(ι i).b]?=some (.cells c e fz)->∀k,k<c.size->¬ (fz.1<=k∧k<fz.2)
def bZ:Q6->Bool
 | .void=>true
 | _=>false
def Mem.has (m:Mem)(i:Nat):Prop:=∃b,m.get i=some b∧bZ b=false
def Mem.nm (m:Mem)(ι:K4):Nm:=⟨m.has,λi=>(ι i).cap⟩
theorem Mem.au {m m':Mem}{ι ι':K4}(h:∀i,m.has i->m'.has i)(b:∀i,m.has i->ι' i=ι i):(m.nm ι).le (m'.nm ι'):=
 λi a=>⟨h i a,congrArg Loc.cap (b i a)⟩
def GSz (P:Program)(G:Mem)(h:Array Obj):Prop:=∀i rs k rows,i<P.globals.size->G.get i=some (.cells rs k rows)->∃c e fz,h[i]?=some (.cells c e fz)∧c.size=k*rs
structure RM (G:Mem)(ι:K4)(m:Mem)(h:Array Obj):Prop where
 ok:T.Ok m.t m.nx
 blk:∀i b,m.get i=some b->dI P ι (m.nm ι) h (ι i) b
 own:∀i b,m.lim<=i->m.get i=some b->U5 b=true->al2 ι m h i
 glim:G.nx<=m.lim
 limn:m.lim<=m.nx
 gle:P.globals.size<=G.nx
 base:∀i,i<G.nx->m.get i=G.get i
 ghas:∀i,i<P.globals.size->m.has i
 glob:∀i,i<P.globals.size->(ι i).b=i∧(ι i).base=0∧(ι i).spot=none
 spot:∀i b,m.get i=some b->U5 b=true->(ι i).spot=none
 gsz:GSz P G h
end
def LQ (ι:K4)(m:Mem)(b:Nat):Prop:=∃i x,m.lim<=i∧m.get i=some x∧U5 x=true∧(ι i).b=b
theorem RM.LU {P:Program}{G:Mem}{ι:K4}{m:Mem}{h h':Array Obj}(d:RM P G ι m h)(u:∀b,b<h.size->¬ LQ ι m b->h'[b]?=h[b]?):GSz P G h':=by
 intro i r k a g q;obtain⟨c,e,s,p,t⟩:=d.gsz i r k a g q;have l:i<h.size:=(Q5.1 p).1;have f:i<G.nx:=gI g d.gle;have n:m.get i=some (.cells r k a):=(d.base i f).trans q;refine⟨c,e,s,?_,t⟩;rw [u i l];exact p;rintro⟨j,x,hj,hx,hlx,hb⟩;have o:i≠j:=by have:=d.glim;omega
 exact (d.own j x hj hx hlx).alone i _ o n rfl (by rw [(d.glob i g).1,hb])
structure Step (P:Program)(G:Mem)(ι:K4)(m:Mem)(w:World)(ι':K4)(m':Mem)(w':World):Prop where
 rm:RM P G ι' m' w'.heap
 ext:∀i,m.has i->ι' i=ι i
 has:∀i,m.has i->m'.has i
 nx:m.nx<=m'.nx
 lim:m'.lim=m.lim
 old:∀i,i<m.lim->m'.get i=m.get i
 size:w.heap.size<=w'.heap.size
 frame:∀b,b<w.heap.size->¬ LQ ι m b->w'.heap[b]?=w.heap[b]?
 own:∀b,LQ ι' m' b->LQ ι m b∨w.heap.size<=b
 os:w'.os=w.os
 out:w'.output=w.output
 tape:w'.tape=w.tape
theorem Step.refl {P:Program}{G:Mem}{ι:K4}{m:Mem}{w:World}(h:RM P G ι m w.heap):Step P G ι m w ι m w:=
 ⟨h,λ_ _=>rfl,λ_ h=>h,J2 _,rfl,λ_ _=>rfl,J2 _,λ_ _ _=>rfl,λ_ h=>.inl h,rfl,rfl,rfl⟩
theorem Step.drew {P:Program}{G:Mem}{ι:K4}{m:Mem}{w:World}(h:RM P G ι m w.heap)(n:Nat):Step P G ι m w ι m {w with drawn:=n}:=
 ⟨h,λ_ _=>rfl,λ_ h=>h,J2 _,rfl,λ_ _=>rfl,J2 _,λ_ _ _=>rfl,λ_ h=>.inl h,rfl,rfl,rfl⟩
theorem Step.trans {P:Program}{G:Mem}{c d e:K4}{f g j:Mem}{k l m:World}(a:Step P G c f k d g l)(b:Step P G d g l e j m):
  Step P G c f k e j m where
 rm:=b.rm
 ext i hi:=(b.ext i (a.has i hi)).trans (a.ext i hi)
 has i hi:=b.has i (a.has i hi)
 nx:=aA a.nx b.nx
 lim:=b.lim.trans a.lim
 old i hi:=(b.old i (by rw [a.lim];exact hi)).trans (a.old i hi)
 size:=aA a.size b.size
 frame x hx ho:=by refine (b.frame x (gI hx a.size) λh=>?_).trans (a.frame x hx ho);rcases a.own x h with h | h;exact ho h;omega
 own x h:=by rcases b.own x h with h | h;exact a.own x h;exact .inr (aA a.size h)
 os:=b.os.trans a.os
 out:=b.out.trans a.out
 tape:=b.tape.trans a.tape
theorem Step.l9 {P:Program}{G:Mem}{ι ι':K4}{m m':Mem}{w w':World}(a:Step P G ι m w ι' m' w'){v:d9}(h:v.lt (m.nm ι)):AM.l9 ι' v=AM.l9 ι v:=
 R6 (n:=m.nm ι) a.ext v h
theorem Step.env {P:Program}{G:Mem}{ι ι':K4}{m m':Mem}{w w':World}(a:Step P G ι m w ι' m' w'){b:List Nat}{env:T d9}{tmps:Array Value}
  (h:U4 ι (m.nm ι) b env tmps):U4 ι' (m'.nm ι') b env tmps:=h.mono (n:=m.nm ι) a.ext (Mem.au a.has a.ext)
theorem xH.mono {P:Program}{ι ι':K4}{n e:Nm}{L:Loop}{f:LoopState}{c:Option bT}{env:T d9}{b:List (Option Nat)}{a body:U7}
  (h:xH P ι n L f c env b a body) (m:∀i,n i->ι' i=ι i) (o:n.le e):xH P ι' e L f c env b a body:=by
 obtain⟨g,j,d,k,l⟩:=h;exact⟨g,j,d,k.mono m o,l⟩
theorem wL {ι ι':K4}{n:Nm}(hi:∀i,n i->ι' i=ι i):∀(es:List (d9×d9)) (i:Nat),(∀e∈es,e.1.lt n∧e.2.lt n)->J6 ι' es i=J6 ι es i
 | [],_,_=>rfl
 | e::es,i,h=>by simp only [J6];rw [R6 hi _ (h e (by simp)).1,R6 hi _ (h e (by simp)).2,wL hi es (i+1) (λe he=>h e (by simp [he]))]
@[simp] theorem DY (ι:K4):∀(es:List (d9×d9)) (i:Nat),(J6 ι es i).length=es.length
 | [],_=>rfl
 | e::es,i=>by simp [J6,DY ι es]
theorem lV (ι:K4):∀(es:List (d9×d9)) (i j:Nat),(J6 ι es i)[j]?=(es[j]?).map λe=>{key:=l9 ι e.1,val:=l9 ι e.2,born:=i+j}
 | [],_,_=>by simp [J6]
 | e::es,i,0=>by simp [J6]
 | e::es,i,j+1=>by simp [J6,lV ι es,show i+1+j=i+(j+1) from by omega]
theorem dI.mono {P:Program}{ι ι':K4}{n A:Nm}{h h':Array Obj}{l:Loc}{b:Q6}(hb:dI P ι n h l b)
  (o:∀i,n i->ι' i=ι i) (m:n.le A) (g:U5 b=true->h'[l.b]?=h[l.b]?):dI P ι' A h' l b:=by
 cases b with
 | void=>trivial
 | dead=>trivial
 | cells rs k rows=>
  obtain⟨c,e,w,a,d,r,t⟩:=hb;refine⟨c,e,w,by rw [g rfl];exact a,d,r,λi H=>?_⟩;obtain⟨q,D,E,z,F⟩:=t i H;refine⟨q,D,E,dH m q z,λj G=>?_⟩;rw [F j G];cases hr:q[j]? with
  | none=>rfl
  | some v=>simp [R6 o v (bX.1 z v (Y6 hr))]
 | map es=>obtain⟨a,d⟩:=hb;refine⟨?_,λe f=>⟨e.1.O6 m (d e f).1,e.2.O6 m (d e f).2⟩⟩;rw [g rfl,a,wL o es 0 d]
 | iter mp since seen=>
  obtain⟨y,a,J,B,d,r,t⟩:=hb;refine⟨y,λx I=>(m x (a x I)).1,J,B,?_,r,t⟩;rw [g rfl,d];cases mp with
  | none=>rfl
  | some x=>simp [o x (a x rfl)]
 | tail p=>obtain⟨a,d⟩:=hb;exact⟨(m p a).1,by rw [o p a];exact d⟩
 | loop B pend env params assign body=>obtain⟨L,a,d⟩:=hb;exact⟨L,by rw [g rfl];exact a,d.mono o m⟩
 | deferred=>exact (g rfl).trans hb
 | siter s pos=>exact⟨hb.1,(g rfl).trans hb.2⟩
 | buf ty s=>obtain⟨y,c,w,a,d⟩:=hb;exact⟨y,c,w,(g rfl).trans a,d⟩
 | mapU es=>
  obtain⟨L,C,a,⟨d,r,t⟩,u⟩:=hb;refine⟨L,C,(g rfl).trans a,⟨?_,r,t⟩,λe f=>⟨e.1.O6 m (u e f).1,e.2.O6 m (u e f).2⟩⟩;have:es.map (λe=>(l9 ι' e.1,l9 ι' e.2))=es.map λe=>(l9 ι e.1,l9 ι e.2):=ahh λe f=>by rw [R6 o _ (u e f).1,R6 o _ (u e f).2]
  rw [this];exact d
theorem Mem.K5 {m:Mem}(h:T.Ok m.t m.nx)(b:Q6)(i:Nat):(m.new b).get i=if i=m.nx then some b else m.get i:=by show (m.t.put m.nx b).get i=_;split;rename_i e;subst e;exact T.aL h _ _ (J2 _);rename_i e;exact T.bn h _ _ _ (J2 _) (λh=>e h.symm)
theorem Mem.V4 {m:Mem}(h:T.Ok m.t m.nx){j:Nat}(a:j<m.nx)(b:Q6)(i:Nat):(m.set j b).get i=if i=j then some b else m.get i:=by show (m.t.put j b).get i=_;split;rename_i e;subst e;exact T.aL h _ _ (afC a);rename_i e;exact T.bn h _ _ _ (afC a) (λh=>e h.symm)
theorem Mem.I7 {m:Mem}(h:T.Ok m.t m.nx){i:Nat}{b:Q6}(a:m.get i=some b):i<m.nx:=(h.get i).1 ⟨b,a⟩
@[simp] theorem Mem.LV (m:Mem)(b:Q6):(m.new b).nx=m.nx+1:=rfl
@[simp] theorem Mem.Yo (m:Mem)(b:Q6):(m.new b).lim=m.lim:=rfl
@[simp] theorem Mem.ag9 (m:Mem)(i:Nat)(b:Q6):(m.set i b).nx=m.nx:=rfl
@[simp] theorem Mem.ajq (m:Mem)(i:Nat)(b:Q6):(m.set i b).lim=m.lim:=rfl
def K4.upd (ι:K4)(i:Nat)(l:Loc):K4:=λj=>if j=i then l else ι j
@[simp] theorem K4.Z0 (ι:K4)(i:Nat)(l:Loc):ι.upd i l i=l:=by simp [K4.upd]
theorem K4.upd_ne (ι:K4){i j:Nat}(l:Loc)(h:j≠i):ι.upd i l j=ι j:=by simp [K4.upd,h]
theorem eG {P:Program}{ι:K4}{n:Nm}{h:Array Obj}{l:Loc}{b:Q6}(hb:dI P ι n h l b)(d:U5 b=true):l.b<h.size:=by
 cases b with
 | void=>cases d
 | dead=>cases d
 | tail=>cases d
 | cells rs k rows=>obtain⟨c,e,f,a,_⟩:=hb;exact (Q5.1 a).1
 | map es=>obtain⟨a,_⟩:=hb;exact (Q5.1 a).1
 | iter mp since seen=>obtain⟨_,_,i,j,a,_⟩:=hb;exact (Q5.1 a).1
 | loop=>obtain⟨L,a,_⟩:=hb;exact (Q5.1 a).1
 | deferred=>exact (Q5.1 hb).1
 | siter s pos=>exact (Q5.1 hb.2).1
 | buf ty s=>obtain⟨_,c,f,a,_⟩:=hb;exact (Q5.1 a).1
 | mapU es=>obtain⟨L,g,a,_⟩:=hb;exact (Q5.1 a).1
structure Laid (m m':Mem)(nid:Nat)(b:Q6):Prop where
 ok:T.Ok m'.t m'.nx
 get:∀i,m'.get i=if i=nid then some b else m.get i
 lim:m'.lim=m.lim
 nx:m.nx<=m'.nx
 le:m.lim<=nid
 free:¬ m.has nid
 live:bZ b=false
theorem Laid.new {m:Mem}(h:T.Ok m.t m.nx)(a:m.lim<=m.nx)(b:Q6)(hb:bZ b=false):Laid m (m.new b) m.nx b:=
 ⟨h.push b,Mem.K5 h b,rfl,ajr _,a,λ⟨_,h1,_⟩=>afG _ (Mem.I7 h h1),hb⟩
theorem Laid.set {m:Mem}(h:T.Ok m.t m.nx){i:Nat}(a:m.get i=some .void)(c:m.lim<=i)(b:Q6)(hb:bZ b=false):Laid m (m.set i b) i b:=
 ⟨h.put i b (Mem.I7 h a),Mem.V4 h (Mem.I7 h a) b,rfl,J2 _,c,λ⟨_,h1,h2⟩=>(by rw [a] at h1;cases h1;cases h2),hb⟩
theorem Laid.has {m m':Mem}{nid:Nat}{b:Q6}(h:Laid m m' nid b)(i:Nat)(c:m.has i):m'.has i:=by have a:i≠nid:=λe=>h.free (e▸c);obtain⟨x,d,f⟩:=c;exact⟨x,by rw [h.get,if_neg a];exact d,f⟩
theorem Laid.self {m m':Mem}{nid:Nat}{b:Q6}(h:Laid m m' nid b):m'.has nid:=⟨b,by rw [h.get,if_pos rfl],h.live⟩
theorem qB {m:Mem}{i:Nat}{b:Q6}(h:m.get i=some b)(a:U5 b=true):m.has i:=⟨b,h,by cases b<;>first | rfl | cases a⟩
structure UZ (w w':World)(o:Obj):Prop where
 heap:w'.heap=w.heap.push o
 os:w'.os=w.os
 out:w'.output=w.output
 tape:w'.tape=w.tape
theorem Step.lay {P:Program}{G:Mem}{ι:K4}{m m':Mem}{w w':World}(h:RM P G ι m w.heap){s:Nat}{b:Q6}(a:Laid m m' s b){o:Obj}(z:UZ w w' o){l:Loc}
  (D:l.b=w.heap.size) (hs:l.spot=none)
  (hb:dI P (ι.upd s l) (m'.nm (ι.upd s l)) (w.heap.push o) l b)
  (J:∀c e fz,o=.cells c e fz->∀k,k<c.size->¬ (fz.1<=k∧k<fz.2)):
  Step P G ι m w (ι.upd s l) m' w':=by
 have r:∀i x,m.get i=some x->U5 x=true->(ι i).b<w.heap.size:=λi x f d=>eG (h.blk i x f) d;have g:∀k,k<w.heap.size->w'.heap[k]?=w.heap[k]?:=λk C=>by rw [z.heap];exact afY C |>.trans (aa4 C).symm
 have p:∀j,m.has j->ι.upd s l j=ι j:=λj B=>ι.upd_ne l λe=>a.free (e▸B);refine⟨⟨a.ok,?_,?_,by rw [a.lim];exact h.glim,by rw [a.lim];exact aA h.limn a.nx,h.gle,λi q=>by rw [a.get,if_neg (by have:=a.le;have:=h.glim;omega)];exact h.base i q,λi q=>a.has i (h.ghas i q),?_,?_,h.LU λk C _=>g k C⟩,p,a.has,a.nx,a.lim,?_,by rw [z.heap];simp,?_,?_,z.os,z.out,z.tape⟩;intro i x f;rw [a.get] at f;split at f;rename_i e;subst e;cases f;rw [z.heap];simpa using hb;rename_i e;rw [ι.upd_ne l e];exact (h.blk i x f).mono (n:=m.nm ι) p (Mem.au a.has p) (λd=>g _ (r i x f d));intro i x q f d;rw [a.lim] at q;rw [a.get] at f;split at f;rename_i e;subst e;cases f;refine⟨λj y B A v=>?_,λc e fz u=>?_⟩;rw [a.get,if_neg B] at A;rw [ι.upd_ne l B,ι.Z0,D];have:=r j y A v;omega;rw [ι.Z0,D,z.heap] at u;simp at u;exact J c e fz u;rename_i e;have H:=h.own i x q f d;have t:=r i x f d;refine⟨λj y B A v=>?_,λc I fz u=>?_⟩;rw [ι.upd_ne l e];rw [a.get] at A;split at A;rename_i E;subst E;cases A;rw [ι.Z0,D];omega;rename_i E;rw [ι.upd_ne l E];exact H.alone j y B A v;rw [ι.upd_ne l e] at u;rw [g _ t] at u;exact H.free c I fz u;intro i q;rw [p i (h.ghas i q)];exact h.glob i q;intro i x f d;rw [a.get] at f;split at f;rename_i e;subst e;rw [ι.Z0];exact hs;rename_i e;rw [ι.upd_ne l e];exact h.spot i x f d;intro i q;rw [a.get,if_neg (by have:=a.le;omega)];intro F t _;exact g F t;rintro F ⟨i,x,q,f,d,rfl⟩;rw [a.lim] at q;rw [a.get] at f;split at f;rename_i e;subst e;right;rw [ι.Z0,D];exact J2 _;rename_i e;left;rw [ι.upd_ne l e];exact⟨i,x,q,f,d,rfl⟩
theorem Step.name {P:Program}{G:Mem}{ι:K4}{m m':Mem}{w:World}(h:RM P G ι m w.heap){o:Nat}{b:Q6}(d:Laid m m' o b)(D:U5 b=false){l:Loc}
  (hb:dI P (ι.upd o l) (m'.nm (ι.upd o l)) w.heap l b):Step P G ι m w (ι.upd o l) m' w:=by
 have g:∀j,m.has j->ι.upd o l j=ι j:=λj t=>ι.upd_ne l λe=>d.free (e▸t);have p:∀i x,m'.get i=some x->U5 x=true->i≠o∧m.get i=some x:=λi x f a=>by rw [d.get] at f;split at f;cases f;rw [D] at a;cases a;exact⟨by assumption,f⟩
 refine⟨⟨d.ok,?_,?_,by rw [d.lim];exact h.glim,by rw [d.lim];exact aA h.limn d.nx,h.gle,λi k=>by rw [d.get,if_neg (by have:=d.le;have:=h.glim;omega)];exact h.base i k,λi k=>d.has i (h.ghas i k),?_,?_,h.gsz⟩,g,d.has,d.nx,d.lim,?_,J2 _,λ_ _ _=>rfl,?_,rfl,rfl,rfl⟩;intro i x f;rw [d.get] at f;split at f;rename_i e;subst e;cases f;simpa using hb;rename_i e;rw [ι.upd_ne l e];exact (h.blk i x f).mono (n:=m.nm ι) g (Mem.au d.has g) (λ_=>rfl);intro i x k f a;rw [d.lim] at k;obtain⟨q,r⟩:=p i x f a;have v:=h.own i x k r a;refine⟨λj y t E s=>?_,λc z A u=>?_⟩;obtain⟨B,C⟩:=p j y E s;rw [ι.upd_ne l q,ι.upd_ne l B];exact v.alone j y t C s;rw [ι.upd_ne l q] at u;exact v.free c z A u;intro i k;rw [g i (h.ghas i k)];exact h.glob i k;intro i x f a;obtain⟨q,r⟩:=p i x f a;rw [ι.upd_ne l q];exact h.spot i x r a;intro i k;rw [d.get,if_neg (by have:=d.le;omega)];rintro b' ⟨i,x,k,f,a,rfl⟩;rw [d.lim] at k;obtain⟨q,r⟩:=p i x f a;rw [ι.upd_ne l q];exact .inl ⟨i,x,k,r,a,rfl⟩
def al3 (ι:K4)(n:Nm)(done:List (Option Nat))(ls:List d9)(tmps:Array Value):Prop:=
 ∀t k,iK t done 0=some k->∃v,ls[k]?=some v∧v.lt n∧tmps.getD t undef=l9 ι v
structure St (P:Program)(ι:K4)(n:Nm)(slots:List Nat)(done:List (Option Nat))(ls:List d9)(env:T d9)(tmps:Array Value):Prop where
 ls:al3 ι n done ls tmps
 env:U4 ι n slots env tmps
 glob:∀i,i<P.globals.size->(ι i).b=i∧(ι i).base=0∧(ι i).spot=none
 gn:∀g,g<P.globals.size->n g
section
variable {P:Program}{G:Mem}{ι:K4}{n:Nm}{slots:List Nat}{done:List (Option Nat)}{ls:List d9}{env:T d9}{a:Act}
theorem DZ (k:Nat):∀(ls:List d9) (env:T d9),H8 (.loc k) ls env=ls[k]?.getD .undef:=by
 intro ls env;match k with
 | 0=>cases ls<;>rfl
 | 1=>match ls with | [] | [_] | _ :: _ :: _=>rfl
 | 2=>match ls with | [] | [_] | [_,_] | _ :: _ :: _ :: _=>rfl
 | 3=>match ls with | [] | [_] | [_,_] | [_,_,_] | _ :: _ :: _ :: _ :: _=>rfl
 | k+4=>show nth (k+4) ls=_;exact UW _ _
theorem Va (j:Nat)(h:j<2^60)(ls:List d9)(env:T d9):H8 (.slot j) ls env=(env.get j).getD .undef:=by
 show way 64 j env=_
 exact ach 64 j env (by have:(2:Nat)^60+1<2^64:=by decide
                        omega)
theorem w9 (s:St P ι n slots done ls env a.tmps){x:Operand}{o:Q8}(h:N8 P slots done x=some o):
  a.eval x=l9 ι (H8 o ls env)∧(H8 o ls env).lt n:=by
 cases x with
 | tmp t=>
  simp only [N8] at h;cases hk:iK t done 0 with
  | some k=>simp only [hk,J4] at h;subst h;obtain⟨v,b,d,e⟩:=s.ls t k hk;rw [DZ,b];exact⟨e,d⟩
  | none=>
   simp only [hk] at h;cases hj:idxOf t slots 0 with
   | none=>simp [hj] at h
   | some j=>simp only [hj,J4] at h;subst h;obtain⟨_,v,b,d,e⟩:=s.env.val t j hj;rw [Va j (by have:=(uy hj).2.1;have:=s.env.small;omega),b];exact⟨e,d⟩
 | const v=>
  simp only [N8] at h;cases hv:ofValue v with
  | none=>simp [hv] at h
  | some c=>simp only [hv,J4] at h;subst h;obtain⟨b,d⟩:=mW ι v c hv;exact⟨b.symm,d n⟩
 | global g=>simp only [N8] at h;split at h;rename_i i;cases h;obtain⟨b,d,e⟩:=s.glob g i;refine⟨?_,?_⟩;show Value.pointer (some ⟨g,0,none⟩)=.pointer (some (ι.at g 0));rw [K4.yP e,b,d];exact s.gn g i;cases h
 | func f=>simp only [N8,J4] at h;subst h;exact⟨by simp [Act.eval,H8,u6,l9,jl,p8],by simp [H8,u6,d9.lt,Ym,bg]⟩
theorem kV (s:St P ι n slots done ls env a.tmps):∀{l:List Operand} {os:List Q8},jB P slots done l=some os->
  l.map a.eval=p8 ι (evs (fH os) ls env)∧bg n (evs (fH os) ls env)
 | [],os,h=>by simp only [jB,J4] at h;subst h;simp [fH,evs,p8,bg]
 | x::l,os,h=>by
  simp only [jB] at h;cases hx:N8 P slots done x with
  | none=>simp [hx] at h
  | some o=>
   cases hl:jB P slots done l with
   | none=>simp [hx,hl] at h
   | some r=>simp only [hx,hl,J4] at h;subst h;obtain⟨h1,h2⟩:=w9 s hx;obtain⟨h3,h4⟩:=kV s hl;refine⟨?_,?_⟩;show a.eval x::l.map a.eval=l9 ι (H8 o ls env)::p8 ι (evs (fH r) ls env);rw [h1,h3];exact⟨h2,h4⟩
end
section
variable {P:Program}{G:Mem}{w:World}
theorem run_underlying {t:TypeId}{d:TypeDesc}(h:P.underlying t=some d):(underlying t).run P w=.ok d w:=by simp [underlying,h]
theorem run_sizeOf {t:TypeId}{k:Nat}(h:aS P t=some k):(sizeOf t).run P w=.ok k w:=by simp only [aS,abD] at h;obtain⟨i,a,b⟩:=h;simp [sizeOf,typeInfo,a,b]
theorem vK {t:TypeId}{k:Nat}(h:fI P t=some k):∃i,(typeInfo t).run P w=.ok i w∧i.bytes=k:=by simp only [fI,abD] at h;obtain⟨i,a,b⟩:=h;exact⟨i,by simp [typeInfo,a],b⟩
theorem qC {t:TypeId}{b:Bool}(h:wC P t=some b):(isAgg t).run P w=.ok b w:=by
 simp only [wC] at h;cases hu:P.underlying t with
 | none=>simp [hu] at h
 | some d=>simp only [isAgg,X8,run_underlying hu,K9];cases d<;>simp_all
theorem Ea {t:TypeId}{s:Option Nat}(h:partT P t=some s):(s=none∧wC P t=some false∧∃k,aS P t=some k)∨(∃k,s=some k∧wC P t=some true∧aS P t=some k):=by simp only [partT] at h;split at h;rename_i k a b;cases h;exact .inr ⟨k,rfl,a,b⟩;rename_i k a b;cases h;exact .inl ⟨rfl,a,k,b⟩;cases h
theorem dz {t:TypeId}{z:List d9}(h:qA P t=some z)(ι:K4):∃v,(zeroValue t).run P w=.ok v w∧v.cells=(p8 ι z).toArray∧∀n,bg n z:=by
 simp only [qA] at h;cases hi:P.info? t with
 | none=>simp [hi] at h
 | some i=>
  cases hz:i.zero with
  | none=>simp [hi,hz] at h
  | some v=>
   cases ha:ofValue v with
   | none=>simp [hi,hz,ha] at h
   | some a=>simp only [hi,hz,ha,adi,J4] at h;subst h;obtain⟨b,c⟩:=mW ι v a ha;exact⟨v,by simp [zeroValue,typeInfo,hi,hz],by rw [← b,kU],λn=>uq (c n)⟩
theorem nI {t:TypeId}{z:d9}(h:zeroV P t=some z)(ι:K4):(zeroValue t).run P w=.ok (l9 ι z) w∧∀n,z.lt n:=by
 simp only [zeroV] at h;cases hi:P.info? t with
 | none=>simp [hi] at h
 | some i=>
  cases hz:i.zero with
  | none=>simp [hi,hz] at h
  | some v=>simp only [hi,hz,adi] at h;obtain⟨a,b⟩:=mW ι v z h;exact⟨by simp [zeroValue,typeInfo,hi,hz,a],b⟩
end
theorem yQ (n:Int)(h:-9223372036854775808<=n∧n<9223372036854775808):IntKind.i64.wrap n=n:=by
 have a:((2:Int)^IntKind.i64.bits)=18446744073709551616:=rfl;have b:((2:Int)^(IntKind.i64.bits-1))=9223372036854775808:=rfl;unfold IntKind.wrap;rw [a,b];show (if (true&&decide (n%18446744073709551616≥9223372036854775808))=true then n%18446744073709551616-18446744073709551616 else n%18446744073709551616)=n;obtain⟨c,d⟩:=h;by_cases hn:0<=n;have:n%18446744073709551616=n:=Int.emod_eq_of_lt hn (by omega);rw [this,if_neg (by simp only [adl,decide_eq_true_eq];omega)];have:n%18446744073709551616=n+18446744073709551616:=by rw [← Int.add_emod_right];exact Int.emod_eq_of_lt (by omega) (by omega)
 rw [this,if_pos (by simp only [adl,decide_eq_true_eq];omega)];omega
theorem aci (n:Int):jA n=IntKind.i64.wrap n:=by
 cases n with
 | ofNat m=>
  simp only [jA];cases h:Nat.blt m 9223372036854775808 with
  | true=>
   have:m<9223372036854775808:=(Eq.mp Y5 h)
   have a:=yQ (Int.ofNat m) ⟨by have:(0:Int)<=Int.ofNat m:=Int.natCast_nonneg m
                                omega,by have:Int.ofNat m=(m:Int):=rfl
                                         omega⟩
   exact (T9 _ _).trans a.symm
  | false=>exact R5 _ _
 | negSucc m=>
  simp only [jA];cases h:Nat.blt m 9223372036854775808 with
  | true=>have:m<9223372036854775808:=(Eq.mp Y5 h);have e:=afQ m;have a:=yQ (Int.negSucc m) ⟨by omega,by omega⟩;exact (T9 _ _).trans a.symm
  | false=>exact R5 _ _
theorem uD (k:IntKind)(n:Int):sI k n=k.wrap n:=by cases k<;>first | exact aci n | rfl
theorem gT (a b:Int):bY a b=(a==b):=by
 cases a with
 | ofNat a=>
  cases b with
  | ofNat b=>show Nat.beq a b=_;by_cases h:a=b;subst h;simp [abp];rw [show Nat.beq a b=false from aby.2 λe=>h (q8 e)];exact (beq_eq_false_iff_ne.2 (λe=>h (Int.ofNat.inj e))).symm
  | negSucc b=>exact (beq_eq_false_iff_ne.2 (λe=>by cases e)).symm
 | negSucc a=>
  cases b with
  | ofNat b=>exact (beq_eq_false_iff_ne.2 (λe=>by cases e)).symm
  | negSucc b=>show Nat.beq a b=_;by_cases h:a=b;subst h;simp [abp];rw [show Nat.beq a b=false from aby.2 λe=>h (q8 e)];exact (beq_eq_false_iff_ne.2 (λe=>h (Int.negSucc.inj e))).symm
theorem blt_eq (a b:Nat):Nat.blt a b=decide (a<b):=by by_cases h:a<b;rw [decide_eq_true h];exact (Eq.mpr Y5 h);rw [decide_eq_false h];exact aby.2 λe=>h (Eq.mp Y5 e)
theorem iT (a b:Int):mM a b=decide (a<b):=by
 cases a with
 | ofNat a=>
  cases b with
  | ofNat b=>exact (blt_eq a b).trans (decide_eq_decide.2 (by show a<b↔(a:Int)<(b:Int);omega))
  | negSucc b=>exact (decide_eq_false (by rw [afQ];show ¬ (a:Int) < _;omega)).symm
 | negSucc a=>
  cases b with
  | ofNat b=>exact (decide_eq_true (by rw [afQ];show _<(b:Int);omega)).symm
  | negSucc b=>exact (blt_eq b a).trans (decide_eq_decide.2 (by rw [afQ,afQ];omega))
theorem OU (a b:IntKind):Yb a b=decide (a=b):=by cases a<;>cases b<;>rfl
theorem gU:∀a b:List UInt8,strEq a b=(a==b)
 | [],[]=>rfl
 | [],_ :: _=>rfl
 | _ :: _,[]=>rfl
 | x::a,y::b=>by
  show bi (Nat.beq x.toNat y.toNat) (strEq a b) false=_;rw [gU a b];by_cases h:x=y;subst h;simp [abp];have:Nat.beq x.toNat y.toNat=false:=by rw [aby];intro e;exact h (aix.1 (q8 e))
  rw [this];simp [h]
theorem Eb:∀a b:List UInt8,qV a b=Op.bytesLess a b
 | _,[]=>by cases ‹List UInt8› <;> rfl
 | [],_ :: _=>rfl
 | x::a,y::b=>by simp [qV,Op.bytesLess,Eb a b]
theorem K4.nY (ι:K4)(i o k:Nat):(ι.at i o).add k=ι.at i (o+k):=by
 unfold Addr.add K4.at
 split;rename_i h;subst h;rfl;rename_i h;have:¬ (o+k=0):=by omega
 simp [aeF,this];intro _ a;exact absurd a h
section
variable {β:Type}{v:d9}{r:β}
theorem dW {k:Nat->Nat->Option β}(h:gN v k=some r):∃i o,v=.ptr i o∧k i o=some r:=by cases v<;>first | exact⟨_,_,rfl,h⟩ | (simp [gN] at h)
theorem jS {k:IntKind->Int->Option β}(h:qR v k=some r):∃i n,v=.int i n∧k i n=some r:=by cases v<;>first | exact⟨_,_,rfl,h⟩ | (simp [qR] at h)
theorem qD {k:Bool->Option β}(h:oV v k=some r):∃b,v=.bool b∧k b=some r:=by cases v<;>first | exact⟨_,rfl,h⟩ | (simp [oV] at h)
theorem iA {k:List UInt8->Option β}(h:oO v k=some r):∃s,v=.str s∧k s=some r:=by cases v<;>first | exact⟨_,rfl,h⟩ | (simp [oO] at h)
theorem dX {k:List d9->Option β}(h:tN v k=some r):∃l,v=.agg l∧k l=some r:=by cases v<;>first | exact⟨_,rfl,h⟩ | (simp [tN] at h)
theorem Yp {k:List d9->Option β}(h:Ll v k=some r):∃l,v=.tuple l∧k l=some r:=by cases v<;>first | exact⟨_,rfl,h⟩ | (simp [Ll] at h)
theorem vL {a:Option β}{k:Nat->Option β}(h:tO v a k=some r):(v=.nilMap∧a=some r)∨∃i,v=.map i∧k i=some r:=by cases v<;>first | exact .inl ⟨rfl,h⟩ | exact .inr ⟨_,rfl,h⟩ | (simp [tO] at h)
theorem rA {e:Option β}{k u:Nat->Nat->Nat->Nat->Option β}(h:qU v e k u=some r):
  (v=.nilSlice∧e=some r)∨(∃a b c d,v=.slice a b c d∧k a b c d=some r)∨∃a b c d,v=.sliceU a b c d∧u a b c d=some r:=by
 cases v<;>first | exact .inl ⟨rfl,h⟩ | exact .inr (.inl ⟨_,_,_,_,rfl,h⟩) | exact .inr (.inr ⟨_,_,_,_,rfl,h⟩) | (simp [qU] at h)
theorem JE {k:Fn->List d9->List d9->Option β}(h:Lm v k=some r):∃f a b,v=.func f a b∧k f a b=some r:=by cases v<;>first | exact⟨_,_,_,rfl,h⟩ | (simp [Lm] at h)
theorem Yq {n:Int}{k:Nat->Option β}(h:Lr n k=some r):∃m:Nat,n=(m:Int)∧k m=some r:=by
 cases n with
 | ofNat m=>exact⟨m,rfl,h⟩
 | negSucc m=>simp [Lr] at h
theorem fB {k:Nat->Option β}(h:jN v k=some r):∃i,∃m:Nat,v=.int i (m:Int)∧k m=some r:=by obtain⟨i,n,rfl,h⟩:=jS h;obtain⟨m,rfl,h⟩:=Yq h;exact⟨i,m,rfl,h⟩
theorem idx_eq {len:Nat}{k:Nat->Option β}(h:idx len v k=some r):∃i,∃m:Nat,v=.int i (m:Int)∧m<len∧k m=some r:=by obtain⟨i,m,rfl,h⟩:=fB h;obtain⟨a,b⟩:=D9 h;exact⟨i,m,rfl,Eq.mp Y5 a,b⟩
end
section
variable {P:Program}{G:Mem}{ι:K4}{n:Nm}
theorem rD {c:BinOp}{t:TypeId}{x y:Operand}{a b:Value}{w:World}
  (h:∀p q,a≠.agg p∨b≠.agg q) (h':a≠.nilIface∨b≠.nilIface∨wK x=true∨wK y=true):(eqGuard c t x y a b).run P w=.ok () w:=by
 unfold eqGuard;cases c<;>simp<;>(
  split;rename_i d e;rcases h' with h' | h' | h' | h';exact absurd rfl h';exact absurd rfl h';cases x<;>simp_all [wK]
  cases y<;>simp_all [wK]
  rename_i p q;rcases h p q with h | h<;>exact absurd rfl h
  rfl)
theorem JF {c:BinOp}(e:c≠.shl)(f:c≠.shr){k:IntKind}{a b:Int}{v:d9}(h:Jr c k a b=some v)(t:TypeId)(w:World):
  (binOp c t (.int k a) (.int k b)).run P w=.ok (l9 ι v) w∧v.lt n:=by
 cases c<;>first
  | exact absurd rfl e
  | exact absurd rfl f
  | (simp only [Jr,aH,Gi,Yc,dO,BD,yD,Qq,Le,Ug,ag2,iOr,ag3,Qp,J4] at h
     subst h;simp [binOp,Op.intArith,Op.intCmp,Op.intBits,l9,d9.lt,uD,gT,iT,yF,bne]
     done)
  | (simp only [Jr,OH,Yd,abZ] at h
     have d:b≠0:=(by rintro rfl;simp at h);split at h;exact absurd rfl d;cases h;simp [binOp,Op.intDiv,d,l9,d9.lt,uD])
  | (simp only [Jr,Qq,Ug,J4] at h
     subst h;simp [binOp,Op.intCmp,l9,d9.lt,iT];rw [abE];simp)
theorem nZ (s:List UInt8):(⟨s.toArray⟩:ByteArray).size=s.length:=by simp [ByteArray.size]
theorem JG {c:BinOp}{a b:List UInt8}{v:d9}(h:Js c a b=some v)(t:TypeId)(w:World):
  (binOp c t (.string ⟨a.toArray⟩) (.string ⟨b.toArray⟩)).run P w=.ok (l9 ι v) w∧v.lt n:=by
 cases c<;>first
  | (simp only [Js,oW] at h;cases h;done)
  | (simp only [Js,dQ,BF,yG,Uh,Ls,XL,J4] at h
     subst h;simp [binOp,Op.stringOp,l9,d9.lt,gU,Eb]
     done)
  | (simp only [Js,I6] at h
     obtain⟨d,e⟩:=D9 h;cases e;have f:len' a+len' b<9223372036854775808:=Eq.mp Y5 d;simp only [I9] at f;simp [binOp,Op.stringOp,nZ,l9,d9.lt];rw [if_neg (by omega)];congr 3)
theorem rF {c:BinOp}(e:c≠.shl)(f:c≠.shr){x y v:d9}(h:Cx (Jr c) (Js c) x y=some v)(t:TypeId)(w:World):
  (binOp c t (l9 ι x) (l9 ι y)).run P w=.ok (l9 ι v) w∧v.lt n:=by
 cases x<;>try (simp [Cx] at h;done)
 rename_i k a;simp only [Cx] at h;obtain⟨i,b,rfl,h⟩:=jS h;obtain⟨d,g⟩:=D9 h;rw [OU,decide_eq_true_eq] at d;subst d;exact JF e f g t w;rename_i a;simp only [Cx] at h;obtain⟨b,rfl,h⟩:=iA h;exact JG h t w
theorem RL {b:BinOp}{x y v:d9}(h:Cx (Jr b) (Js b) x y=some v):
  (∃k a,x=.int k a)∨∃a,x=.str a:=by
 cases x<;>first | exact .inl ⟨_,_,rfl⟩ | exact .inr ⟨_,rfl⟩ | (simp [Cx] at h;done)
theorem Hf {x y v:d9}(h:Ye x y=some v)(t:TypeId)(w:World):(binOp .shl t (l9 ι x) (l9 ι y)).run P w=.ok (l9 ι v) w∧v.lt n:=by simp only [Ye] at h;obtain⟨k,a,rfl,h⟩:=jS h;obtain⟨i,m,rfl,h⟩:=fB h;cases h;simp [binOp,Op.shift,l9,d9.lt,uD,show ¬ ((m:Int)<0) from by omega]
theorem Hg {x y v:d9}(h:Yf x y=some v)(t:TypeId)(w:World):(binOp .shr t (l9 ι x) (l9 ι y)).run P w=.ok (l9 ι v) w∧v.lt n:=by simp only [Yf] at h;obtain⟨k,a,rfl,h⟩:=jS h;obtain⟨i,m,rfl,h⟩:=fB h;cases h;simp [binOp,Op.shift,l9,d9.lt,show ¬ ((m:Int)<0) from by omega]
theorem Av (a b:Bool):Dz a b=(a==b):=by cases a<;>cases b<;>rfl
theorem oh {x y:d9}{r:Bool}(h:ay x y=some r):∃k a b,x=.int k a∧y=.int k b∧r=(a==b):=by obtain⟨k,a,d,e⟩:=jS h;obtain⟨j,b,f,g⟩:=jS e;obtain⟨c,i⟩:=D9 g;rw [OU,decide_eq_true_eq] at c;subst c;cases i;exact⟨_,_,_,d,f,gT _ _⟩
theorem gV {x y:d9}{r:Bool}(h:qW x y=some r):∃a b,x=.bool a∧y=.bool b∧r=(a==b):=by obtain⟨a,c,d⟩:=qD h;obtain⟨b,e,f⟩:=qD d;cases f;exact⟨_,_,c,e,Av _ _⟩
theorem jm {x y:d9}{r:Bool}(h:eqStr x y=some r):∃a b,x=.str a∧y=.str b∧r=(a==b):=by obtain⟨a,c,d⟩:=iA h;obtain⟨b,e,f⟩:=iA d;cases f;exact⟨_,_,c,e,gU _ _⟩
end
section
variable {P:Program}{G:Mem}{ι:K4}{n:Nm}
theorem kW (a b:List d9):bO [] a b=some true:=rfl
theorem jC (k:PK)(c:List PK)(x y:d9)(a b:List d9):bO (k::c) (x::a) (y::b)=ob (Gj k x y) λr=>bi r (bO c a b) (some false):=rfl
theorem jD {k:PK}{c:List PK}{a b:List d9}{r:Bool}(h:bO (k::c) a b=some r):
  ∃x xs y ys s,a=x::xs∧b=y::ys∧Gj k x y=some s∧bi s (bO c xs ys) (some false)=some r:=by
 cases a with
 | nil=>cases h
 | cons x xs=>
  cases b with
  | nil=>cases h
  | cons y ys=>rw [jC] at h;obtain⟨s,d,e⟩:=A8 h;exact⟨x,xs,y,ys,s,rfl,rfl,d,e⟩
theorem OV (c e:List PK):∀(a b:List d9) (r:Bool),bO (c++e) a b=some r->
  (bO c a b=some false∧r=false)∨(bO c a b=some true∧bO e (a.drop c.length) (b.drop c.length)=some r):=by
 induction c with
 | nil=>intro a b r h;right;exact⟨rfl,by simpa using h⟩
 | cons k c ih=>
  intro a b r h;obtain⟨x,g,y,i,s,rfl,rfl,f,d⟩:=jD h;rw [jC,f];cases s with
  | false=>left;cases d;exact⟨rfl,rfl⟩
  | true=>simpa using ih g i r d
theorem BN (c:List PK):∀(m:Nat) (a b:List d9),c.length<=m->bO c (a.take m) (b.take m)=bO c a b:=by
 induction c with
 | nil=>intro m a b _;rfl
 | cons k c ih=>
  intro m a b h;obtain⟨m,rfl⟩:∃m',m=m'+1:=⟨m-1,by simp at h;omega⟩;cases a with
  | nil=>rfl
  | cons x xs=>
   cases b with
   | nil=>rfl
   | cons y ys=>rw [ae3,ae3,jC,jC,ih m xs ys (by simpa using h)]
def mkV (ι:K4)(agg:Bool)(l:List d9):Value:=if agg then .agg (p8 ι l).toArray else l9 ι (l.headD .undef)
theorem JH (ι:K4)(l:List d9)(o k:Nat):((p8 ι l).toArray.extract o (o+k))=(p8 ι ((l.drop o).take k)).toArray:=by rw [List.extract_toArray];congr 1;rw [bC,bC,afK,aiu];simp [akl,akm]
theorem uE {t:TypeId}{a:Bool}{k:Nat}(b:wC P t=some a)(hs:aS P t=some k)(l:List d9)(o:Nat)(c:a=false->o<l.length∧k=1)(w:World):
  (part t (p8 ι l).toArray o).run P w=.ok (mkV ι a ((l.drop o).take k)) w:=by
 simp only [part,X8,qC b,K9];cases a with
 | true=>simp only [if_true,X8,run_sizeOf hs,K9,aaS,JH];rfl
 | false=>
  obtain⟨h,rfl⟩:=c rfl;have:(p8 ι l).toArray[o]?=some (l9 ι l[o]):=by simp [aQ,Hl h]
  simp only [abA,if_false,this,mkV,aaS];congr 2;rw [Xl h];rfl
theorem Ec {t:TypeId}{k:IntKind}(h:P.underlying t=some (.int k)):wC P t=some false:=by simp [wC,h]
theorem RN {t:TypeId}(h:P.underlying t=some .bool):wC P t=some false:=by simp [wC,h]
theorem LW {t:TypeId}(h:P.underlying t=some .string):wC P t=some false:=by simp [wC,h]
theorem pE {t:TypeId}{a:Array Field}(h:P.underlying t=some (.struct a)):wC P t=some true:=by simp [wC,h]
theorem uF {t:TypeId}{k:IntKind}(h:P.underlying t=some (.int k)){x y:d9}{r:Bool}(c:ay x y=some r)(d:Nat)(w:World):
  (Op.equalIn (d+1) t (l9 ι x) (l9 ι y)).run P w=.ok r w:=by
 obtain⟨k,a,b,rfl,rfl,rfl⟩:=oh c;simp [Op.equalIn,run_underlying h,l9]
theorem yR {t:TypeId}(h:P.underlying t=some .bool){x y:d9}{r:Bool}(c:qW x y=some r)(d:Nat)(w:World):
  (Op.equalIn (d+1) t (l9 ι x) (l9 ι y)).run P w=.ok r w:=by
 obtain⟨a,b,rfl,rfl,rfl⟩:=gV c;simp [Op.equalIn,run_underlying h,l9]
theorem lI (a b:List UInt8):((⟨a.toArray⟩:ByteArray)==⟨b.toArray⟩)=(a==b):=by show ByteArray.beq _ _=_;simp [ByteArray.beq]
theorem BO {t:TypeId}(h:P.underlying t=some .string){x y:d9}{r:Bool}(c:eqStr x y=some r)(d:Nat)(w:World):
  (Op.equalIn (d+1) t (l9 ι x) (l9 ι y)).run P w=.ok r w:=by
 obtain⟨a,b,rfl,rfl,rfl⟩:=jm c;simp [Op.equalIn,run_underlying h,l9,lI]
def jE (d:Nat)(X Y:Array Value):List Field->Sem Bool
 | []=>pure true
 | f::l=>do
  if f.name≠ "_" then
   if !(← Op.equalIn d f.type (← part f.type X f.offset) (← part f.type Y f.offset)) then return false
  jE d X Y l
theorem JI (d:Nat)(X Y:Array Value)(l:List Field):
  (do
   let s ← forIn l ((none,()):Option Bool×Unit) λf _=>
    if f.name≠ "_" then do
     let a ← part f.type X f.offset
     let b ← part f.type Y f.offset
     let e ← Op.equalIn d f.type a b
     if (!e)=true then pure (ForInStep.done (some false,())) else pure (ForInStep.yield (none,()))
    else pure (ForInStep.yield (none,()))
   match s.fst with
   | some r=>pure r
   | none=>pure true:Sem Bool)=jE d X Y l:=by
 induction l with
 | nil=>simp [jE]
 | cons f l ih=>rw [ahe];simp only [jE];rw [← ih];by_cases hf:f.name= "_";simp [hf];simp only [ne_eq,hf,not_false_eq_true,if_true,bind_assoc];congr 1;funext a;congr 1;funext b;congr 1;funext e;cases e<;>simp
theorem Ed {t:TypeId}{b:Array Field}(h:P.underlying t=some (.struct b))(hs:P.stoodInHeld t=false)(X Y:Array Value)(d:Nat)(w:World):
  (Op.equalIn (d+1) t (.agg X) (.agg Y)).run P w=(jE d X Y b.toList).run P w:=by
 simp only [Op.equalIn,X8,run_underlying h,K9,run_program,hs];rw [← ahj,← JI];simp;congr 1;funext a w';obtain⟨o,u⟩:=a;cases o<;>rfl
theorem Ho:∀(d:Nat) (t:TypeId) (ks:List PK),fA P d t=some ks->∃agg,wC P t=some agg∧aS P t=some ks.length∧(agg=false->ks.length=1)∧
  ∀D,d<=D->∀(a b:List d9) (r:Bool),bO ks a b=some r->∀w,(Op.equalIn D t (mkV ι agg a) (mkV ι agg b)).run P w=.ok r w:=by
 intro d;induction d with
 | zero=>intro t ks h;simp [fA] at h
 | succ d ih=>
  intro t ks h;simp only [fA] at h;cases hu:P.underlying t with
  | none=>simp [hu] at h
  | some u=>
   rw [hu] at h;cases u<;>try (simp at h;done)
   ·
    simp only at h;split at h;rename_i k;cases h;refine⟨false,RN hu,k,λ_=>rfl,λD F a b r n w=>?_⟩;obtain⟨x,I,y,J,s,rfl,rfl,m,q⟩:=jD n;obtain⟨D,rfl⟩:∃D',D=D'+1:=⟨D-1,by omega⟩;have:s=r:=by cases s<;>simpa [kW] using q
    subst this;exact yR hu m D w;cases h
   simp only at h;split at h;rename_i k;cases h;refine⟨false,Ec hu,k,λ_=>rfl,λD F a b r n w=>?_⟩;obtain⟨x,I,y,J,s,rfl,rfl,m,q⟩:=jD n;obtain⟨D,rfl⟩:∃D',D=D'+1:=⟨D-1,by omega⟩;have:s=r:=by cases s<;>simpa [kW] using q
   subst this;exact uF hu m D w;cases h;simp only at h;split at h;rename_i k;cases h;refine⟨false,LW hu,k,λ_=>rfl,λD F a b r n w=>?_⟩;obtain⟨x,I,y,J,s,rfl,rfl,m,q⟩:=jD n;obtain⟨D,rfl⟩:∃D',D=D'+1:=⟨D-1,by omega⟩;have:s=r:=by cases s<;>simpa [kW] using q
   subst this;exact BO hu m D w;cases h;rename_i K;simp only at h;cases hf:nW (fA P d) K.toList 0 with
   | none=>simp [hf] at h
   | some ks'=>
    simp only [hf] at h;split at h;rename_i k;cases h;refine⟨true,pE hu,k.2,(λh=>by cases h),λD F a b r n w=>?_⟩;obtain⟨D,rfl⟩:∃D',D=D'+1:=⟨D-1,by omega⟩;simp only [mkV,if_true];rw [Ed hu k.1];have H:∀(l:List Field) (g:Nat) (e:List PK) (j:List PK),ks=j++e->j.length=g->nW (fA P d) l g=some e->
      ∀r,bO e (a.drop g) (b.drop g)=some r->(jE D (p8 ι a).toArray (p8 ι b).toArray l).run P w=.ok r w:=by
     intro l;induction l with
     | nil=>intro g e j _ _ i r B;simp only [nW,J4] at i;subst i;rw [kW] at B;cases B;simp [jE]
     | cons f l ihl=>
      intro g e j G A i r B;simp only [nW] at i;split at i;rename_i N;cases hk:fA P d f.type with
      | none=>simp [hk] at i
      | some kf=>
       simp only [hk] at i;cases hrest:nW (fA P d) l (g+kf.length) with
       | none=>simp [hrest] at i
       | some kr=>
        simp only [hrest,J4] at i;subst i;obtain⟨agg,M,C,m,L⟩:=ih f.type kf hk;have z:∀(c:List d9),(a=c∨b=c)->agg=false->g<c.length∧kf.length=1:=by
         intro c O v;have p:=m v;refine⟨?_,p⟩;cases kf with
         | nil=>simp at p
         | cons k0 kf=>obtain⟨x,I,y,J,s,o,E,_,_⟩:=jD B;rcases O with rfl | rfl;have:=congrArg List.length o;simp at this;omega;have:=congrArg List.length E;simp at this;omega
        simp only [jE,if_pos N.1,X8];rw [N.2,uE M C _ _ (z a (.inl rfl)),K9,uE M C _ _ (z b (.inr rfl)),K9];rcases OV kf kr _ _ r B with⟨o,rfl⟩ | ⟨o,E⟩;rw [L D (by omega) _ _ _ ((BN kf _ _ _ (J2 _)).trans o) w];simp;rw [L D (by omega) _ _ _ ((BN kf _ _ _ (J2 _)).trans o) w];simp only [K9,ahl,abA,if_false];refine ihl (g+kf.length) kr (j++kf) (by rw [G];simp) (by simp [A]) hrest r ?_;simpa [ahi] using E
      cases i
    exact H K.toList 0 ks [] rfl rfl hf r (by simpa using n);cases h
end
section
variable {P:Program}{G:Mem}{ι:K4}{n:Nm}
theorem Vb {t:TypeId}{x y:d9}{r:Bool}(d:(∀k a,x≠.int k a)∧∀s,x≠.str s)(h:∀w,(Op.equal t (l9 ι x) (l9 ι y)).run P w=.ok r w)(w:World):
  (binOp .eql t (l9 ι x) (l9 ι y)).run P w=.ok (.bool r) w∧(binOp .neq t (l9 ι x) (l9 ι y)).run P w=.ok (.bool (!r)) w:=by
 have b:binOp .eql t (l9 ι x) (l9 ι y)=(do pure (.bool (← Op.equal t (l9 ι x) (l9 ι y)))):=by cases x<;>simp_all [l9,binOp]
 have c:binOp .neq t (l9 ι x) (l9 ι y)=(do pure (.bool (!(← Op.equal t (l9 ι x) (l9 ι y))))):=by cases x<;>simp_all [l9,binOp]
 rw [b,c];simp [h]
theorem LX {t e:TypeId}(g:P.underlying t=some (.pointer e)){j:Nat}(hs:aS P e=some j){x y:d9}{r:Bool}(f:iH x y=some r)(d:Nat)(w:World):
  (Op.equalIn (d+1) t (l9 ι x) (l9 ι y)).run P w=.ok r w:=by
 cases x<;>cases y<;>simp only [iH,J4,reduceCtorEq] at f
 case ptr.ptr a b c d'=>obtain⟨h,f⟩:=D9 f;obtain⟨i,f⟩:=D9 f;cases f;obtain rfl:=q8 h;obtain rfl:=q8 i;simp only [Op.equalIn,X8,run_underlying g,l9,K9,run_sizeOf hs];split<;>simp [sameAddr]
 all_goals (subst f;simp [Op.equalIn,run_underlying g,l9])
theorem Gr {t e:TypeId}(b:P.underlying t=some (.slice e)){x y:d9}{r:Bool}(a:yH x y=some r)(d:Nat)(w:World):
  (Op.equalIn (d+1) t (l9 ι x) (l9 ι y)).run P w=.ok r w:=by
 cases x<;>cases y<;>simp only [yH,J4,reduceCtorEq] at a<;>subst a<;>simp [Op.equalIn,run_underlying b,l9]
theorem LY {t k e:TypeId}(b:P.underlying t=some (.map k e)){x y:d9}{r:Bool}(a:Lu x y=some r)(d:Nat)(w:World):
  (Op.equalIn (d+1) t (l9 ι x) (l9 ι y)).run P w=.ok r w:=by
 cases x<;>cases y<;>simp only [Lu,J4,reduceCtorEq] at a<;>subst a<;>simp [Op.equalIn,run_underlying b,l9]
theorem JJ {t:TypeId}{a b:Array TypeId}{c:Bool}(f:P.underlying t=some (.func a b c)){x y:d9}{r:Bool}(e:DF x y=some r)(d:Nat)(w:World):
  (Op.equalIn (d+1) t (l9 ι x) (l9 ι y)).run P w=.ok r w:=by
 cases x<;>cases y<;>simp only [DF,J4,reduceCtorEq] at e<;>subst e<;>simp [Op.equalIn,run_underlying f,l9]
theorem Gs {t:TypeId}{c:Array (String×TypeId)}(b:P.underlying t=some (.interface c)){x y:d9}{r:Bool}(a:lG x y=some r)(d:Nat)(w:World):
  (Op.equalIn (d+1) t (l9 ι x) (l9 ι y)).run P w=.ok r w:=by
 cases x<;>cases y<;>simp only [lG,J4,reduceCtorEq] at a<;>subst a<;>simp [Op.equalIn,run_underlying b,l9]
theorem JK {c:Bool}{t:TypeId}{k:Ad}(a:UQ P c t=some k){x y:d9}{r:Bool}(b:mo k x y=some r)(d:Nat)(n:10<=d+1)(w:World):
  (Op.equalIn (d+1) t (l9 ι x) (l9 ι y)).run P w=.ok r w:=by
 simp only [UQ] at a;cases hu:P.underlying t with
 | none=>simp [hu] at a
 | some u=>
  rw [hu] at a;cases u<;>try (simp at a;done)
  simp only [J4] at a;subst a;exact yR hu b d w;simp only [J4] at a;subst a;exact uF hu b d w;simp only [J4] at a;subst a;exact BO hu b d w;rename_i e;simp only at a;cases hs:aS P e with
  | none=>rw [hs] at a;cases a
  | some sz=>rw [hs] at a;cases a;exact LX hu hs b d w
  simp only [J4] at a;subst a;exact Gr hu b d w;simp only [J4] at a;subst a;exact LY hu b d w;rename_i p;simp only at a;cases hf:fA P 10 t with
  | none=>simp [hf] at a
  | some ks=>simp only [hf] at a;split at a;cases a;obtain⟨l,rfl,h⟩:=dX b;obtain⟨m,rfl,i⟩:=dX h;obtain⟨g,f,o,q,j⟩:=Ho (P:=P) (ι:=ι) 10 t ks hf;rw [pE hu] at f;cases f;have:=j (d+1) n l m r i w;simpa [mkV,l9] using this;cases a
  simp only [J4] at a;subst a;exact JJ hu b d w;simp only at a;split at a;cases a;exact Gs hu b d w;cases a
theorem BP {c:Bool}{t:TypeId}{k:Ad}(b:UQ P c t=some k){x y:d9}{r:Bool}(a:mo k x y=some r)(w:World):
  (Op.equal t (l9 ι x) (l9 ι y)).run P w=.ok r w:=JK b a 9999 (by omega) w
theorem Vd {c:Bool}{t:TypeId}{k:Ad}(g:UQ P c t=some k)(e:k≠.prim .i)(f:k≠.prim .s){x y:d9}{r:Bool}(d:mo k x y=some r)(w:World):
  (binOp .eql t (l9 ι x) (l9 ι y)).run P w=.ok (.bool r) w∧(binOp .neq t (l9 ι x) (l9 ι y)).run P w=.ok (.bool (!r)) w:=by
 refine Vb ?_ (λw=>BP g d w) w;cases k<;>first
  | (rename_i p;cases p<;>first
    | exact absurd rfl e
    | exact absurd rfl f
    | (obtain⟨a,b,rfl,rfl,rfl⟩:=gV d;simp))
  | (obtain⟨l,rfl,_⟩:=dX d;simp)
  | (cases x<;>cases y<;>simp [mo,iH,yH,Lu,DF,lG] at d ⊢)
def pF (d:Nat)(e:TypeId)(X Y:Array Value):List Nat->Sem Bool
 | []=>pure true
 | i::l=>do
  if !(← Op.equalIn d e (← part e X (i*1)) (← part e Y (i*1))) then return false
  pF d e X Y l
theorem OW (d:Nat)(e:TypeId)(X Y:Array Value)(l:List Nat):
  (do
   let s ← forIn l ((none,()):Option Bool×Unit) λi _=>do
       let a ← part e X (i*1)
       let b ← part e Y (i*1)
       let r ← Op.equalIn d e a b
       if (!r)=true then pure (ForInStep.done (some false,())) else pure (ForInStep.yield (none,()))
   match s.fst with
   | some r=>pure r
   | none=>pure true:Sem Bool)=pF d e X Y l:=by
 induction l with
 | nil=>simp [pF]
 | cons f l ih=>rw [ahe];simp only [pF];rw [← ih];simp only [bind_assoc];congr 1;funext a;congr 1;funext b;congr 1;funext r;cases r<;>simp
theorem Gt {t e:TypeId}{k:Nat}(h:P.underlying t=some (.array k e))(hs:aS P e=some 1)(X Y:Array Value)(d:Nat)(w:World):
  (Op.equalIn (d+1) t (.agg X) (.agg Y)).run P w=(pF d e X Y (List.range k)).run P w:=by
 simp only [Op.equalIn,X8,run_underlying h,K9,run_sizeOf hs];rw [Std.Legacy.Range.forIn_eq_forIn_range'];rw [← OW,ahd];simp;congr 1;funext a w';obtain⟨o,u⟩:=a;cases o<;>rfl
theorem RO {e:TypeId}{kk:IntKind}(m:P.underlying e=some (.int kk))(hs:aS P e=some 1)(a b:List d9)(d:Nat)(w:World):∀(j off:Nat) (r:Bool),
  bO (List.replicate j .i) (a.drop off) (b.drop off)=some r->(pF (d+1) e (p8 ι a).toArray (p8 ι b).toArray (List.range' off j)).run P w=.ok r w:=by
 intro j;induction j with
 | zero=>intro off r h;rw [List.replicate_zero,kW] at h;cases h;simp [pF]
 | succ j ih=>
  intro off r h;rw [List.replicate_succ] at h;obtain⟨x,xs,y,ys,s,k,l,p,c⟩:=jD h;have t:off<a.length:=by have:=congrArg List.length k;simp at this;omega
  have u:off<b.length:=by have:=congrArg List.length l;simp at this;omega
  have f:=uE (P:=P) (ι:=ι) (Ec m) hs a off (λ_=>⟨t,rfl⟩) w;have g:=uE (P:=P) (ι:=ι) (Ec m) hs b off (λ_=>⟨u,rfl⟩) w;rw [k] at f;rw [l] at g;have f:(part e (p8 ι a).toArray off).run P w=.ok (l9 ι x) w:=f;have g:(part e (p8 ι b).toArray off).run P w=.ok (l9 ι y) w:=g;have q:=uF (ι:=ι) m p d w;rw [List.range'_succ];simp only [pF,adr,X8,f,g,q,K9];cases s with
  | false=>have c:some false=some r:=c;cases c;simp
  | true=>
   have c:bO (List.replicate j .i) xs ys=some r:=c;simp only [ahl,abA,if_false];refine ih (off+1) r ?_;have n:a.drop (off+1)=xs:=by rw [← ahi,k];rfl
   have o:b.drop (off+1)=ys:=by rw [← ahi,l];rfl
   rw [n,o];exact c
theorem Aw {t:TypeId}{k:Ad}(h:Yl P t=some k):∃n e kk,P.underlying t=some (.array n e)∧P.underlying e=some (.int kk)∧aS P e=some 1∧P.eqGuardType P.depth t=false∧k=.flat (List.replicate n .i):=by unfold Yl at h;split at h;rename_i n e c;split at h;rename_i kk b;split at h;rename_i a;cases h;exact⟨n,e,kk,c,b,a.1,a.2,rfl⟩;cases h;cases h;cases h
theorem xJ {c:Bool}{t:TypeId}{k:Ad}(h:UR P c t=some k):UQ P c t=some k∨Yl P t=some k:=by unfold UR at h;split at h;rename_i b a;cases h;exact .inl a;exact .inr h
theorem RP {c:Bool}{t:TypeId}{k:Ad}(a:UR P c t=some k)(b:k≠.prim .i)(d:k≠.prim .s){x y:d9}{r:Bool}(g:mo k x y=some r)(w:World):
  (binOp .eql t (l9 ι x) (l9 ι y)).run P w=.ok (.bool r) w∧(binOp .neq t (l9 ι x) (l9 ι y)).run P w=.ok (.bool (!r)) w:=by
 rcases xJ a with a | a;exact Vd a b d g w;obtain⟨n,e,q,p,f,h,_,rfl⟩:=Aw a;obtain⟨l,rfl,j⟩:=dX g;obtain⟨m,rfl,o⟩:=dX j;refine Vb (by simp) (λw=>?_) w;have:Op.equal t (l9 ι (.agg l)) (l9 ι (.agg m))=Op.equalIn (9999+1) t (.agg (p8 ι l).toArray) (.agg (p8 ι m).toArray):=by simp [l9,Op.equal,Op.maxDepth]
 rw [this,Gt p h,ahd];exact RO f h l m 9998 w n 0 r (by simpa using o)
end
section
variable {P:Program}{G:Mem}{ι:K4}{n:Nm}{slots:List Nat}{done:List (Option Nat)}{ls:List d9}{env:T d9}{a:Act}
def Gives (P:Program)(ρ:Operand->Value)(op:Op)(v:Value):Prop:=
 ∀(o:Oper),o.op=op->∀w,(execOp ρ o).run P w=.ok (.value v) w
theorem mG {a:BinOp}(b:a≠.eql)(c:a≠.neq){t:TypeId}{x y:Operand}{u v:Value}{w:World}:(eqGuard a t x y u v).run P w=.ok () w:=by unfold eqGuard;cases a<;>first | exact absurd rfl b | exact absurd rfl c | simp
theorem LZ {a:BinOp}{t:TypeId}{x y:Operand}{u v:Array Value}{w:World}(h:P.eqGuardType P.depth t=false):(eqGuard a t x y (.agg u) (.agg v)).run P w=.ok () w:=by unfold eqGuard;cases a<;>simp [h]
theorem qE {b:BinOp}{t:TypeId}{x y:Operand}{e:TypeId}{a:Operand->Value}{v:Value}
  (c:∀w,(eqGuard b t x y (a x) (a y)).run P w=.ok () w) (h:∀w,(binOp b t (a x) (a y)).run P w=.ok v w):Gives P a (.binOp b t x y e) v:=by
 intro o d w;simp [execOp,d,c,h]
theorem bind_eq {α β:Type}{o:Option α}{f:α->Option β}{b:β}(h:(o >>= f)=some b):∃a,o=some a∧f a=some b:=by
 cases o with
 | none=>cases h
 | some a=>exact⟨a,rfl,h⟩
theorem Ve (p:Nat×Nat×OF)(ps:List (Nat×Nat×OF))(ls:List d9)(env:T d9)(cs:List d9):
  lay (p::ps) ls env cs=bi (Nat.beq (len' (p.2.2 ls env).cells) p.2.1) (bi (Nat.ble (Nat.add p.1 p.2.1) (len' cs)) (lay ps ls env (lQ p.1 (p.2.2 ls env).cells cs)) none) none:=rfl
theorem Ay (a:List Value):∀(A:Array Value) (off i:Nat),off+i+a.length<=A.size->
  ((a.zipIdx i).foldl (λcs (p:Value×Nat)=>cs.setIfInBounds (off+p.2) p.1) A).toList=A.toList.take (off+i)++(a++A.toList.drop (off+i+a.length)):=by
 induction a with
 | nil=>intro A off i h;simp
 | cons v a ih=>
  intro A off i h;simp only [List.zipIdx_cons,aiA,Y1] at h ⊢;rw [ih _ _ _ (by simp;omega)];simp only [Array.toList_setIfInBounds];have b:off+i<A.toList.length:=by simp;omega
  rw [List.take_set,show off+(i+1)=off+i+1 from by omega];rw [List.drop_set_of_lt (by omega)];rw [abu b,List.set_append_right _ _ (by simp;omega)];simp [show min (off+i) A.size=off+i from by simp at b;omega];congr 1;omega
theorem Az (s:St P ι n slots done ls env a.tmps)(d:Nat->Option (Nat×Nat)):∀(parts:List (Nat×Operand)) (ps:List (Nat×Nat×Q8)),
  uj P slots done d parts=some ps->∀(cs r:List d9),bg n cs->lay (Ao ps) ls env cs=some r->
   Instr.fill d (p8 ι cs).toArray (parts.map λp=>(p.1,a.eval p.2))=some (p8 ι r).toArray∧bg n r∧r.length=cs.length:=by
 intro parts;induction parts with
 | nil=>intro ps h cs r c f;simp only [uj,J4] at h;subst h;cases f;exact⟨rfl,c,rfl⟩
 | cons p parts ih=>
  intro ps h cs r c f;simp only [uj] at h;split at h;rename_i b k x j C D g;cases h;simp only [Ao,Ve] at f;obtain⟨o,f⟩:=D9 f;obtain⟨q,f⟩:=D9 f;obtain⟨t,u⟩:=w9 s D;simp only [I9] at o q;have l:=q8 o;have A:b+k<=cs.length:=Y2 q;have i:b+((H8 x ls env).cells).length<=cs.length:=by omega
  have m:=yO b ((H8 x ls env).cells) cs i;obtain⟨w,y,z⟩:=ih j g _ r (by
   rw [bX] at c ⊢;intro v e;rw [lU b _ cs (by omega)] at e;simp only [aa3] at e;rcases e with e | e | e;exact c v (aeI e);exact bX.1 (uq u) v e;exact c v (afD e)) f
  refine⟨?_,y,by rw [z,m]⟩;simp only [Z7,Instr.fill,C];rw [t,kU];simp only [adw,V3];rw [if_neg (by simp [l];omega)];rw [← w];congr 1;have B:=Ay (p8 ι (H8 x ls env).cells) (p8 ι cs).toArray b 0 (by simp;omega);apply ah5.1;rw [← Array.foldl_toList];simp only [Array.toList_zipIdx];refine B.trans ?_;simp only [bC,lU b _ cs (show b<=cs.length by omega),abN,akl,akm,aaW,Y3];cases h
theorem Gu:∀(fs:List Field) (pl:List (Nat×Nat)),placesOf P fs=some pl->∀w,
  ((fs.mapM λf=>do pure (f.offset,← sizeOf f.type):Sem (List (Nat×Nat)))).run P w=.ok pl w:=by
 intro fs;induction fs with
 | nil=>intro pl h w;simp only [placesOf,J4] at h;subst h;simp
 | cons f fs ih=>intro pl h w;simp only [placesOf] at h;split at h;rename_i s r b c;cases h;have a:=ih r c w;simp only [bind_pure_comp] at a;simp [aki,run_sizeOf b,a];cases h
theorem Ma (s:St P ι n slots done ls env a.tmps){t:TypeId}{b:Array (Nat×Operand)}{o:yE}(h:xD P slots done t b.toList=some o):
  ∃zero ps,o=.p (.build zero ps)∧∀v,nE (.build zero ps) ls env=some v->v.lt n∧Gives P a.eval (.build t b) (l9 ι v):=by
 simp only [xD] at h;have j:(b.map λp=>(p.1,a.eval p.2)).toList=b.toList.map λp=>(p.1,a.eval p.2):=by simp
 split at h;rename_i zero c q G;split at h;rename_i I E;split at h;rename_i ps l;cases h;refine⟨zero,ps,rfl,λv H=>?_⟩;obtain⟨r,A,B⟩:=A8 H;cases B;obtain⟨z,d,e,g⟩:=dz (P:=P) (w:=default) q ι;obtain⟨u,y,_⟩:=Az s _ b.toList ps l zero r (g n) A;refine⟨y,λo D w=>?_⟩;obtain⟨z,d,e,g⟩:=dz (P:=P) (w:=w) q ι;simp only [execOp,D,Instr.build,X8,d,K9,run_underlying G,e];have K:=Gu (P:=P) c.toList I E w;have C:(c.mapM λf=>do pure (f.offset,← sizeOf f.type):Sem (Array (Nat×Nat)))=Functor.map List.toArray (c.toList.mapM λf=>do pure (f.offset,← sizeOf f.type):Sem (List (Nat×Nat))):=by rw [← List.mapM_toArray]
 rw [C];simp only [Sem.run_map,K,K9,j];have m:(λx:Nat=>I.toArray[x]?)=λi:Nat=>I[i]?:=by funext i;simp
 rw [m,u];simp [l9];cases h;cases h;rename_i zero k J q G;split at h;rename_i L F;split at h;rename_i ps l;cases h;refine⟨zero,ps,rfl,λv H=>?_⟩;obtain⟨r,A,B⟩:=A8 H;cases B;obtain⟨z,d,e,g⟩:=dz (P:=P) (w:=default) q ι;obtain⟨u,y,_⟩:=Az s _ b.toList ps l zero r (g n) A;refine⟨y,λo D w=>?_⟩;obtain⟨z,d,e,g⟩:=dz (P:=P) (w:=w) q ι;simp only [execOp,D,Instr.build,X8,d,K9,run_underlying G,e,run_sizeOf F,j];rw [u];simp [l9];cases h;cases h;cases h
end
section
variable {P:Program}{G:Mem}{ι:K4}{n:Nm}{slots:List Nat}{done:List (Option Nat)}{ls:List d9}{env:T d9}{a:Act}
theorem uG {α:Type}(p q:Nat)(x y:α):bi (Nat.beq p q) x y=if p=q then x else y:=by by_cases h:p=q;subst h;rw [abp,if_pos rfl];rfl;rw [show Nat.beq p q=false from aby.2 λe=>h (q8 e),if_neg h];rfl
theorem O8 {l:List d9}{v:d9}(h:bg n l)(a:v∈l):v.lt n:=bX.1 h v a
def yS (sz:Option Nat)(l:List d9)(o:Nat):Option d9:=match sz with
 | none=>l[o]?
 | some k=>ob (takeN k (l.drop o)) λr=>some (.agg r)
theorem Ee {t:TypeId}{c:Option Nat}(f:partT P t=some c){l:List d9}(b:bg n l)(o:Nat){v:d9}
  (a:yS c l o=some v):
  v.lt n∧∀w,(part t (p8 ι l).toArray o).run P w=.ok (l9 ι v) w:=by
 rcases Ea f with⟨rfl,ha,k,hk⟩ | ⟨k,rfl,ha,hk⟩;simp only [yS] at a;refine⟨O8 b (Y6 a),λw=>?_⟩;simp [part,qC ha,aQ,a];simp only [yS] at a;obtain⟨r,d,e⟩:=A8 a;cases e;obtain⟨rfl,_⟩:=kT _ _ _ d;refine⟨bX.2 λv a=>O8 b (afD (aeI a)),λw=>?_⟩;simp [part,qC ha,run_sizeOf hk,l9,bC,akl,akm]
theorem Hq (s:St P ι n slots done ls env a.tmps){x:Option Operand}{o:Option Q8}(h:cOpt P slots done x=some o):
  (x=none∧o=none)∨∃y z,x=some y∧o=some z∧a.eval y=l9 ι (H8 z ls env):=by
 cases x with
 | none=>simp only [cOpt,J4] at h;exact .inl ⟨rfl,h.symm⟩
 | some y=>
  simp only [cOpt] at h;cases hy:N8 P slots done y with
  | none=>simp [hy] at h
  | some z=>simp only [hy,J4] at h;exact .inr ⟨y,z,rfl,h.symm,(w9 s hy).1⟩
theorem rG (s:St P ι n slots done ls env a.tmps){lo u:Option Operand}{p j:Option Q8}(v:cOpt P slots done lo=some p)(t:cOpt P slots done u=some j)
  {β:Type} {k:Nat->Nat->Option β} {d:Nat} {r:β} (h:eY (kQ p) 0 ls env (λl=>eY (kQ j) d ls env λh=>k l h)=some r):
  ∃l h,k l h=some r∧(u=none->h=d)∧(lo=none->l=0)∧
   (∀(isSlice:Bool) (len cap:Nat) (w:World),len=d->l<=h->h<=cap->(Instr.sliceBounds isSlice len cap (lo.map a.eval) (u.map a.eval) none).run P w=.ok (l,h,cap) w):=by
 rcases Hq s v with⟨rfl,rfl⟩ | ⟨y,z,rfl,rfl,hy⟩<;>rcases Hq s t with⟨rfl,rfl⟩ | ⟨y',z',rfl,rfl,hy'⟩
 exact⟨0,d,h,λ_=>rfl,λ_=>rfl,λo len cap w g _ _=>by subst g;simp [Instr.sliceBounds]⟩;obtain⟨i,m,b,f⟩:=fB h;refine⟨0,m,f,(by simp),(by simp),λo len cap w g c e=>?_⟩;have b:H8 z' ls env=.int i (m:Int):=b;simp only [abB,ae5,hy',b,l9,Instr.sliceBounds,Instr.sliceBound,asIntOf];cases o<;>simp [e]
 obtain⟨i,m,b,f⟩:=fB h;refine⟨m,d,f,(by simp),(by simp),λo len cap w g c e=>?_⟩;have b:H8 z ls env=.int i (m:Int):=b;subst g;simp only [abB,ae5,hy,b,l9,Instr.sliceBounds,Instr.sliceBound,asIntOf];simp [c];obtain⟨i,m,b,f⟩:=fB h;obtain⟨B,x,q,A⟩:=fB f;refine⟨m,x,A,(by simp),(by simp),λo len cap w g c e=>?_⟩;have b:H8 z ls env=.int i (m:Int):=b;have q:H8 z' ls env=.int B (x:Int):=q;simp only [abB,hy,b,hy',q,l9,Instr.sliceBounds,Instr.sliceBound,asIntOf];cases o<;>simp [c,e]
theorem wM {t e:TypeId}{es:Nat}(c:P.underlying t=some (.slice e))(hs:aS P e=some es)(a:Addr)(len cap:Nat)(k:IntKind)(i:Nat)(b:i<len)(w:World):
  (Instr.indexAt t (.slice (some a) len cap) (.int k (i:Int))).run P w=.ok (.pointer (some (a.add (i*es)))) w:=by
 simp [Instr.indexAt,asIntOf,run_underlying c,run_sizeOf hs,b]
theorem Gv {t e:TypeId}{es len:Nat}(c:P.underlying t=some (.array len e))(hs:aS P e=some es)(a:Addr)(k:IntKind)(i:Nat)(b:i<len)(w:World):
  (Instr.indexAt t (.pointer (some a)) (.int k (i:Int))).run P w=.ok (.pointer (some (a.add (i*es)))) w:=by
 simp [Instr.indexAt,asIntOf,run_underlying c,run_sizeOf hs,b,Instr.sureAddr]
theorem Mc (a:Bool):∀(ys:List d9) (x v:d9),bg n ys->x.lt n->Lv a ys x=some v->v.lt n∧
  ∀w,((p8 ι ys).foldlM (if a then Builtin.max2 else Builtin.min2) (l9 ι x)).run P w=.ok (l9 ι v) w:=by
 intro ys;induction ys with
 | nil=>intro x v _ d h;cases h;exact⟨d,λw=>by simp [p8]⟩
 | cons y ys ih=>
  intro x v c d h;have h:ob (mm2 a x y) (λz=>Lv a ys z)=some v:=h;obtain⟨z,b,j⟩:=A8 h;simp only [mm2] at b;obtain⟨k,p,e,b⟩:=jS b;obtain⟨l,q,f,b⟩:=jS b;cases b;obtain⟨g,i⟩:=ih _ v c.2 (by simp [d9.lt]) j;refine⟨g,λw=>?_⟩;subst e;subst f;simp only [p8,List.foldlM_cons,X8,l9];have:((if a=true then Builtin.max2 else Builtin.min2) (.int k p) (.int l q)).run P w=.ok (.int k (bi a (bi (mM p q) q p) (bi (mM q p) q p))) w:=by cases a;simp only [abA,if_false,Builtin.min2,aaS,R5,iT];by_cases hlt:q<p;simp [hlt];simp [hlt];simp only [if_true,Builtin.max2,aaS,T9,iT];by_cases hlt:p<q;simp [hlt];simp [hlt]
  rw [this];exact i w
end
section
variable {P:Program}{G:Mem}{ι:K4}{n:Nm}{slots:List Nat}{done:List (Option Nat)}{ls:List d9}{env:T d9}{a:Act}
theorem aX {x y:Ue}(h:(pure (yE.p x):Option yE)=some (.p y)):x=y:=by cases h;rfl
theorem RQ {f:FuncId}{a:Func}(h:P.funcs[f]?=some a)(hb:a.body.isNone=true)(b:a.name= "internal/abi.NoEscape")(i:(Extern.findNext a).isNone=true)(v:Value)(w:World):
  (callFunc f #[v]).run P w=.ok (.value v) w:=by
 have c:Extern.allGenericRows.lookup "internal/abi.NoEscape"=none:=by kernel_rfl
 have d:Extern.allTypedRows.lookup "internal/abi.NoEscape"=none:=by kernel_rfl
 have e:Extern.allRows.lookup "internal/abi.NoEscape"=some Extern.AbiNoEscape.same:=by kernel_rfl
 have g:Extern.find a=some Extern.AbiNoEscape.same:=by unfold Extern.find;simp only [b,c,d,e];rfl
 rw [run_callFunc_extern h (by rw [b];decide) hb (by simpa using i) g];rfl
set_option maxHeartbeats 1000000 in
theorem rH (s:St P ι n slots done ls env a.tmps){I:Op}{S:Ue}(h:fQ P slots done I=some (.p S)){v:d9}(F:nE S ls env=some v):
  v.lt n∧Gives P a.eval I (l9 ι v):=by
 cases I with
 | move x=>obtain⟨x',A,h⟩:=bind_eq h;obtain rfl:=aX h;cases F;obtain⟨B,E⟩:=w9 s A;exact⟨E,λo C w=>by simp [execOp,C,B]⟩
 | assign x=>obtain⟨x',A,h⟩:=bind_eq h;obtain rfl:=aX h;cases F;obtain⟨B,E⟩:=w9 s A;exact⟨E,λo C w=>by simp [execOp,C,B]⟩
 | pick c x y=>
  obtain⟨c',hc,h⟩:=bind_eq h;obtain⟨x',A,h⟩:=bind_eq h;obtain⟨y',hy,h⟩:=bind_eq h;obtain rfl:=aX h;obtain⟨b,d,D⟩:=qD F;have d:H8 c' ls env=.bool b:=d;obtain⟨B,_⟩:=w9 s hc;obtain⟨E,ac⟩:=w9 s A;obtain⟨V,ad⟩:=w9 s hy;rw [d] at B;cases b with
  | true=>cases D;exact⟨ac,λo C w=>by simp [execOp,C,B,E,l9,asBool]⟩
  | false=>cases D;exact⟨ad,λo C w=>by simp [execOp,C,B,V,l9,asBool]⟩
 | build t parts=>obtain⟨zero,ps,e,hb⟩:=Ma s (show xD P slots done t parts.toList=some (.p S) from h);cases e;exact hb v F
 | nilCheck x=>
  obtain⟨x',A,h⟩:=bind_eq h;obtain rfl:=aX h;obtain⟨B,E⟩:=w9 s A;have F:Ak (H8 x' ls env)=some v:=F;generalize H8 x' ls env=u at *;have:v=u∧∀o:Oper,o.op=.nilCheck x->∀w,(execOp a.eval o).run P w=.ok (.value (l9 ι u)) w:=by
   cases u<;>simp only [Ak,J4,reduceCtorEq] at F<;>try (refine⟨F.symm,λo C w=>?_⟩;simp [execOp,C,B,l9];done)
   rename_i fn p q;cases fn<;>simp only [J4,reduceCtorEq] at F
   refine⟨F.symm,λo C w=>?_⟩;simp [execOp,C,B,l9,jl]
  obtain⟨rfl,D⟩:=this;exact⟨E,D⟩
 | binOp I t x y yt=>
  simp only [fQ] at h;by_cases d:I=.eql∨I=.neq
  ·have O:∃k x' y',UR P (wK x||wK y) t=some k∧N8 P slots done x=some x'∧N8 P slots done y=some y'∧
     ((k=.prim .i∨k=.prim .s)∧S=.ib I x' y'∨(k≠.prim .i∧k≠.prim .s)∧S=.eq (decide (I=.neq)) k x' y'):=by
    rcases d with rfl | rfl <;>
    ·simp only at h;obtain⟨k,K,h⟩:=bind_eq h;cases k with
     | prim p=>
      cases p <;>
      ·simp only at h;obtain⟨x',A,h⟩:=bind_eq h;obtain⟨y',hy,h⟩:=bind_eq h;have:=aX h;exact⟨_,x',y',K,A,hy,by simp [this]⟩
     | _=>simp only at h;obtain⟨x',A,h⟩:=bind_eq h;obtain⟨y',hy,h⟩:=bind_eq h;have:=aX h;exact⟨_,x',y',K,A,hy,by simp [this]⟩
   obtain⟨k,x',y',K,A,hy,O⟩:=O;obtain⟨B,_⟩:=w9 s A;obtain⟨E,_⟩:=w9 s hy;rcases O with⟨_,rfl⟩ | ⟨⟨hk1,hk2⟩,rfl⟩;have a0:I≠.shl:=by rcases d with rfl | rfl<;>simp
   have a1:I≠.shr:=by rcases d with rfl | rfl<;>simp
   have F:Cx (Jr I) (Js I) (H8 x' ls env) (H8 y' ls env)=some v:=by rcases d with rfl | rfl<;>exact F
   refine⟨(rF (P:=P) (ι:=ι) a0 a1 F t default).2,qE (λw=>?_) (λw=>by rw [B,E];exact (rF (n:=n) a0 a1 F t w).1)⟩;rw [B,E];rcases RL F with⟨k,p,W⟩ | ⟨p,W⟩<;>rw [W]<;>exact rD (by simp [l9]) (by simp [l9])
   ·have F:∃r,mo k (H8 x' ls env) (H8 y' ls env)=some r∧v=.bool (if I=.neq then !r else r):=by
     rcases d with rfl | rfl <;>
     ·obtain⟨r,d,D⟩:=A8 F;cases D;exact⟨r,d,rfl⟩
    obtain⟨r,hr,rfl⟩:=F;refine⟨by simp [d9.lt],qE (λw=>?_) (λw=>?_)⟩
    ·rw [B,E];cases k with
     | prim p=>
      cases p with
      | b=>obtain⟨p,q,H,Q,_⟩:=gV hr;rw [H,Q];exact rD (by simp [l9]) (by simp [l9])
      | i=>exact absurd rfl hk1
      | s=>exact absurd rfl hk2
     | flat ks=>
      obtain⟨l,H,Q⟩:=dX hr;obtain⟨m,h5,h6⟩:=dX Q;rw [H,h5];refine LZ ?_;rcases (xJ K).symm with K | K;obtain⟨_,_,_,_,_,_,h7,_⟩:=Aw K;exact h7;simp only [UQ] at K;split at K<;>first | (simp at K;done) | (split at K<;>simp at K;done) | skip
      split at K;split at K;assumption;cases K;cases K
     | iface=>
      have hc:wK x=true∨wK y=true:=by
       rcases (xJ K).symm with K | K;obtain⟨_,_,_,_,_,_,_,h7⟩:=Aw K;cases h7;simp only [UQ] at K;split at K<;>first | (simp at K;done) | (split at K<;>simp at K;done) | (split at K<;>first | (split at K<;>simp at K;done) | (simp at K;done)) | skip
       split at K;rename_i hc;simpa using hc;simp at K
      exact rD (λp q=>by cases A:H8 x' ls env<;>simp_all [mo,lG,l9]) (hc.elim (λh=>.inr (.inr (.inl h))) (λh=>.inr (.inr (.inr h))))
     | _=>refine rD (λp q=>?_) (.inl ?_)<;>cases A:H8 x' ls env<;>simp_all [mo,iH,yH,Lu,DF,l9]
    rw [B,E];have:=RP K hk1 hk2 (ι:=ι) hr w;rcases d with rfl | rfl;simpa [l9] using this.1;simpa [l9] using this.2
  ·have J:I≠.eql∧I≠.neq:=⟨λe=>d (.inl e),λe=>d (.inr e)⟩;have O:∃x' y',N8 P slots done x=some x'∧N8 P slots done y=some y'∧S=.ib I x' y':=by
    cases I<;>first
     | exact absurd rfl J.1
     | exact absurd rfl J.2
     | (simp only at h
        obtain⟨x',A,h⟩:=bind_eq h;obtain⟨y',hy,h⟩:=bind_eq h;exact⟨x',y',A,hy,(aX h).symm⟩)
   obtain⟨x',y',A,hy,rfl⟩:=O;obtain⟨B,_⟩:=w9 s A;obtain⟨E,_⟩:=w9 s hy;by_cases a0:I=.shl;subst a0;refine⟨(Hf (P:=P) (ι:=ι) F t default).2,qE (λw=>mG (by simp) (by simp)) (λw=>by rw [B,E];exact (Hf (n:=n) F t w).1)⟩;by_cases a1:I=.shr;subst a1;refine⟨(Hg (P:=P) (ι:=ι) F t default).2,qE (λw=>mG (by simp) (by simp)) (λw=>by rw [B,E];exact (Hg (n:=n) F t w).1)⟩;have F:Cx (Jr I) (Js I) (H8 x' ls env) (H8 y' ls env)=some v:=by cases I<;>first | exact absurd rfl a0 | exact absurd rfl a1 | exact F
   exact⟨(rF (P:=P) (ι:=ι) a0 a1 F t default).2,qE (λw=>mG J.1 J.2) (λw=>by rw [B,E];exact (rF (n:=n) a0 a1 F t w).1)⟩
 | unOp I t x=>
  have O:∃x',N8 P slots done x=some x'∧(I=.not∧S=.not x'∨I=.neg∧S=.neg x'∨I=.xor∧S=.inv x'):=by
   simp only [fQ] at h;cases I<;>simp only at h<;>first
    | (cases h;done)
    | (obtain⟨x',A,h⟩:=bind_eq h
       exact⟨x',A,by simp [aX h]⟩)
  obtain⟨x',A,O⟩:=O;obtain⟨B,_⟩:=w9 s A;rcases O with⟨rfl,rfl⟩ | ⟨rfl,rfl⟩ | ⟨rfl,rfl⟩;obtain⟨b,d,D⟩:=qD F;have d:H8 x' ls env=.bool b:=d;cases D;exact⟨by simp [d9.lt],λo C w=>by simp [execOp,C,B,d,l9,Op.unary]⟩;obtain⟨k,m,d,D⟩:=jS F;have d:H8 x' ls env=.int k m:=d;cases D;exact⟨by simp [d9.lt],λo C w=>by simp [execOp,C,B,d,l9,Op.unary,Op.intArith,uD]⟩;obtain⟨k,m,d,D⟩:=jS F;have d:H8 x' ls env=.int k m:=d;cases D;exact⟨by simp [d9.lt,yF],λo C w=>by cases K:k.signed<;>simp [execOp,C,B,d,l9,Op.unary,Op.intBits,yF,K]⟩
 | convert src dst x=>
  simp only [fQ] at h;obtain⟨us,ag,h⟩:=bind_eq h;obtain⟨ud,af,h⟩:=bind_eq h;have O:∃x',N8 P slots done x=some x'∧∃j k,us=.int j∧ud=.int k∧S=.conv k x':=by split at h;obtain⟨x',A,h⟩:=bind_eq h;exact⟨x',A,_,_,rfl,rfl,(aX h).symm⟩;obtain⟨ue,_,h⟩:=bind_eq h;split at h;obtain⟨x',A,h⟩:=bind_eq h;cases h;cases h;obtain⟨ue,_,h⟩:=bind_eq h;split at h;obtain⟨x',A,h⟩:=bind_eq h;cases h;cases h;obtain⟨_,_,h⟩:=bind_eq h;split at h;cases h;obtain⟨_,_,h⟩:=bind_eq h;cases h;obtain⟨_,_,h⟩:=bind_eq h;split at h;cases h;obtain⟨_,_,h⟩:=bind_eq h;cases h;cases h
  obtain⟨x',A,j,k,rfl,rfl,rfl⟩:=O;obtain⟨B,E⟩:=w9 s A;obtain⟨k',m,d,D⟩:=jS F;have d:H8 x' ls env=.int k' m:=d;cases D;exact⟨by simp [d9.lt],λo C w=>by simp [execOp,C,convert,run_underlying ag,run_underlying af,B,d,l9,Conv.intToInt,uD]⟩
 | makeInterface t x=>
  simp only [fQ] at h;obtain⟨u,L,h⟩:=bind_eq h;have O:∃x',N8 P slots done x=some x'∧S=.mkIface t x'∧∀ms,u≠.interface ms:=by split at h;cases h;rename_i J;obtain⟨x',A,h⟩:=bind_eq h;exact⟨x',A,(aX h).symm,λms e=>J ms e⟩
  obtain⟨x',A,rfl,J⟩:=O;obtain⟨B,E⟩:=w9 s A;cases F;refine⟨by simpa [d9.lt] using E,λo C w=>?_⟩;simp only [execOp,C,Instr.makeInterface,X8,run_underlying L,K9,B];cases u<;>first | exact absurd rfl (J _) | simp [l9]
 | typeAssert x xt t ok=>
  simp only [fQ] at h;obtain⟨u,L,h⟩:=bind_eq h;have O:∃z x',zeroV P t=some z∧N8 P slots done x=some x'∧S=.assert t z ok x'∧∀ms,u≠.interface ms:=by split at h;cases h;rename_i J;obtain⟨z,hz,h⟩:=bind_eq h;obtain⟨x',A,h⟩:=bind_eq h;exact⟨z,x',hz,A,(aX h).symm,λms e=>J ms e⟩
  obtain⟨z,x',hz,A,rfl,J⟩:=O;obtain⟨B,E⟩:=w9 s A;have G:Qs t z ok (H8 x' ls env)=some v:=F;clear F;generalize H8 x' ls env=y at *;cases y with
  | nilIface=>
   cases ok with
   | false=>cases G
   | true=>have G:some (d9.tuple [z,.bool false])=some v:=G;cases G;refine⟨⟨(nI (w:=default) hz ι).2 n,trivial,trivial⟩,λo C w=>?_⟩;have a8:=(nI (w:=w) hz ι).1;simp only [execOp,C,Instr.typeAssert,X8,run_underlying L,K9,B,l9];cases u<;>first | exact absurd rfl (J _) | simp [a8,p8,l9]
  | iface t' y=>
   have G:bi (Nat.beq t' t) (some (bi ok (.tuple [y,.bool true]) y)) (bi ok (some (.tuple [z,.bool false])) none)=some v:=G;cases hb:Nat.beq t' t with
   | true=>
    have he:=q8 hb;rw [hb] at G;have G:some (bi ok (.tuple [y,.bool true]) y)=some v:=G;cases ok with
    | false=>have G:some y=some v:=G;cases G;refine⟨E,λo C w=>?_⟩;simp only [execOp,C,Instr.typeAssert,X8,run_underlying L,K9,B,l9];cases u<;>first | exact absurd rfl (J _) | simp [he]
    | true=>have G:some (d9.tuple [y,.bool true])=some v:=G;cases G;refine⟨⟨E,trivial,trivial⟩,λo C w=>?_⟩;simp only [execOp,C,Instr.typeAssert,X8,run_underlying L,K9,B,l9];cases u<;>first | exact absurd rfl (J _) | simp [he,p8,l9]
   | false=>
    have he:t'≠t:=Nat.ne_of_beq_eq_false hb;rw [hb] at G;cases ok with
    | false=>cases G
    | true=>have G:some (d9.tuple [z,.bool false])=some v:=G;cases G;refine⟨⟨(nI (w:=default) hz ι).2 n,trivial,trivial⟩,λo C w=>?_⟩;have a8:=(nI (w:=w) hz ι).1;simp only [execOp,C,Instr.typeAssert,X8,run_underlying L,K9,B,l9];cases u<;>first | exact absurd rfl (J _) | simp [a8,he,p8,l9]
  | _=>cases G
 | makeFunc fn f c=>
  simp only [fQ] at h;have O:∃g f' c',fn=.func g∧jB P slots done f.toList=some f'∧jB P slots done c.toList=some c'∧S=.mkFunc (.func g) f' c':=by split at h;obtain⟨f',W,h⟩:=bind_eq h;obtain⟨c',hc,h⟩:=bind_eq h;exact⟨_,f',c',rfl,W,hc,(aX h).symm⟩;cases h
  obtain⟨g,f',c',rfl,W,hc,rfl⟩:=O;cases F;obtain⟨B,E⟩:=kV s W;obtain⟨V,e4⟩:=kV s hc;refine⟨⟨trivial,E,e4⟩,λo C w=>?_⟩;have q1:f.map a.eval=(p8 ι (evs (fH f') ls env)).toArray:=by apply ah5.1;rw [ah6];exact B
  have q2:c.map a.eval=(p8 ι (evs (fH c') ls env)).toArray:=by apply ah5.1;rw [ah6];exact V
  simp [execOp,C,Instr.makeFunc,q1,q2,l9,jl]
 | slice t x lo hi mx=>
  simp only [fQ] at h;cases mx with
  | some _=>simp at h
  | none=>
  simp only at h;obtain⟨u,L,h⟩:=bind_eq h;split at h;obtain⟨x',A,h⟩:=bind_eq h;obtain⟨ab,a5,h⟩:=bind_eq h;obtain⟨a9,a4,h⟩:=bind_eq h;obtain rfl:=aX h;obtain⟨B,E⟩:=w9 s A;obtain⟨str,d,D⟩:=iA F;have d:H8 x' ls env=.str str:=d;obtain⟨l,h,H,_,_,Q⟩:=rG s a5 a4 D;obtain⟨Z,H⟩:=D9 H;obtain⟨g2,H⟩:=D9 H;obtain⟨r,h5,h6⟩:=A8 H;cases h6;have Z:=Y2 Z;have g2:=Y2 g2;simp only [I9,lT] at *;obtain⟨rfl,_⟩:=kT _ _ _ h5;refine⟨by simp [d9.lt],λo C w=>?_⟩;simp only [execOp,C,Instr.sliceAt,X8,run_underlying L,K9,Instr.slice,B,d,l9];simp only [ae5,Option.isSome_none,abA,if_false,X8,nZ,aaS,K9];rw [Q false str.length str.length w rfl Z g2];simp only [K9,aaS];congr 3;apply ByteArray.ext;simp [ByteArray.data_extract,afK];obtain⟨es,_,h⟩:=bind_eq h;obtain⟨x',A,h⟩:=bind_eq h;obtain⟨ab,a5,h⟩:=bind_eq h;obtain⟨a9,a4,h⟩:=bind_eq h;cases h;rename_i n' e';obtain⟨es,U,h⟩:=bind_eq h;obtain⟨x',A,h⟩:=bind_eq h;obtain⟨ab,a5,h⟩:=bind_eq h;obtain⟨a9,a4,h⟩:=bind_eq h;obtain rfl:=aX h;obtain⟨B,E⟩:=w9 s A;obtain⟨i,o,d,D⟩:=dW F;have d:H8 x' ls env=.ptr i o:=d;rw [d] at B E;obtain⟨l,h,H,_,_,Q⟩:=rG s a5 a4 D;obtain⟨Z,H⟩:=D9 H;obtain⟨g2,H⟩:=D9 H;cases H;have Z:=Y2 Z;have g2:=Y2 g2;refine⟨E,λI C w=>?_⟩;simp only [execOp,C,Instr.sliceAt,X8,run_underlying L,K9,B,l9,Instr.sureAddr,aaS,ae5];rw [Q false _ _ w rfl Z g2];simp only [K9,X8,run_sizeOf U,aaS];rw [uG,K4.nY];by_cases hl:n'=l;rw [if_pos hl,if_pos hl.symm];rfl;rw [if_neg hl,if_neg (λe=>hl e.symm)];rfl;cases h
 | fieldAddr t x f=>
  simp only [fQ] at h;obtain⟨u,L,h⟩:=bind_eq h;have O:∃fs Y x' X,u=.struct fs∧fs[f]?=some Y∧aS P Y.type=some X∧X≠0∧N8 P slots done x=some x'∧S=.fAddr Y.offset x':=by split at h;obtain⟨Y,W,h⟩:=bind_eq h;obtain⟨X,R,h⟩:=bind_eq h;split at h;cases h;obtain⟨x',A,h⟩:=bind_eq h;exact⟨_,Y,x',X,rfl,W,R,by assumption,A,(aX h).symm⟩;cases h
  obtain⟨fs,Y,x',X,rfl,W,R,J,A,rfl⟩:=O;obtain⟨B,E⟩:=w9 s A;obtain⟨i,o,d,D⟩:=dW F;have d:H8 x' ls env=.ptr i o:=d;cases D;rw [d] at B E;refine⟨E,λI C w=>?_⟩;simp only [execOp,C,Instr.fieldAt,X8,run_underlying L,K9,W,B,l9,Instr.sureAddr,aaS,fieldPlace,run_sizeOf R,if_neg J,K4.nY];rfl
 | field t x f=>
  simp only [fQ] at h;obtain⟨u,L,h⟩:=bind_eq h;have O:∃fs Y x' X,u=.struct fs∧fs[f]?=some Y∧partT P Y.type=some X∧N8 P slots done x=some x'∧S=.fld Y.offset X x':=by split at h;obtain⟨Y,W,h⟩:=bind_eq h;obtain⟨X,R,h⟩:=bind_eq h;obtain⟨x',A,h⟩:=bind_eq h;exact⟨_,Y,x',X,rfl,W,R,A,(aX h).symm⟩;cases h
  obtain⟨fs,Y,x',X,rfl,W,R,A,rfl⟩:=O;obtain⟨B,E⟩:=w9 s A;have a6:∃l,H8 x' ls env=.agg l∧yS X l Y.offset=some v:=by
   cases X with
   | none=>obtain⟨l,d,D⟩:=dX F;exact⟨l,d,by simpa [yS] using D⟩
   | some k=>obtain⟨l,d,D⟩:=dX F;exact⟨l,d,by simpa [yS] using D⟩
  obtain⟨l,d,D⟩:=a6;rw [d] at B E;obtain⟨Z,g2⟩:=Ee (ι:=ι) R (show bg n l from E) Y.offset D;refine⟨Z,λI C w=>?_⟩;simp [execOp,C,Instr.field,run_underlying L,W,B,l9,asAgg,g2]
 | indexAddr t x i=>simp only [fQ] at h;obtain⟨u,L,h⟩:=bind_eq h;split at h;obtain⟨es,U,h⟩:=bind_eq h;obtain⟨x',A,h⟩:=bind_eq h;obtain⟨i',hi,h⟩:=bind_eq h;obtain rfl:=aX h;obtain⟨B,E⟩:=w9 s A;obtain⟨V,_⟩:=w9 s hi;rcases rA F with⟨_,D⟩ | ⟨id,off,N,cap,d,D⟩ | ⟨id,off,N,es',d,D⟩;cases D;obtain⟨k,m,H,M,Q⟩:=idx_eq D;cases Q;have d:H8 x' ls env=.slice id off N cap:=d;have H:H8 i' ls env=.int k (m:Int):=H;rw [d] at B E;refine⟨E,λI C w=>?_⟩;simp only [execOp,C,X8,B,V,H,l9,wM L U _ _ _ _ _ M,K4.nY,K9,aaS];rfl;obtain⟨k,m,H,M,Q⟩:=idx_eq D;cases Q;have d:H8 x' ls env=.sliceU id off N es':=d;have H:H8 i' ls env=.int k (m:Int):=H;rw [d] at B E;refine⟨E.1,λI C w=>?_⟩;simp only [execOp,C,X8,B,V,H,l9,wM L U _ _ _ _ _ M,K4.nY,K9,aaS];rfl;obtain⟨es,U,h⟩:=bind_eq h;obtain⟨x',A,h⟩:=bind_eq h;obtain⟨i',hi,h⟩:=bind_eq h;obtain rfl:=aX h;obtain⟨B,E⟩:=w9 s A;obtain⟨V,_⟩:=w9 s hi;obtain⟨id,off,d,D⟩:=dW F;obtain⟨k,m,H,M,Q⟩:=idx_eq D;cases Q;have d:H8 x' ls env=.ptr id off:=d;have H:H8 i' ls env=.int k (m:Int):=H;rw [d] at B E;refine⟨E,λI C w=>?_⟩;simp only [execOp,C,X8,B,V,H,l9,Gv L U _ _ _ M,K4.nY,K9,aaS];rfl;cases h
 | index t x i=>
  simp only [fQ] at h;obtain⟨u,L,h⟩:=bind_eq h;split at h;obtain⟨x',A,h⟩:=bind_eq h;obtain⟨i',hi,h⟩:=bind_eq h;obtain rfl:=aX h;obtain⟨B,E⟩:=w9 s A;obtain⟨V,_⟩:=w9 s hi;obtain⟨str,d,D⟩:=iA F;obtain⟨k,m,H,Q⟩:=fB D;obtain⟨b,h5,h6⟩:=A8 Q;cases h6;have d:H8 x' ls env=.str str:=d;have H:H8 i' ls env=.int k (m:Int):=H;rw [jf] at h5;refine⟨by simp [d9.lt],λI C w=>?_⟩;obtain⟨M,hb⟩:=J3.1 h5;have aa:(⟨str.toArray⟩:ByteArray)[m]?=some b:=by rw [ByteArray.getElem?_lt' _ _ (by rw [nZ];exact M)];congr 1
  simp only [execOp,C,Instr.index,X8,run_underlying L,B,d,V,H,l9,asIntOf,aaS,K9];rw [if_pos (Int.natCast_nonneg m),ahp,aa];rfl;rename_i N ai;obtain⟨es,U,h⟩:=bind_eq h;obtain⟨X,R,h⟩:=bind_eq h;obtain⟨x',A,h⟩:=bind_eq h;obtain⟨i',hi,h⟩:=bind_eq h;obtain rfl:=aX h;obtain⟨B,E⟩:=w9 s A;obtain⟨V,_⟩:=w9 s hi;have a6:∃l k,∃m:Nat,H8 x' ls env=.agg l∧H8 i' ls env=.int k (m:Int)∧m<N∧yS X l (m*es)=some v:=by
   cases X with
   | none=>obtain⟨l,d,D⟩:=dX F;obtain⟨k,m,H,M,Q⟩:=idx_eq D;exact⟨l,k,m,d,H,M,by simpa [yS] using Q⟩
   | some k=>obtain⟨l,d,D⟩:=dX F;obtain⟨k',m,H,M,Q⟩:=idx_eq D;exact⟨l,k',m,d,H,M,by simpa [yS] using Q⟩
  obtain⟨l,k,m,d,H,M,D⟩:=a6;rw [d] at B E;obtain⟨Z,g2⟩:=Ee (ι:=ι) R (show bg n l from E) (m*es) D;refine⟨Z,λI C w=>?_⟩;simp [execOp,C,Instr.index,run_underlying L,run_sizeOf U,B,V,H,l9,asIntOf,M,g2];cases h
 | extract x i=>simp only [fQ] at h;obtain⟨x',A,h⟩:=bind_eq h;obtain rfl:=aX h;obtain⟨B,E⟩:=w9 s A;obtain⟨l,d,D⟩:=Yp F;have d:H8 x' ls env=.tuple l:=d;rw [jf] at D;rw [d] at B E;refine⟨O8 (show bg n l from E) (Y6 D),λI C w=>?_⟩;simp [execOp,C,Instr.extract,B,l9,aQ,D]
 | call c=>
  obtain⟨a3,T,ts⟩:=c;simp only [fQ] at h;cases a3 with
  | invoke _ _=>cases h
  | value f=>
   cases f with
   | func f=>
    obtain⟨fn,ae,h⟩:=bind_eq h;split at h;obtain⟨os,_,h⟩:=bind_eq h;cases h;split at h;rename_i a2;obtain⟨T⟩:=T;simp only [U9,beq_iff_eq] at a2;match T,h with
    | [x],h=>obtain⟨x',A,h⟩:=bind_eq h;obtain rfl:=aX h;cases F;obtain⟨B,E⟩:=w9 s A;refine⟨E,λo C w=>?_⟩;have:=RQ ae a2.1.1 a2.1.2 a2.2 (l9 ι (H8 x' ls env)) w;have W:a.eval (.func f)=.func (.func f) #[] #[]:=rfl;simp [execOp,C,resolve,invoke,W,Deferred.ofValue,this,B]
    | [],h=>cases h
    | _ :: _ :: _,h=>cases h
    cases h
   | _=>obtain⟨x',_,h⟩:=bind_eq h;obtain⟨os,_,h⟩:=bind_eq h;cases h
  | builtin b=>
   obtain⟨T⟩:=T;obtain⟨ts⟩:=ts;simp only [um] at h;split at h
   ·
    rename_i t x;obtain⟨u,L,h⟩:=bind_eq h;have O:∃x',(N8 P slots done x=some x'∧u=.string∧S=.Q0 x')∨(N8 P slots done x=some x'∧(∃e,u=.slice e)∧S=.len x')∨∃k e,u=.array k e∧S=.mov (.con (.int .i64 k)):=by split at h;obtain⟨x',A,h⟩:=bind_eq h;exact⟨x',.inl ⟨A,rfl,(aX h).symm⟩⟩;obtain⟨x',A,h⟩:=bind_eq h;exact⟨x',.inr (.inl ⟨A,⟨_,rfl⟩,(aX h).symm⟩)⟩;exact⟨default,.inr (.inr ⟨_,_,rfl,(aX h).symm⟩)⟩;obtain⟨x',A,h⟩:=bind_eq h;cases h;cases h
    obtain⟨x',⟨A,rfl,rfl⟩ | ⟨A,⟨e,rfl⟩,rfl⟩ | ⟨k,e,rfl,rfl⟩⟩:=O;obtain⟨B,_⟩:=w9 s A;obtain⟨str,d,D⟩:=iA F;have d:H8 x' ls env=.str str:=d;cases D;exact⟨by simp [d9.lt],λo C w=>by simp [execOp,C,resolve,invoke,builtin,Builtin.len_,run_underlying L,B,d,l9,goInt,nZ]⟩;obtain⟨B,_⟩:=w9 s A;rcases rA F with⟨d,D⟩ | ⟨id,off,N,cap,d,D⟩ | ⟨id,off,N,cap,d,D⟩;have d:H8 x' ls env=.nilSlice:=d;cases D;exact⟨by simp [d9.lt],λo C w=>by simp [execOp,C,resolve,invoke,builtin,Builtin.len_,run_underlying L,B,d,l9,goInt]⟩;have d:H8 x' ls env=.slice id off N cap:=d;cases D;exact⟨by simp [d9.lt],λo C w=>by simp [execOp,C,resolve,invoke,builtin,Builtin.len_,run_underlying L,B,d,l9,goInt]⟩;have d:H8 x' ls env=.sliceU id off N cap:=d;cases D;exact⟨by simp [d9.lt],λo C w=>by simp [execOp,C,resolve,invoke,builtin,Builtin.len_,run_underlying L,B,d,l9,goInt]⟩;cases F;refine⟨by simp [H8,u6,d9.lt],λo C w=>?_⟩;simp [execOp,C,resolve,invoke,builtin,Builtin.len_,run_underlying L,H8,u6,l9,goInt]
   ·
    rename_i t x;obtain⟨u,L,h⟩:=bind_eq h;split at h;obtain⟨x',A,h⟩:=bind_eq h;obtain rfl:=aX h;obtain⟨B,_⟩:=w9 s A;rcases rA F with⟨d,D⟩ | ⟨id,off,N,cap,d,D⟩ | ⟨_,_,_,_,_,D⟩;have d:H8 x' ls env=.nilSlice:=d;cases D;exact⟨by simp [d9.lt],λo C w=>by simp [execOp,C,resolve,invoke,builtin,Builtin.cap_,run_underlying L,B,d,l9,goInt]⟩;have d:H8 x' ls env=.slice id off N cap:=d;cases D;exact⟨by simp [d9.lt],λo C w=>by simp [execOp,C,resolve,invoke,builtin,Builtin.cap_,run_underlying L,B,d,l9,goInt]⟩;cases D;cases h
   ·obtain⟨u,L,h⟩:=bind_eq h;split at h
    ·obtain⟨_,_,h⟩:=bind_eq h;split at h;all_goals (repeat' (first | (cases h;done) | (obtain⟨_,_,h⟩:=bind_eq h)))
    cases h
   obtain⟨u,L,h⟩:=bind_eq h;split at h;obtain⟨_,_,h⟩:=bind_eq h;obtain⟨_,_,h⟩:=bind_eq h;obtain⟨_,_,h⟩:=bind_eq h;cases h;cases h;obtain⟨u,L,h⟩:=bind_eq h;split at h;obtain⟨_,_,h⟩:=bind_eq h;obtain⟨_,_,h⟩:=bind_eq h;cases h;cases h
   ·
    rename_i x xs;obtain⟨x',A,h⟩:=bind_eq h;obtain⟨ah,a7,h⟩:=bind_eq h;obtain rfl:=aX h;obtain⟨B,E⟩:=w9 s A;obtain⟨V,e4⟩:=kV s a7;obtain⟨Z,g2⟩:=Mc (P:=P) (ι:=ι) true _ _ v e4 E F;refine⟨Z,λo C w=>?_⟩;have:=g2 w;simp only [if_true] at this;simp [execOp,C,resolve,invoke,builtin,Builtin.max_,B,V,this]
   rename_i x xs;obtain⟨x',A,h⟩:=bind_eq h;obtain⟨ah,a7,h⟩:=bind_eq h;obtain rfl:=aX h;obtain⟨B,E⟩:=w9 s A;obtain⟨V,e4⟩:=kV s a7;obtain⟨Z,g2⟩:=Mc (P:=P) (ι:=ι) false _ _ v e4 E F;refine⟨Z,λo C w=>?_⟩;have:=g2 w;simp only [abA,if_false] at this;simp [execOp,C,resolve,invoke,builtin,Builtin.min_,B,V,this];cases h;obtain⟨u,L,h⟩:=bind_eq h;split at h;obtain⟨x',A,h⟩:=bind_eq h;cases h;cases h
   ·obtain⟨u,L,h⟩:=bind_eq h;repeat' (first | (cases h;done) | (obtain⟨_,_,h⟩:=bind_eq h) | split at h)
   cases h
 | alloc t=>simp only [fQ] at h;split at h;all_goals (obtain⟨_,_,h⟩:=bind_eq h;cases h)
 | box t x=>simp only [fQ] at h;split at h;obtain⟨_,_,h⟩:=bind_eq h;obtain⟨_,_,h⟩:=bind_eq h;cases h;obtain⟨_,_,h⟩:=bind_eq h;cases h
 | buildSlice t N parts=>simp only [fQ] at h;obtain⟨_,_,h⟩:=bind_eq h;split at h;obtain⟨_,_,h⟩:=bind_eq h;obtain⟨_,_,h⟩:=bind_eq h;split at h;obtain⟨_,_,h⟩:=bind_eq h;cases h;cases h;cases h
 | insert t m k x=>simp only [fQ] at h;obtain⟨_,_,h⟩:=bind_eq h;split at h;obtain⟨_,_,h⟩:=bind_eq h;obtain⟨_,_,h⟩:=bind_eq h;obtain⟨_,_,h⟩:=bind_eq h;obtain⟨_,_,h⟩:=bind_eq h;cases h;cases h
 | mapUpdate t m k x=>simp only [fQ] at h;obtain⟨_,_,h⟩:=bind_eq h;split at h;obtain⟨_,_,h⟩:=bind_eq h;obtain⟨_,_,h⟩:=bind_eq h;obtain⟨_,_,h⟩:=bind_eq h;obtain⟨_,_,h⟩:=bind_eq h;cases h;cases h
 | load t x=>simp only [fQ] at h;obtain⟨_,_,h⟩:=bind_eq h;obtain⟨_,_,h⟩:=bind_eq h;cases h
 | store t x y=>simp only [fQ] at h;obtain⟨_,_,h⟩:=bind_eq h;obtain⟨_,_,h⟩:=bind_eq h;obtain⟨_,_,h⟩:=bind_eq h;cases h
 | makeMap t r=>simp only [fQ] at h;repeat' (first | (cases h;done) | split at h)
 | makeSlice t l c=>simp only [fQ] at h;obtain⟨_,_,h⟩:=bind_eq h;split at h;obtain⟨_,_,h⟩:=bind_eq h;obtain⟨_,_,h⟩:=bind_eq h;obtain⟨_,_,h⟩:=bind_eq h;obtain⟨_,_,h⟩:=bind_eq h;obtain⟨_,_,h⟩:=bind_eq h;cases h;cases h
 | lookup t x k ok=>simp only [fQ] at h;obtain⟨_,_,h⟩:=bind_eq h;split at h;obtain⟨_,_,h⟩:=bind_eq h;obtain⟨_,_,h⟩:=bind_eq h;obtain⟨_,_,h⟩:=bind_eq h;obtain⟨_,_,h⟩:=bind_eq h;cases h;cases h
 | range t x=>simp only [fQ] at h;obtain⟨_,_,h⟩:=bind_eq h;split at h;obtain⟨_,_,h⟩:=bind_eq h;cases h;obtain⟨_,_,h⟩:=bind_eq h;cases h;cases h
 | next it is=>cases is;simp only [fQ] at h;obtain⟨_,_,h⟩:=bind_eq h;cases h;simp only [fQ] at h;obtain⟨_,_,h⟩:=bind_eq h;cases h
 | entry it=>simp only [fQ] at h;obtain⟨_,_,h⟩:=bind_eq h;cases h
 | panic x=>simp only [fQ] at h;obtain⟨_,_,h⟩:=bind_eq h;cases h
 | defer c=>simp only [fQ] at h;split at h;obtain⟨_,_,h⟩:=bind_eq h;obtain⟨_,_,h⟩:=bind_eq h;cases h;cases h
 | _=>simp only [fQ] at h;cases h
end
end
end Go.AM
