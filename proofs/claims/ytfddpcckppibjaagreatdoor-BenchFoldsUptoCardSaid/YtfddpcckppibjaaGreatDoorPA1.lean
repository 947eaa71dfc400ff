/- A part of an evaluator for the model, proved sound: what it answers holds of the model; it speaks of every program, no condition. -/
import GoSem.Core.Code
import GoSem.Core.Program
import GoSem.Core.View
import GoSem.Core.World
import GoSem.Core.Utf8
import GoSem.Core.Region
import GoSem.Core.Layout
import GoSem.Op.Equal
import GoSem.Extern.Table
import Derived.CallsIn
import Derived.Laws.Sem
import GoSem.Dispatch
import Derived.Laws.Strings
import Derived.KernelRfl
import Derived.Laws.Externs
set_option linter.all false
namespace Go.AM
open Go
abbrev aA:=@Nat.le_trans
abbrev aP:=@List.mem_singleton
abbrev gq:=@Nat.lt_of_lt_of_le
abbrev gI:=@Nat.eq_of_beq_eq_true
abbrev q8:=@List.drop_zero
abbrev q9:=@Nat.le_refl
abbrev Hl:=@Bool.and_eq_true
abbrev J2:=@List.getElem?_eq_some_iff
abbrev J3:=@List.getElem?_eq_getElem
abbrev J4:=@Option.some.injEq
abbrev K9:=@Result.andThen_ok
abbrev U9:=@Array.getElem?_eq_some_iff
abbrev W9:=@List.take_of_length_le
abbrev Xb:=@Array.getD_eq_getD_getElem?
abbrev Xd:=@List.drop_eq_getElem_cons
abbrev Xl:=@Sem.run_bind
abbrev X8:=@Nat.le_of_ble_eq_true
abbrev Y1:=@Nat.add_zero
abbrev Y2:=@List.mem_of_getElem?
abbrev Y3:=@Array.getElem?_setIfInBounds_ne
abbrev Y4:=@Nat.blt_eq
abbrev Y5:=@Option.some.inj
abbrev Y6:=@List.length_cons
abbrev Y7:=@Array.getElem?_setIfInBounds_self_of_lt
abbrev Y8:=@List.getD_eq_getElem?_getD
abbrev Z4:=@Nat.ble_eq_true_of_le
abbrev Z5:=@List.mem_cons
abbrev Z6:=@List.map_cons
abbrev Z7:=@List.mem_cons_of_mem
abbrev Z8:=@Sem.run_pure
abbrev Z9:=@List.getElem?_append_left
abbrev aar:=@List.length_append
abbrev aaB:=@List.length_eq_zero_iff
abbrev aaC:=@Nat.mul_le_mul_right
abbrev aaD:=@List.mem_append
abbrev aaE:=@Array.getElem?_eq_getElem
abbrev aaF:=@Nat.zero_add
abbrev aaG:=@Array.toArray_toList
abbrev aaH:=@List.getElem?_of_mem
abbrev aaI:=@List.take_succ_eq_append_getElem
abbrev aaJ:=@List.drop_length
abbrev aaK:=@Nat.mod_two_eq_zero_or_one
abbrev aaL:=@List.getElem?_append_right
abbrev aaM:=@List.getElem?_map
abbrev aaN:=@List.length_map
abbrev aaO:=@List.getElem_mem
abbrev aaX:=@List.all_eq_true
abbrev abB:=@Nat.beq_refl
abbrev abN:=@List.map_append
abbrev abP:=@Bool.eq_false_iff
abbrev abQ:=@Bool.false_eq_true
abbrev acu:=@Option.map_some
abbrev acX:=@Option.bind_eq_some_iff
abbrev acY:=@Option.map_eq_some_iff
abbrev acZ:=@List.drop_of_length_le
abbrev ada:=@Bool.eq_iff_iff
abbrev adb:=@Nat.sub_add_cancel
abbrev ade:=@List.mem_range
abbrev adf:=@Nat.succ_mul
abbrev adg:=@Array.getElem?_replicate
abbrev adh:=@List.mem_map
abbrev adi:=@Bool.or_eq_true
abbrev ady:=@List.mem_cons_self
abbrev adz:=@List.getElem?_cons_succ
abbrev adE:=@List.mem_append_left
abbrev adL:=@Bool.true_and
abbrev adM:=@List.getElem_cons_zero
abbrev adP:=@List.getElem?_inj
abbrev ad1:=@List.getElem?_toArray
abbrev ad2:=@List.mem_append_right
abbrev ad3:=@Option.bind_some
abbrev ad4:=@Nat.zero_mul
abbrev ad5:=@Array.ext_getElem?
abbrev ad6:=@Bool.false_or
abbrev ad7:=@Bool.or_eq_false_iff
abbrev ad8:=@Nat.add_mul
abbrev ad9:=@Nat.le_of_not_lt
abbrev aer:=@List.length_take
abbrev aeF:=@Nat.le_div_iff_mul_le
abbrev aeG:=@Nat.mul_one
abbrev aeH:=@Prod.ext_iff
abbrev aeI:=@List.mem_of_mem_drop
abbrev aeJ:=@List.nodup_cons
abbrev aeK:=@List.mem_filter
abbrev aeL:=@Nat.mul_comm
abbrev aeM:=@List.size_toArray
abbrev aeN:=@List.eq_nil_of_length_eq_zero
abbrev aeO:=@Array.getElem?_eq_none
abbrev aeP:=@List.getElem?_take
abbrev afq:=@Nat.lt_or_ge
abbrev afs:=@List.nil_append
abbrev agf:=@List.cons.injEq
abbrev agj:=@List.getElem?_eq_none
abbrev agk:=@Nat.add_assoc
abbrev agm:=@List.sum_cons
abbrev agn:=@List.mem_of_mem_take
abbrev aha:=@List.take_zero
abbrev ahb:=@List.take_length
abbrev ahc:=@Nat.lt_of_lt_of_eq
abbrev ahd:=@List.length_nil
abbrev ahe:=@List.getElem?_drop
abbrev ahf:=@Option.map_none
abbrev ahg:=@Nat.zero_le
abbrev ahh:=@List.getElem_cons_succ
abbrev ahi:=@Nat.lt_trichotomy
abbrev ahj:=@Nat.le_of_lt
abbrev ahk:=@List.map_map
abbrev ahl:=@Bool.and_eq_false_iff
abbrev ahm:=@List.map_nil
abbrev ahn:=@Nat.mod_eq_of_lt
abbrev aho:=@Calls.mono
abbrev ahp:=@Nat.lt_irrefl
abbrev ahq:=@Ne.symm
abbrev ahr:=@List.filter_eq_self
abbrev ahs:=@List.length_pos_iff
abbrev aht:=@List.mem_map_of_mem
abbrev ahu:=@List.exists_mem_of_ne_nil
abbrev ahv:=@List.extract_eq_take_drop
abbrev ahw:=@List.getElem?_zip_eq_some
abbrev ahy:=@Nat.pos_of_ne_zero
abbrev ahz:=@Nat.mul_div_cancel
abbrev ahA:=@Int.negSucc_eq
abbrev ahB:=@List.filter_cons_of_neg
abbrev ahC:=@List.filter_cons_of_pos
abbrev ahD:=@List.length_range
abbrev ahE:=@List.length_eq_one_iff
abbrev ahF:=@Array.setIfInBounds_eq_of_size_le
abbrev ahG:=@Array.getElem?_push_lt
abbrev ahJ:=@List.filter_eq_nil_iff
abbrev ah9:=@Prod.mk.injEq
abbrev aiK:=@Array.getElem?_modify
abbrev aiL:=@Nat.mod_lt
abbrev aiM:=@Nat.ne_of_lt
abbrev aiN:=@List.append_nil
abbrev aiO:=@List.range_eq_range'
abbrev aiP:=@List.forIn_cons
abbrev aiQ:=@List.take_succ_cons
abbrev aiR:=@List.map_congr_left
abbrev aiS:=@List.drop_drop
abbrev aiT:=@Nat.add_sub_cancel
abbrev aiU:=@Array.forIn_toList
abbrev aiV:=@Bool.or_assoc
abbrev aiW:=@Array.getElem?_append_left
abbrev aiX:=@Bool.not_true
abbrev aiY:=@List.all_cons
abbrev aiZ:=@Nat.le_succ_of_le
abbrev aja:=@Int.toNat_natCast
abbrev aj0:=@Array.mapM_eq_mapM_toList
abbrev aj1:=@CallsIn.mono
abbrev aj2:=@Option.isSome_iff_exists
abbrev aj3:=@List.cons_append
abbrev aj4:=@List.getElem_append_left
abbrev aj5:=@List.getElem_map
abbrev aj6:=@Nat.pow_succ
abbrev aj7:=@Array.size_setIfInBounds
abbrev aj8:=@Nat.add_comm
abbrev aj9:=@Int.le_trans
abbrev akj:=@Nat.lt_succ_self
abbrev akm:=@List.mem_reverse
abbrev akn:=@Nat.div_eq_of_lt
abbrev ako:=@Array.toList_inj
abbrev aku:=@List.not_mem_nil
abbrev akx:=@Array.toList_map
abbrev aky:=@Nat.sub_zero
abbrev akz:=@List.getElem?_cons_zero
abbrev akC:=@Nat.add_sub_cancel_left
abbrev akZ:=@Nat.div_add_mod
abbrev ak3:=@List.foldl_cons
abbrev ak4:=@Nat.div_le_self
abbrev alc:=@UInt8.toNat_inj
abbrev al9:=@Nat.mul_add_mod
abbrev amc:=@Nat.le_succ
abbrev amd:=@Nat.mul_le_mul
abbrev ame:=@List.mapM_cons
abbrev ami:=@Bool.or_false
abbrev amj:=@List.map_take
abbrev amk:=@List.map_drop
end Go.AM
namespace Go.AM
open Go
noncomputable section
inductive T (α:Type) where
 | e:T α
 | nd:T α->α->T α->T α
inductive d9 where
 | undef
 | bool (b:Bool)
 | int (k:IntKind) (n:Int)
 | str (s:List UInt8)
 | nilPtr
 | ptr (id off:Nat)
 | nilSlice
 | slice (id off len cap:Nat)
 | sliceU (id off len es:Nat)
 | nilMap
 | map (id:Nat)
 | nilFunc
 | func (fn:Fn) (first captured:List d9)
 | nilIface
 | iface (t:TypeId) (v:d9)
 | agg (l:List d9)
 | tuple (l:List d9)
 | kP (v:d9)
 deriving Inhabited
def d9.cells:d9->List d9
 | .agg l=>l
 | v=>[v]
inductive Q7 where
 | loc (k:Nat)
 | slot (j:Nat)
 | con (v:d9)
 deriving Inhabited
inductive PK where
 | i | b | s
 deriving Inhabited,DecidableEq
inductive Ah where
 | prim (k:PK) | flat (ks:List PK) | ptr | slice | map | func | iface
 deriving Inhabited,DecidableEq
inductive Vu where
 | mov (x:Q7)
 | pick (c a b:Q7)
 | build (zero:List d9) (parts:List (Nat×Nat×Q7))
 | nilCheck (x:Q7)
 | ib (op:BinOp) (x y:Q7)
 | eq (neg:Bool) (k:Ah) (x y:Q7)
 | not (x:Q7)
 | neg (x:Q7)
 | inv (x:Q7)
 | conv (k:IntKind) (x:Q7)
 | mkIface (t:TypeId) (x:Q7)
 | mkFunc (fn:Fn) (first captured:List Q7)
 | slStr (x:Q7) (lo hi:Option Q7)
 | slArr (es n:Nat) (x:Q7) (lo hi:Option Q7)
 | fAddr (off:Nat) (x:Q7)
 | fld (off:Nat) (size:Option Nat) (x:Q7)
 | iAddr (es:Nat) (x i:Q7)
 | iAddrArr (es n:Nat) (x i:Q7)
 | iArr (es n:Nat) (size:Option Nat) (x i:Q7)
 | iStr (x i:Q7)
 | ext (x:Q7) (i:Nat)
 | len (x:Q7)
 | lenS (x:Q7)
 | cap (x:Q7)
 | mm (max:Bool) (x:Q7) (xs:List Q7)
 | assert (t:TypeId) (zero:d9) (ok:Bool) (x:Q7)
 deriving Inhabited
inductive Po where
 | load (size:Option Nat) (a:Q7)
 | look (kk:Ah) (zero:d9) (ok:Bool) (m k:Q7)
 | lenM (x:Q7)
 | bytesStr (x:Q7)
 | entry (it:Q7)
 | slData (x:Q7)
 | toUns (x:Q7)
 | fromUns (oks:List (Nat×Nat)) (x:Q7)
 deriving Inhabited
inductive Tm where
 | alloc (zero:List d9)
 | box (x:Q7)
 | allocT (ty:Nat) (zero:List d9)
 | boxT (ty k:Nat) (x:Q7)
 | buildSlice (es len:Nat) (zero:List d9) (parts:List (Nat×Nat×Q7))
 | mkMap
 | mkSlice (es bytes:Nat) (zero:List d9) (len cap:Q7)
 | strBytes (x:Q7)
 | sl (es:Nat) (x:Q7) (lo hi:Option Q7)
 deriving Inhabited
inductive Vv where
 | store (size:Nat) (a x:Q7)
 | mapSet (kk:Ah) (m k x:Q7)
 | range (x:Q7)
 | next (it:Q7)
 | app (es:Nat) (zeros:Bool) (zero:List d9) (bytes:Nat) (s x:Q7)
 | copy (es:Nat) (d s:Q7)
 | clear (zero:List d9) (x:Q7)
 | call (f:FuncId) (args:List Q7)
 | callv (f:Q7) (args:List Q7)
 | defer (f:Q7) (args:List Q7)
 | panic (x:Q7)
 | recover
 | bad
 | rangeS (x:Q7)
 | nextS (it:Q7)
 | appB (ty:Nat) (s x:Q7)
 | ustr (ty:Nat) (p n:Q7)
 | storeAp (size:Nat) (a x b:Q7)
 deriving Inhabited
inductive yN where
 | p (o:Vu)
 | r (o:Po)
 | a (o:Tm)
 | e (o:Vv)
 deriving Inhabited
structure Inst where
 op:yN
 dst:Option Nat
 guard:Option (Q7×Bool)
 deriving Inhabited
inductive U8 where
 | skip
 | reg (ops:List Inst)
 | dreg (ids:Nat) (ops:List (Nat×Inst))
 | dreg2 (ids:Nat) (ops:List (Nat×Inst)) (tail:List Inst)
 | seq (a b:U8)
 | cond (c:Q7) (thn els:U8)
 | block (id:Nat) (body:U8)
 | loop (body:U8)
 | exit (id:Nat)
 | ret
 | rangeFunc (f:Q7) (params:List (Option Nat)) (assign body:U8)
 deriving Inhabited
inductive bQ where
 | normal
 | exit (id:Nat)
 | ret
 deriving Inhabited,DecidableEq
inductive Mk where
 | c (id:Nat)
 | d (f:d9) (args:List d9)
 deriving Inhabited
inductive pG where
 | tmp (j:Nat)
 | cell (j:Nat) (size:Option Nat)
 deriving Inhabited
structure AFn where
 nargs:Nat
 args:List (Option Nat)
 nslots:Nat
 results:List pG
 body:U8
 deriving Inhabited
def gZ:Vu->List Q7
 | .mov x=>[x]
 | .pick a b c=>[a,b,c]
 | .build _ ps=>ps.map (·.2.2)
 | .nilCheck x=>[x]
 | .ib _ x y=>[x,y]
 | .eq _ _ x y=>[x,y]
 | .not x=>[x]
 | .neg x=>[x]
 | .inv x=>[x]
 | .conv _ x=>[x]
 | .mkIface _ x=>[x]
 | .mkFunc _ a b=>a++b
 | .slStr x a b=>x::(a.toList++b.toList)
 | .slArr _ _ x a b=>x::(a.toList++b.toList)
 | .fAddr _ x=>[x]
 | .fld _ _ x=>[x]
 | .iAddr _ x i=>[x,i]
 | .iAddrArr _ _ x i=>[x,i]
 | .iArr _ _ _ x i=>[x,i]
 | .iStr x i=>[x,i]
 | .ext x _=>[x]
 | .len x=>[x]
 | .lenS x=>[x]
 | .cap x=>[x]
 | .mm _ x xs=>x::xs
 | .assert _ _ _ x=>[x]
def yO:Po->List Q7
 | .load _ a=>[a]
 | .look _ _ _ m x=>[m,x]
 | .lenM x=>[x]
 | .bytesStr x=>[x]
 | .entry x=>[x]
 | .slData x=>[x]
 | .toUns x=>[x]
 | .fromUns _ x=>[x]
def opsL:Tm->List Q7
 | .alloc _=>[]
 | .box x=>[x]
 | .allocT _ _=>[]
 | .boxT _ _ x=>[x]
 | .buildSlice _ _ _ ps=>ps.map (·.2.2)
 | .mkMap=>[]
 | .mkSlice _ _ _ l c=>[l,c]
 | .strBytes x=>[x]
 | .sl _ x a b=>x::(a.toList++b.toList)
def opsE:Vv->List Q7
 | .store _ a x=>[a,x]
 | .mapSet _ a b c=>[a,b,c]
 | .range x=>[x]
 | .next x=>[x]
 | .app _ _ _ _ s x=>[s,x]
 | .copy _ d s=>[d,s]
 | .clear _ x=>[x]
 | .call _ a=>a
 | .callv g a=>g::a
 | .defer g a=>g::a
 | .panic x=>[x]
 | .recover=>[]
 | .bad=>[]
 | .rangeS x=>[x]
 | .nextS x=>[x]
 | .appB _ s x=>[s,x]
 | .ustr _ p n=>[p,n]
 | .storeAp _ a x b=>[a,x,b]
def DV:yN->List Q7
 | .p o=>gZ o
 | .r o=>yO o
 | .a o=>opsL o
 | .e o=>opsE o
variable {α β γ:Type}
def ob (o:Option α)(k:α->Option β):Option β:=Option.rec none (λa=>k a) o
def bi (b:Bool)(x y:α):α:=Bool.rec y x b
def T.get (t:T α):Nat->Option α:=
 T.rec (λ_=>none) (λ_ x _ ihl ihr i=>Nat.rec (some x) (λj _=>Nat.rec (ihl (Nat.div j 2)) (λ_ _=>ihr (Nat.div j 2)) (Nat.mod j 2)) i) t
def T.put (t:T α):Nat->α->T α:=
 T.rec (λ_ x=>.nd .e x .e) (λl y r ihl ihr i x=>Nat.rec (.nd l x r) (λj _=>Nat.rec (.nd (ihl (Nat.div j 2) x) y r) (λ_ _=>.nd l y (ihr (Nat.div j 2) x)) (Nat.mod j 2)) i) t
def T.om (l:List α):T α->Nat->T α:=
 List.rec (λt _=>t) (λx _ ih t i=>ih (t.put i x) (Nat.succ i)) l
def T.ofList (l:List α):T α:=T.om l .e 0
def T.slice (t:T α)(n:Nat):Nat->Option (List α):=
 Nat.rec (λ_=>some []) (λ_ ih i=>ob (t.get i) λx=>ob (ih (Nat.succ i)) λxs=>some (x::xs)) n
def T.rep (x:α)(n:Nat):T α->Nat->T α:=
 Nat.rec (λt _=>t) (λ_ ih t i=>ih (t.put i x) (Nat.succ i)) n
def takeN (n:Nat):List α->Option (List α):=
 Nat.rec (λ_=>some []) (λ_ ih l=>List.rec none (λx xs _=>ob (ih xs) λr=>some (x::r)) l) n
def lW (n:Nat):List α->List α:=
 Nat.rec (λl=>l) (λ_ ih l=>List.rec [] (λ_ xs _=>ih xs) l) n
def pI (n:Nat):List α->Option α:=
 Nat.rec (λl=>List.rec none (λx _ _=>some x) l) (λ_ ih l=>List.rec none (λ_ xs _=>ih xs) l) n
def nth (n:Nat):List d9->d9:=
 Nat.rec (λl=>List.rec d9.undef (λx _ _=>x) l) (λ_ ih l=>List.rec d9.undef (λ_ xs _=>ih xs) l) n
def aC (l m:List α):List α:=List.rec m (λx _ ih=>x::ih) l
def len' (l:List α):Nat:=List.rec 0 (λ_ _ ih=>Nat.succ ih) l
def lX (n:Nat)(vs:List α):List α->List α:=
 Nat.rec (λl=>aC vs (lW (len' vs) l)) (λ_ ih l=>List.rec [] (λx xs _=>x::ih xs) l) n
def iw (v:d9)(k:Nat->Nat->Option β):Option β:=match v with
 | .ptr i o=>k i o
 | _=>none
def rQ (v:d9)(k:IntKind->Int->Option β):Option β:=match v with
 | .int a b=>k a b
 | _=>none
def pU (v:d9)(k:Bool->Option β):Option β:=match v with
 | .bool b=>k b
 | _=>none
def pJ (v:d9)(k:List UInt8->Option β):Option β:=match v with
 | .str s=>k s
 | _=>none
def uo (v:d9)(k:List d9->Option β):Option β:=match v with
 | .agg l=>k l
 | _=>none
def Mh (v:d9)(k:List d9->Option β):Option β:=match v with
 | .tuple l=>k l
 | _=>none
def uq (v:d9)(nl:Option β)(k:Nat->Option β):Option β:=match v with
 | .nilMap=>nl
 | .map i=>k i
 | _=>none
def rO (v:d9)(nl:Option β)(k:Nat->Nat->Nat->Nat->Option β)(u:Nat->Nat->Nat->Nat->Option β):Option β:=match v with
 | .nilSlice=>nl
 | .slice a b c d=>k a b c d
 | .sliceU a b c d=>u a b c d
 | _=>none
def Mj (v:d9)(k:Fn->List d9->List d9->Option β):Option β:=match v with
 | .func f a b=>k f a b
 | _=>none
def Mq (n:Int)(k:Nat->Option β):Option β:=match n with
 | .ofNat m=>k m
 | .negSucc _=>none
def jP (v:d9)(k:Nat->Option β):Option β:=rQ v λ_ n=>Mq n k
inductive P8 where
 | void
 | dead
 | cells (rs n:Nat) (rows:T (List d9))
 | map (es:List (d9×d9))
 | iter (m:Option Nat) (since:Nat) (seen:List Nat)
 | tail (parent:Nat)
 | loop (st:LoopState) (pend:Option bQ) (env:T d9) (params:List (Option Nat)) (assign body:U8)
 | deferred
 | siter (s:List UInt8) (pos:Nat)
 | buf (ty:Nat) (s:List UInt8)
 | mapU (es:List (d9×d9))
 deriving Inhabited
structure Mem where
 t:T P8
 nx:Nat
 lim:Nat
def Mem.get (m:Mem)(i:Nat):Option P8:=m.t.get i
def Mem.new (m:Mem)(b:P8):Mem:=⟨m.t.put m.nx b,Nat.succ m.nx,m.lim⟩
def Mem.set (m:Mem)(i:Nat)(b:P8):Mem:=⟨m.t.put i b,m.nx,m.lim⟩
def U1 (b:Option P8)(k:Nat->Nat->T (List d9)->Option β):Option β:=match b with
 | some (.cells rs n rows)=>k rs n rows
 | _=>none
def Pf (b:Option P8)(k:List (d9×d9)->Option β):Option β:=match b with
 | some (.map es)=>k es
 | _=>none
def CJ (b:Option P8)(k:List (d9×d9)->Option β):Option β:=match b with
 | some (.map es)=>k es
 | some (.mapU es)=>k es
 | _=>none
def adG (ty:Nat):List d9:=[.kP (.int .u64 (.ofNat ty))]
def Ib (rows:T (List d9)):Option Nat:=ob (rows.get 1) λr=>List.rec none (λv _ _=>match v with
 | .kP (.int .u64 (.ofNat n))=>some n
 | _=>none) r
def cell1 (rs n:Nat)(rows:T (List d9))(off:Nat):Option d9:=
 Bool.rec none (Option.rec none (λrow=>pI (Nat.mod off rs) row) (rows.get (Nat.div off rs))) (Nat.blt (Nat.div off rs) n)
def jQ (rs n:Nat)(rows:T (List d9))(off k:Nat):Option (List d9):=
 bi (Nat.blt (Nat.div off rs) n) (ob (rows.get (Nat.div off rs)) λrow=>
  bi (Nat.beq (Nat.mod off rs) 0) (bi (Nat.beq k rs) (some row) (takeN k row)) (takeN k (lW (Nat.mod off rs) row))) none
def M0 (rs n:Nat)(rows:T (List d9))(k:Nat):Nat->Option (List d9):=
 Nat.rec (λ_=>some []) (λ_ ih off=>ob (cell1 rs n rows off) λv=>ob (ih (Nat.succ off)) λl=>some (v::l)) k
def aI (rs n:Nat)(rows:T (List d9))(off:Nat)(vs:List d9):Option (T (List d9)):=
 bi (Nat.blt (Nat.div off rs) n) (ob (rows.get (Nat.div off rs)) λrow=>
  bi (Nat.ble (Nat.add (Nat.mod off rs) (len' vs)) rs) (some (rows.put (Nat.div off rs) (lX (Nat.mod off rs) vs row))) none) none
def iG (rs n:Nat)(vs:List d9):T (List d9)->Nat->Option (T (List d9)):=
 List.rec (λrows _=>some rows) (λv _ ih rows off=>ob (aI rs n rows off [v]) λrows'=>ih rows' (Nat.succ off)) vs
def rowsOf (rs n:Nat):List d9->Option (List (List d9)):=
 Nat.rec (λl=>List.rec (some []) (λ_ _ _=>none) l) (λ_ ih l=>ob (takeN rs l) λr=>ob (ih (lW rs l)) λrest=>some (r::rest)) n
def u7 (v:d9):Bool:=match v with
 | .undef | .agg _ | .tuple _ | .kP _=>false
 | _=>true
def J8 (l:List d9):Bool:=List.rec true (λv _ ih=>bi (u7 v) ih false) l
def storeAt (m:Mem)(id off:Nat)(vs:List d9)(k:Mem->Option β):Option β:=
 bi (Nat.blt id m.lim) none (bi (J8 vs) (U1 (m.get id) λrs n rows=>ob (aI rs n rows off vs) λrows'=>k (m.set id (.cells rs n rows'))) none)
def jD (m:Mem)(id off:Nat)(vs:List d9)(k:Mem->Option β):Option β:=
 List.rec (k m) (λ_ _ _=>bi (Nat.blt id m.lim) none (bi (J8 vs) (U1 (m.get id) λrs n rows=>ob (iG rs n vs rows off) λrows'=>k (m.set id (.cells rs n rows'))) none)) vs
abbrev OF:=List d9->T d9->d9
def bg (k:Nat):OF:=λls _=>nth k ls
def H7:OF:=λls _=>List.rec d9.undef (λx _ _=>x) ls
def bY:OF:=λls _=>List.rec d9.undef (λ_ l _=>List.rec d9.undef (λx _ _=>x) l) ls
def bZ:OF:=λls _=>List.rec d9.undef (λ_ l _=>List.rec d9.undef (λ_ l _=>List.rec d9.undef (λx _ _=>x) l) l) ls
def qB:OF:=λls _=>List.rec d9.undef (λ_ l _=>List.rec d9.undef (λ_ l _=>List.rec d9.undef (λ_ l _=>List.rec d9.undef (λx _ _=>x) l) l) l) ls
def E9 (v:d9):OF:=λ_ _=>v
def gH:T d9->d9:=T.rec .undef (λ_ x _ _ _=>x)
def gL (g:T d9->d9):T d9->d9:=T.rec .undef (λl _ _ _ _=>g l)
def gR (g:T d9->d9):T d9->d9:=T.rec .undef (λ_ _ r _ _=>g r)
def J7 (g:T d9->d9):OF:=λ_ env=>g env
def way:Nat->Nat->T d9->d9
 | 0,_=>λ_=>.undef
 | _+1,0=>gH
 | n+1,j+1=>match j%2 with
  | 0=>gL (way n (j / 2))
  | _=>gR (way n (j / 2))
def I4:Q7->OF
 | .loc 0=>H7
 | .loc 1=>bY
 | .loc 2=>bZ
 | .loc 3=>qB
 | .loc k=>bg k
 | .slot j=>J7 (way 64 j)
 | .con v=>E9 v
def fV:List Q7->List OF
 | []=>[]
 | x::l=>I4 x::fV l
def kT:Option Q7->Option OF
 | none=>none
 | some x=>some (I4 x)
def evs (l:List OF)(ls:List d9)(env:T d9):List d9:=List.rec [] (λx _ ih=>x ls env::ih) l
def sH:d9->T d9->T d9:=λv=>T.rec .e (λl _ r _ _=>.nd l v r)
def sL (s:d9->T d9->T d9):d9->T d9->T d9:=λv=>T.rec .e (λl x r _ _=>.nd (s v l) x r)
def sR (s:d9->T d9->T d9):d9->T d9->T d9:=λv=>T.rec .e (λl x r _ _=>.nd l x (s v r))
def uw:Nat->Nat->d9->T d9->T d9
 | 0,_=>λ_ t=>t
 | _+1,0=>sH
 | n+1,j+1=>match j%2 with
  | 0=>sL (uw n (j / 2))
  | _=>sR (uw n (j / 2))
def J6:d9->T d9->T d9:=λ_ t=>t
def dh:Option Nat->d9->T d9->T d9
 | none=>J6
 | some j=>uw 64 j
def iP (n:Int):Int:=match n with
 | .ofNat m=>bi (Nat.blt m 9223372036854775808) (.ofNat m) (IntKind.i64.wrap (.ofNat m))
 | .negSucc m=>bi (Nat.blt m 9223372036854775808) (.negSucc m) (IntKind.i64.wrap (.negSucc m))
def lY (k:IntKind)(n:Int):Int:=match k with
 | .i64=>iP n
 | k=>k.wrap n
def bU:Int->Int->Bool
 | .ofNat a,.ofNat b=>Nat.beq a b
 | .negSucc a,.negSucc b=>Nat.beq a b
 | _,_=>false
def kQ:Int->Int->Bool
 | .ofNat a,.ofNat b=>Nat.blt a b
 | .negSucc _,.ofNat _=>true
 | .ofNat _,.negSucc _=>false
 | .negSucc a,.negSucc b=>Nat.blt b a
def ZA (a b:IntKind):Bool:=match a,b with
 | .i64,.i64=>true
 | a,b=>decide (a=b)
def strEq (a:List UInt8):List UInt8->Bool:=
 List.rec (λb=>List.rec true (λ_ _ _=>false) b) (λx _ ih b=>List.rec false (λy ys _=>bi (Nat.beq x.toNat y.toNat) (ih ys) false) b) a
def rR:List UInt8->List UInt8->Bool
 | _,[]=>false
 | [],_ :: _=>true
 | a::x,b::y=>a<b||(a==b&&rR x y)
def yP (k:IntKind)(f:BitVec k.bits->BitVec k.bits->BitVec k.bits)(a b:Int):d9:=
 .int k (k.wrap (f (BitVec.ofInt k.bits a) (BitVec.ofInt k.bits b)).toNat)
def Tn (b:Int)(r:Option d9):Option d9:=match b with
 | .ofNat 0=>none
 | _=>r
abbrev IB:=IntKind->Int->Int->Option d9
def qM:IB:=λk a b=>some (.int k (lY k (a+b)))
def rT:IB:=λk a b=>some (.int k (lY k (a-b)))
def Mr:IB:=λk a b=>some (.int k (lY k (a*b)))
def DW:IB:=λk a b=>Tn b (some (.int k (lY k (a.tdiv b))))
def Tp:IB:=λk a b=>Tn b (some (.int k (a.tmod b)))
def ahH:IB:=λk a b=>some (yP k (· &&& ·) a b)
def iOr:IB:=λk a b=>some (yP k (· ||| ·) a b)
def ahI:IB:=λk a b=>some (yP k (· ^^^ ·) a b)
def Rk:IB:=λk a b=>some (yP k (λx y=>x &&& ~~~y) a b)
def gU:IB:=λ_ a b=>some (.bool (bU a b))
def CK:IB:=λ_ a b=>some (.bool (!bU a b))
def BJ:IB:=λ_ a b=>some (.bool (kQ a b))
def Pg:IB:=λ_ a b=>some (.bool (!kQ b a))
def JQ:IB:=λ_ a b=>some (.bool (kQ b a))
def Rm:IB:=λ_ a b=>some (.bool (!kQ a b))
def iNo:IB:=λ_ _ _=>none
abbrev SB:=List UInt8->List UInt8->Option d9
def rU:SB:=λa b=>bi (Nat.blt (Nat.add (len' a) (len' b)) 9223372036854775808) (some (.str (aC a b))) none
def gV:SB:=λa b=>some (.bool (strEq a b))
def CP:SB:=λa b=>some (.bool (!strEq a b))
def CQ:SB:=λa b=>some (.bool (rR a b))
def Rn:SB:=λa b=>some (.bool (rR a b||strEq a b))
def LX:SB:=λa b=>some (.bool (!(rR a b||strEq a b)))
def Vw:SB:=λa b=>some (.bool (!rR a b))
def jR:SB:=λ_ _=>none
def JR:BinOp->IB
 | .add=>qM | .sub=>rT | .mul=>Mr | .quo=>DW | .rem=>Tp | .and=>ahH | .or=>iOr | .xor=>ahI | .andNot=>Rk
 | .shl=>iNo | .shr=>iNo | .eql=>gU | .neq=>CK | .lss=>BJ | .leq=>Pg | .gtr=>JQ | .geq=>Rm
def JU:BinOp->SB
 | .add=>rU | .eql=>gV | .neq=>CP | .lss=>CQ | .leq=>Rn | .gtr=>LX | .geq=>Vw
 | _=>jR
def CR (f:IB)(g:SB)(x y:d9):Option d9:=match x with
 | .int k a=>rQ y λk' b=>bi (ZA k k') (f k a b) none
 | .str a=>pJ y λb=>g a b
 | _=>none
def ZB (x y:d9):Option d9:=rQ x λk a=>jP y λm=>some (.int k (lY k (a*2^(min m k.bits))))
def ZC (x y:d9):Option d9:=rQ x λk a=>jP y λm=>some (.int k (a.fdiv (2^(min m k.bits))))
def DX (a b:Bool):Bool:=bi a b (bi b false true)
def N9 (x y:d9):Option Bool:=rQ x λk a=>rQ y λk' b=>bi (ZA k k') (some (bU a b)) none
def oo (x y:d9):Option Bool:=pU x λa=>pU y λb=>some (DX a b)
def eqStr (x y:d9):Option Bool:=pJ x λa=>pJ y λb=>some (strEq a b)
def GJ (k:PK):d9->d9->Option Bool:=match k with
 | .i=>N9
 | .b=>oo
 | .s=>eqStr
def bO (ks:List PK):List d9->List d9->Option Bool:=
 List.rec (λ_ _=>some true) (λk _ ih a b=>List.rec none (λx xs _=>List.rec none (λy ys _=>ob (GJ k x y) λr=>bi r (ih xs ys) (some false)) b) a) ks
def xI (ks:List PK)(x y:d9):Option Bool:=uo x λa=>uo y λb=>bO ks a b
def jS (x y:d9):Option Bool:=match x,y with
 | .nilPtr,.nilPtr=>some true
 | .nilPtr,.ptr _ _=>some false
 | .ptr _ _,.nilPtr=>some false
 | .ptr a b,.ptr c d=>bi (Nat.beq a c) (bi (Nat.beq b d) (some true) none) none
 | _,_=>none
def yQ (x y:d9):Option Bool:=match x,y with
 | .nilSlice,.nilSlice=>some true
 | .nilSlice,.slice .. | .nilSlice,.sliceU ..=>some false
 | .slice ..,.nilSlice | .sliceU ..,.nilSlice=>some false
 | _,_=>none
def Mt (x y:d9):Option Bool:=match x,y with
 | .nilMap,.nilMap=>some true
 | .nilMap,.map _ | .map _,.nilMap=>some false
 | _,_=>none
def DY (x y:d9):Option Bool:=match x,y with
 | .nilFunc,.nilFunc=>some true
 | .nilFunc,.func .. | .func ..,.nilFunc=>some false
 | _,_=>none
def nE (x y:d9):Option Bool:=match x,y with
 | .nilIface,.nilIface=>some true
 | .nilIface,.iface .. | .iface ..,.nilIface=>some false
 | _,_=>none
abbrev Gv:=d9->d9->Option Bool
def mM:Ah->Gv
 | .prim .i=>N9 | .prim .b=>oo | .prim .s=>eqStr | .flat ks=>xI ks | .ptr=>jS | .slice=>yQ | .map=>Mt | .func=>DY | .iface=>nE
abbrev PF:=List d9->T d9->Option d9
def N8 (x:OF):PF:=λls env=>some (x ls env)
def eG (c a b:OF):PF:=λls env=>pU (c ls env) λt=>some (bi t (a ls env) (b ls env))
def lay (ps:List (Nat×Nat×OF))(ls:List d9)(env:T d9):List d9->Option (List d9):=
 List.rec (λcs=>some cs) (λp _ ih cs=>
  bi (Nat.beq (len' (p.2.2 ls env).cells) p.2.1) (bi (Nat.ble (Nat.add p.1 p.2.1) (len' cs)) (ih (lX p.1 (p.2.2 ls env).cells cs)) none) none) ps
def V4 (zero:List d9)(ps:List (Nat×Nat×OF)):PF:=λls env=>ob (lay ps ls env zero) λl=>some (.agg l)
def Aj (v:d9):Option d9:=match v with
 | .nilPtr | .nilIface | .nilFunc=>none
 | .func (.func f) a b=>some (.func (.func f) a b)
 | .func ..=>none
 | v=>some v
def eH (x:OF):PF:=λls env=>Aj (x ls env)
def O5 (f:IB)(g:SB)(x y:OF):PF:=λls env=>CR f g (x ls env) (y ls env)
def adH (x y:OF):PF:=λls env=>ZB (x ls env) (y ls env)
def adI (x y:OF):PF:=λls env=>ZC (x ls env) (y ls env)
def pEq (f:Gv)(x y:OF):PF:=λls env=>ob (f (x ls env) (y ls env)) λb=>some (.bool b)
def pNe (f:Gv)(x y:OF):PF:=λls env=>ob (f (x ls env) (y ls env)) λb=>some (.bool (!b))
def Tq (x:OF):PF:=λls env=>pU (x ls env) λb=>some (.bool (!b))
def adJ (x:OF):PF:=λls env=>rQ (x ls env) λk n=>some (yP k (· ^^^ ·) (bi k.signed (-1) k.max) n)
def Ak (x:OF):PF:=λls env=>rQ (x ls env) λk n=>some (.int k (lY k (0-n)))
def Mv (k:IntKind)(x:OF):PF:=λls env=>rQ (x ls env) λ_ n=>some (.int k (lY k n))
def Pp (t:TypeId)(x:OF):PF:=λls env=>some (.iface t (x ls env))
def wP (fn:Fn)(a b:List OF):PF:=λls env=>some (.func fn (evs a ls env) (evs b ls env))
def fD (o:Option OF)(d:Nat)(ls:List d9)(env:T d9)(k:Nat->Option β):Option β:=
 Option.rec (k d) (λx=>jP (x ls env) k) o
def VG (x:OF)(lo hi:Option OF):PF:=λls env=>pJ (x ls env) λs=>fD lo 0 ls env λl=>fD hi (len' s) ls env λh=>bi (Nat.ble l h) (bi (Nat.ble h (len' s)) (ob (takeN (Nat.sub h l) (lW l s)) λr=>some (.str r)) none) none
def VH (es n:Nat)(x:OF)(lo hi:Option OF):PF:=λls env=>iw (x ls env) λid off=>fD lo 0 ls env λl=>fD hi n ls env λh=>bi (Nat.ble l h) (bi (Nat.ble h n) (some (.slice id (bi (Nat.beq l n) off (Nat.add off (Nat.mul l es))) (Nat.sub h l) (Nat.sub n l))) none) none
def K7 (o:Nat)(x:OF):PF:=λls env=>iw (x ls env) λid off=>some (.ptr id (Nat.add off o))
def VI (off:Nat)(x:OF):PF:=λls env=>uo (x ls env) λcs=>pI off cs
def VJ (off k:Nat)(x:OF):PF:=λls env=>uo (x ls env) λcs=>ob (takeN k (lW off cs)) λl=>some (.agg l)
def idx (len:Nat)(v:d9)(k:Nat->Option β):Option β:=jP v λi=>bi (Nat.blt i len) (k i) none
def U5 (es:Nat)(x i:OF):PF:=λls env=>
 rO (x ls env) none (λid off len _=>idx len (i ls env) λk=>some (.ptr id (Nat.add off (Nat.mul k es))))
  (λid off len _=>idx len (i ls env) λk=>some (.ptr id (Nat.add off (Nat.mul k es))))
def Al (es n:Nat)(x i:OF):PF:=λls env=>iw (x ls env) λid off=>idx n (i ls env) λk=>some (.ptr id (Nat.add off (Nat.mul k es)))
def Ao (es n:Nat)(x i:OF):PF:=λls env=>uo (x ls env) λcs=>idx n (i ls env) λk=>pI (Nat.mul k es) cs
def VK (es n sz:Nat)(x i:OF):PF:=λls env=>uo (x ls env) λcs=>idx n (i ls env) λk=>ob (takeN sz (lW (Nat.mul k es) cs)) λl=>some (.agg l)
def uy (x i:OF):PF:=λls env=>pJ (x ls env) λs=>jP (i ls env) λk=>ob (pI k s) λb=>some (.int .u8 b.toNat)
def pExt (x:OF)(i:Nat):PF:=λls env=>Mh (x ls env) λl=>pI i l
def lenOf (v:d9):Option Nat:=match v with
 | .nilSlice=>some 0
 | .slice _ _ n _=>some n
 | .sliceU _ _ n _=>some n
 | .str s=>some (len' s)
 | _=>none
def Ap (x:OF):PF:=λls env=>rO (x ls env) (some (.int .i64 0)) (λ_ _ n _=>some (.int .i64 (.ofNat n))) (λ_ _ n _=>some (.int .i64 (.ofNat n)))
def Ic (x:OF):PF:=λls env=>pJ (x ls env) λs=>some (.int .i64 (.ofNat (len' s)))
def adK (x:OF):PF:=λls env=>rO (x ls env) (some (.int .i64 0)) (λ_ _ _ c=>some (.int .i64 (.ofNat c))) (λ_ _ _ _=>none)
def mm2 (mx:Bool)(x y:d9):Option d9:=rQ x λk a=>rQ y λ_ b=>some (.int k (bi mx (bi (kQ a b) b a) (bi (kQ b a) b a)))
def yR (mx:Bool)(ys:List d9):d9->Option d9:=List.rec (λx=>some x) (λy _ ih x=>ob (mm2 mx x y) ih) ys
def Tt (mx:Bool)(x:OF)(xs:List OF):PF:=λls env=>yR mx (evs xs ls env) (x ls env)
def Ro (t:TypeId)(zero:d9)(ok:Bool)(v:d9):Option d9:=match v with
 | .iface u y=>bi (Nat.beq u t) (some (bi ok (.tuple [y,.bool true]) y)) (bi ok (some (.tuple [zero,.bool false])) none)
 | .nilIface=>bi ok (some (.tuple [zero,.bool false])) none
 | _=>none
def Rp (t:TypeId)(zero:d9)(ok:Bool)(x:OF):PF:=λls env=>Ro t zero ok (x ls env)
def Aq:List (Nat×Nat×Q7)->List (Nat×Nat×OF)
 | []=>[]
 | p::l=>(p.1,p.2.1,I4 p.2.2)::Aq l
def nR:Vu->PF
 | .mov x=>N8 (I4 x)
 | .pick c a b=>eG (I4 c) (I4 a) (I4 b)
 | .build z ps=>V4 z (Aq ps)
 | .nilCheck x=>eH (I4 x)
 | .ib op x y=>match op with
  | .shl=>adH (I4 x) (I4 y)
  | .shr=>adI (I4 x) (I4 y)
  | op=>O5 (JR op) (JU op) (I4 x) (I4 y)
 | .eq neg k x y=>match neg with
  | true=>pNe (mM k) (I4 x) (I4 y)
  | false=>pEq (mM k) (I4 x) (I4 y)
 | .not x=>Tq (I4 x)
 | .neg x=>Ak (I4 x)
 | .inv x=>adJ (I4 x)
 | .conv k x=>Mv k (I4 x)
 | .mkIface t x=>Pp t (I4 x)
 | .mkFunc fn a b=>wP fn (fV a) (fV b)
 | .slStr x lo hi=>VG (I4 x) (kT lo) (kT hi)
 | .slArr es n x lo hi=>VH es n (I4 x) (kT lo) (kT hi)
 | .fAddr o x=>K7 o (I4 x)
 | .fld off size x=>match size with
  | none=>VI off (I4 x)
  | some k=>VJ off k (I4 x)
 | .iAddr es x i=>U5 es (I4 x) (I4 i)
 | .iAddrArr es n x i=>Al es n (I4 x) (I4 i)
 | .iArr es n size x i=>match size with
  | none=>Ao es n (I4 x) (I4 i)
  | some k=>VK es n k (I4 x) (I4 i)
 | .iStr x i=>uy (I4 x) (I4 i)
 | .ext x i=>pExt (I4 x) i
 | .len x=>Ap (I4 x)
 | .lenS x=>Ic (I4 x)
 | .cap x=>adK (I4 x)
 | .mm mx x xs=>Tt mx (I4 x) (fV xs)
 | .assert t z ok x=>Rp t z ok (I4 x)
abbrev RF:=List d9->T d9->Mem->Option d9
def jl (a:OF):RF:=λls env m=>iw (a ls env) λid off=>U1 (m.get id) λrs n rows=>cell1 rs n rows off
def bG (k:Nat)(a:OF):RF:=λls env m=>iw (a ls env) λid off=>U1 (m.get id) λrs n rows=>ob (jQ rs n rows off k) λl=>some (.agg l)
def findKey (f:Gv)(k:d9)(es:List (d9×d9)):Nat->Option (Option (Nat×d9)):=
 List.rec (λ_=>some none) (λe _ ih i=>ob (f k e.1) λb=>bi b (some (some (i,e.2))) (ih (Nat.succ i))) es
def found (ok:Bool)(zero:d9)(o:Option (Nat×d9)):Option d9:=
 Option.rec (some (bi ok (.tuple [zero,.bool false]) zero)) (λp=>some (bi ok (.tuple [p.2,.bool true]) p.2)) o
def R3 (f:Gv)(n:Nat)(k:d9)(es:List (d9×d9)):Option (Option (Nat×d9)):=
 bi (Nat.beq (len' k.cells) n) (List.rec (ob (f k k) λ_=>some none) (λ_ _ _=>findKey f k es 0) es) none
def BK (f:Gv)(n:Nat)(zero:d9)(ok:Bool)(mp k:OF):RF:=λls env m=>uq (mp ls env) (ob (R3 f n (k ls env) []) λr=>found ok zero r) λid=>CJ (m.get id) λes=>ob (R3 f n (k ls env) es) λr=>found ok zero r
def acv (x:OF):RF:=λls env m=>uq (x ls env) (some (.int .i64 0)) λid=>Pf (m.get id) λes=>some (.int .i64 (.ofNat (len' es)))
def bytesOf:List UInt8->List d9
 | []=>[]
 | b::l=>.int .u8 b.toNat::bytesOf l
def byteOf:List d9->Option (List UInt8)
 | []=>some []
 | .int .u8 (.ofNat n)::l=>match byteOf l with
  | some s=>some (UInt8.ofNat n::s)
  | none=>none
 | _ :: _=>none
def S9 (m:Mem)(id off n:Nat):Option (List d9):=
 Nat.rec (some []) (λ_ _=>U1 (m.get id) λrs k rows=>M0 rs k rows n off) n
def dG (m:Mem)(es n:Nat)(v:d9):Option (List d9):=match v with
 | .nilSlice=>some []
 | .slice id off _ _=>S9 m id off (Nat.mul n es)
 | .sliceU id off _ _=>S9 m id off (Nat.mul n es)
 | .str s=>some (bytesOf (s.take n))
 | _=>none
def gD (x:OF):RF:=λls env m=>
 rO (x ls env) (some (.str [])) (λid off len _=>ob (S9 m id off len) λl=>ob (byteOf l) λs=>some (.str s))
  (λid off len _=>ob (S9 m id off len) λl=>ob (byteOf l) λs=>some (.str s))
def Ie (b:Option P8)(nl:Option β)(k:Nat->Nat->List Nat->Option β):Option β:=match b with
 | some (.iter none _ _)=>nl
 | some (.iter (some mp) since seen)=>k mp since seen
 | _=>none
def rV (it:OF):RF:=λls env m=>iw (it ls env) λid off=>bi (Nat.beq off 0)
 (Ie (m.get id) none λmp since seen=>List.rec none (λi _ _=>Pf (m.get mp) λes=>bi (Nat.beq (len' es) since) (ob (pI i es) λe=>some (.tuple [e.1,e.2])) none) seen) none
def Rq (x:OF):RF:=λls env _=>rO (x ls env) (some .nilPtr) (λid off _ cap=>bi (Nat.blt 0 cap) (some (.ptr id off)) none) (λid off len _=>bi (Nat.blt 0 len) (some (.ptr id off)) none)
def xJ (x:OF):RF:=λls env m=>match x ls env with
 | .nilPtr=>some .nilPtr
 | .ptr id off=>U1 (m.get id) λrs n _=>bi (Nat.blt off (Nat.mul n rs)) (some (.ptr id off)) none
 | _=>none
def ZE (ty off:Nat)(l:List (Nat×Nat)):Bool:=List.rec false (λp _ ih=>bi (Nat.beq p.1 ty) (bi (Nat.beq p.2 off) true ih) ih) l
def ou (oks:List (Nat×Nat))(x:OF):RF:=λls env m=>match x ls env with
 | .nilPtr=>some .nilPtr
 | .ptr id off=>U1 (m.get id) λ_ n rows=>bi (Nat.beq n 1) (ob (Ib rows) λty=>bi (ZE ty off oks) (some (.ptr id off)) none) none
 | _=>none
def Ar:Ah->Nat
 | .flat ks=>ks.length
 | _=>1
def rW:Po->RF
 | .load size a=>match size with
  | none=>jl (I4 a)
  | some k=>bG k (I4 a)
 | .look kk zero ok m k=>BK (mM kk) (Ar kk) zero ok (I4 m) (I4 k)
 | .lenM x=>acv (I4 x)
 | .bytesStr x=>gD (I4 x)
 | .entry it=>rV (I4 it)
 | .slData x=>Rq (I4 x)
 | .toUns x=>xJ (I4 x)
 | .fromUns oks x=>ou oks (I4 x)
abbrev LR:=Option (d9×Option P8)
abbrev LF:=List d9->T d9->Nat->LR
def l9 (cs:List d9):P8:=.cells (len' cs) 1 (.nd .e cs .e)
def yS (es n:Nat)(cells:List d9)(k:P8->Option β):Option β:=ob (rowsOf es n cells) λrows=>k (.cells es n (T.ofList rows))
def Mw (ty:Nat)(cs:List d9):P8:=.cells (len' cs) 1 (.nd (.nd .e (adG ty) .e) cs .e)
def ZF (ty:Nat)(zero:List d9):LF:=λ_ _ nid=>some (.ptr nid 0,some (Mw ty zero))
def acw (ty k:Nat)(x:OF):LF:=λls env nid=>bi (Nat.beq (len' (x ls env).cells) k) (some (.ptr nid 0,some (Mw ty (x ls env).cells))) none
def kU (zero:List d9):LF:=λ_ _ nid=>some (.ptr nid 0,some (l9 zero))
def Mx (x:OF):LF:=λls env nid=>some (.ptr nid 0,some (l9 (x ls env).cells))
def U3 (zero:List d9)(n:Nat):List d9:=Nat.rec [] (λ_ ih=>aC zero ih) n
def O9 (es len:Nat)(zero:List d9)(ps:List (Nat×Nat×OF)):LF:=λls env nid=>ob (lay ps ls env (U3 zero len)) λcells=>yS es len cells λb=>some (.slice nid 0 len len,some b)
def fE:LF:=λ_ _ nid=>some (.map nid,some (.map []))
def MB (es bytes:Nat)(zero:List d9)(len cap:OF):LF:=λls env nid=>
 jP (len ls env) λl=>jP (cap ls env) λc=>
  bi (Nat.ble l c) (bi (Nat.ble (Nat.mul bytes c) 281474976710656) (bi (Nat.blt c 9223372036854775808)
   (some (.slice nid 0 l c,some (.cells es c (T.rep zero c .e 0)))) none) none) none
def Ig (x:OF):LF:=λls env nid=>pJ (x ls env) λs=>yS 1 (len' s) (bytesOf s) λb=>some (.sliceU nid 0 (len' s) 1,some b)
def M9 (nid es:Nat)(x:d9)(lo:Nat)(hi:Option Nat):LR:=
 rO x (bi (Nat.beq lo 0) (Option.rec (some (.nilSlice,none)) (λh=>bi (Nat.beq h 0) (some (.nilSlice,none)) none) hi) none)
  (λid off len cap=>Option.rec (known id off cap len) (λh=>known id off cap h) hi)
  (λid off len es'=>Option.rec (unk id off len es' len) (λh=>unk id off len es' h) hi)
where
 known (id off cap h:Nat):LR:=bi (Nat.ble lo h) (bi (Nat.ble h cap)
  (some (.slice id (bi (Nat.beq lo cap) off (Nat.add off (Nat.mul lo es))) (Nat.sub h lo) (Nat.sub cap lo),none)) none) none
 unk (id off len es' h:Nat):LR:=bi (Nat.ble lo h) (bi (Nat.ble h len) (bi (Nat.beq es es')
  (bi (Nat.blt lo len) (some (.sliceU id (Nat.add off (Nat.mul lo es)) (Nat.sub h lo) es,none))
   (bi (Nat.beq lo 0) (some (.sliceU id off (Nat.sub h lo) es,none)) (some (.sliceU nid 0 0 es,some (.tail id))))) none) none) none
def lSl (es:Nat)(x:OF)(lo hi:Option OF):LF:=λls env nid=>fD lo 0 ls env λl=>Option.rec (M9 nid es (x ls env) l none) (λh=>jP (h ls env) λh=>M9 nid es (x ls env) l (some h)) hi
def wQ:Tm->LF
 | .alloc zero=>kU zero
 | .box x=>Mx (I4 x)
 | .allocT ty zero=>ZF ty zero
 | .boxT ty k x=>acw ty k (I4 x)
 | .buildSlice es len zero ps=>O9 es len zero (Aq ps)
 | .mkMap=>fE
 | .mkSlice es bytes zero l c=>MB es bytes zero (I4 l) (I4 c)
 | .strBytes x=>Ig (I4 x)
 | .sl es x lo hi=>lSl es (I4 x) (kT lo) (kT hi)
structure VM where
 v:d9
 m:Mem
abbrev gN:=Option (List VM)
abbrev H8:=Fn->List d9->Mem->gN
abbrev EF:=H8->List d9->T d9->Mem->gN
def one (v:d9)(m:Mem):gN:=some [⟨v,m⟩]
def O6 (size:Nat)(a x:OF):EF:=λ_ ls env m=>iw (a ls env) λid off=>bi (Nat.beq (len' (x ls env).cells) size) (storeAt m id off (x ls env).cells λm'=>one .undef m') none
def DZ (size:Nat)(a x b:OF):EF:=λcf ls env m=>iw (a ls env) λi _=>iw (b ls env) λj _=>bi (Nat.beq i j) none (O6 size a x cf ls env m)
def dw (es:List (d9×d9))(k v:d9):Nat->List (d9×d9):=
 List.rec (λ_=>[]) (λe es ih i=>Nat.rec ((k,v)::es) (λj _=>e::ih j) i) es
def ow (m:Mem)(id:Nat)(k:d9)(es:List (d9×d9)):gN:=match m.get id with
 | some (.mapU _)=>pJ k λ_=>one .undef (m.set id (.mapU es))
 | _=>one .undef (m.set id (.map es))
def I5 (f:Gv)(n:Nat)(mp k x:OF):EF:=λ_ ls env m=>uq (mp ls env) none λid=>bi (Nat.blt id m.lim) none
 (CJ (m.get id) λes=>ob (R3 f n (k ls env) es) λr=>
  Option.rec (ow m id (k ls env) (aC es [(k ls env,x ls env)])) (λp=>ob (pI p.1 es) λe=>
   bi (Nat.beq (len' e.1.cells) n) (ow m id (k ls env) (dw es (k ls env) (x ls env) p.1)) none) r)
def oz (x:OF):EF:=λ_ ls env m=>uq (x ls env) (one (.ptr m.nx 0) (m.new (.iter none 0 [])))
 λid=>Pf (m.get id) λes=>one (.ptr m.nx 0) (m.new (.iter (some id) (len' es) []))
def rX (n:Nat)(l:List Nat):Bool:=List.rec false (λx _ ih=>bi (Nat.beq x n) true ih) l
def nexts (m:Mem)(id mp since:Nat)(seen:List Nat)(es:List (d9×d9)):Nat->List VM:=
 List.rec (λ_=>[]) (λe _ ih i=>bi (rX i seen) (ih (Nat.succ i))
  (⟨.tuple [.bool true,e.1,e.2],m.set id (.iter (some mp) since (i::seen))⟩::ih (Nat.succ i))) es
def JV (m:Mem)(l:List VM):List VM:=List.rec [⟨.tuple [.bool false],m⟩] (λx xs _=>x::xs) l
def BL (it:OF):EF:=λ_ ls env m=>iw (it ls env) λid off=>bi (Nat.beq off 0) (bi (Nat.blt id m.lim) none
 (Ie (m.get id) (one (.tuple [.bool false]) m) λmp since seen=>Pf (m.get mp) λes=>
  bi (Nat.beq (len' es) since) (some (JV m (nexts m id mp since seen es 0))) none)) none
def big (n bytes es:Nat):Bool:=bi (Nat.ble (Nat.mul (Nat.add (Nat.mul 2 n) 2048) bytes) 281474976710656) (bi (Nat.ble 1 es) (Nat.ble 1 bytes) false) false
def grown (m:Mem)(es n:Nat)(cells:List d9):gN:=yS es n cells λb=>one (.sliceU m.nx 0 n es) (m.new b)
def VL (m:Mem)(es bytes n:Nat)(new:List d9):gN:=
 Nat.rec (one .nilSlice m) (λ_ _=>bi (big n bytes es) (grown m es n new) none) n
def oD (m:Mem)(es bytes n:Nat)(new:List d9)(id off len cap:Nat):gN:=
 bi (Nat.ble (Nat.add len n) cap) (jD m id (Nat.add off (Nat.mul len es)) new λm'=>one (.slice id off (Nat.add len n) cap) m')
  (bi (big (Nat.add len n) bytes es) (ob (S9 m id off (Nat.mul len es)) λold=>grown m es (Nat.add len n) (aC old new)) none)
def Ea (b:Option P8)(c:Nat->Nat->T (List d9)->Option β)(k:Nat->Option β):Option β:=match b with
 | some (.cells rs n rows)=>c rs n rows
 | some (.tail p)=>k p
 | _=>none
def Eb (m:Mem)(es bytes n:Nat)(new:List d9)(id off len es':Nat):gN:=
 Nat.rec (one (.sliceU id off len es') m) (λ_ _=>bi (Nat.beq es es') (bi (big (Nat.add len n) bytes es) (bi (Nat.ble m.lim id) (bi (J8 new)
  (Ea (m.get id)
   (λrs k rows=>
    bi (bi (Nat.beq rs es) (bi (Nat.beq off 0) (bi (Nat.ble len k) (bi (Nat.beq n 1) (bi (Nat.beq (len' new) es) (Nat.blt 0 len) false) false) false) false) false)
     (one (.sliceU m.nx 0 (Nat.succ len) es) ((m.set id .dead).new (.cells es (Nat.succ len) (rows.put len new))))
     (ob (M0 rs k rows (Nat.mul len es) off) λold=>grown (m.set id .dead) es (Nat.add len n) (aC old new)))
   (λp=>U1 (m.get p) λ_ _ _=>bi (Nat.ble m.lim p) (bi (Nat.beq len 0) (grown (m.set p .dead) es n new) none) none)) none) none) none) none) n
def wR (m:Mem)(es bytes n:Nat)(new:List d9)(s:d9):gN:=
 rO s (VL m es bytes n new) (λa b c d=>oD m es bytes n new a b c d) (λa b c d=>Eb m es bytes n new a b c d)
def mO (es bytes:Nat)(s x:OF):EF:=λ_ ls env m=>ob (lenOf (x ls env)) λn=>ob (dG m es n (x ls env)) λnew=>wR m es bytes n new (s ls env)
def acy (es:Nat)(zero:List d9)(bytes:Nat)(s x:OF):EF:=λ_ ls env m=>jP (x ls env) λn=>bi (Nat.ble (Nat.mul n bytes) 281474976710656) (bi (Nat.blt n 9223372036854775808) (wR m es bytes n (U3 zero n) (s ls env)) none) none
def VN (es:Nat)(d s:OF):EF:=λ_ ls env m=>ob (lenOf (s ls env)) λn=>rO (d ls env) (one (.int .i64 0) m) (λid off len _=>go m n id off len (s ls env)) (λid off len _=>go m n id off len (s ls env))
where
 go (m:Mem) (n id off len:Nat) (s:d9):gN:=ob (dG m es (Nat.min n len) s) λcells=>jD m id off cells λm'=>one (.int .i64 (.ofNat (Nat.min n len))) m'
def VO (zero:List d9)(x:OF):EF:=λ_ ls env m=>
 rO (x ls env) (one (.tuple []) m) (λid off len _=>jD m id off (U3 zero len) λm'=>one (.tuple []) m')
  (λid off len _=>jD m id off (U3 zero len) λm'=>one (.tuple []) m')
def G7 (f:FuncId)(args:List OF):EF:=λcf ls env m=>cf (.func f) (evs args ls env) m
def Rs (cf:H8)(m:Mem)(args:List d9)(v:d9):gN:=Mj v λfn a b=>match fn with
 | .func f=>cf (.func f) (aC a (aC args b)) m
 | .yield l=>cf (.yield l) (aC a args) m
 | _=>none
def dQ (f:OF)(args:List OF):EF:=λcf ls env m=>Rs cf m (evs args ls env) (f ls env)
def ZG (v:d9)(m:Mem):gN:=match v with
 | .iface t x=>one (.kP (.iface t x)) m
 | _=>none
def JW (b:Option P8)(k:List UInt8->Nat->Option β):Option β:=match b with
 | some (.siter s pos)=>k s pos
 | _=>none
def Dq (x:OF):EF:=λ_ ls env m=>pJ (x ls env) λs=>one (.ptr m.nx 0) (m.new (.siter s 0))
def Ec (it:OF):EF:=λ_ ls env m=>iw (it ls env) λid off=>bi (Nat.beq off 0) (bi (Nat.blt id m.lim) none
 (JW (m.get id) λs pos=>bi (Nat.blt pos (len' s))
  ((λ(r:Nat×Nat)=>one (.tuple [.bool true,.int .i64 (.ofNat pos),.int .i32 (.ofNat r.1)]) (m.set id (.siter s (Nat.add pos r.2)))) (Utf8.decode ⟨s.toArray⟩ pos))
  (one (.tuple [.bool false]) m))) none
def Rt (ty:Nat)(s x:OF):EF:=λcf ls env m=>match s ls env with
 | .nilSlice=>pJ (x ls env) λt=>List.rec (one .nilSlice m) (λ_ _ _=>bi (big (len' t) 1 1) (one (.sliceU m.nx 0 (len' t) 1) (m.new (.buf ty t))) none) t
 | .sliceU id off len es=>match m.get id with
  | some (.buf ty' s0)=>pJ (x ls env) λt=>bi (Nat.beq ty ty') (bi (Nat.beq off 0) (bi (Nat.beq es 1) (bi (Nat.beq len (len' s0)) (bi (Nat.ble m.lim id) (List.rec (one (.sliceU id off len es) m) (λ_ _ _=>bi (big (Nat.add len (len' t)) 1 1) (one (.sliceU m.nx 0 (Nat.add len (len' t)) 1) ((m.set id .dead).new (.buf ty (aC s0 t)))) none) t) none) none) none) none) none
  | _=>mO 1 1 s x cf ls env m
 | _=>mO 1 1 s x cf ls env m
def adN (v:d9)(k:Nat->Option β):Option β:=match v with
 | .int .i64 (.ofNat n)=>k n
 | _=>none
def acz (ty:Nat)(p n:OF):EF:=λ_ ls env m=>adN (n ls env) λk=>match p ls env with
 | .nilPtr=>bi (Nat.beq k 0) (one (.str []) m) none
 | .ptr id off=>bi (Nat.beq off 0) (bi (Nat.ble m.lim id) (match m.get id with
  | some (.buf ty' s)=>bi (Nat.beq ty ty') (bi (Nat.beq k (len' s)) (bi (Nat.ble k 9223372036854775807) (one (.str s) (m.set id .dead)) none) none) none
  | _=>none) none) none
 | _=>none
def Pq (x:OF):EF:=λ_ ls env m=>ZG (x ls env) m
def adO:EF:=λ_ _ _ _=>none
def nT:Vv->EF
 | .store size a x=>O6 size (I4 a) (I4 x)
 | .storeAp size a x b=>DZ size (I4 a) (I4 x) (I4 b)
 | .mapSet kk m k x=>I5 (mM kk) (Ar kk) (I4 m) (I4 k) (I4 x)
 | .range x=>oz (I4 x)
 | .next it=>BL (I4 it)
 | .app es zeros zero bytes s x=>match zeros with
  | true=>acy es zero bytes (I4 s) (I4 x)
  | false=>mO es bytes (I4 s) (I4 x)
 | .copy es d s=>VN es (I4 d) (I4 s)
 | .clear zero x=>VO zero (I4 x)
 | .call f args=>G7 f (fV args)
 | .callv f args=>dQ (I4 f) (fV args)
 | .panic x=>Pq (I4 x)
 | .defer _ _=>adO
 | .recover=>adO
 | .bad=>adO
 | .rangeS x=>Dq (I4 x)
 | .nextS it=>Ec (I4 it)
 | .appB ty s x=>Rt ty (I4 s) (I4 x)
 | .ustr ty p n=>acz ty (I4 p) (I4 n)
def Ed (f:α->Option (List β))(l:List α):Option (List β):=
 List.rec (some []) (λa _ ih=>ob (f a) λx=>ob ih λy=>some (x++y)) l
def bnd (x:Option (List α))(f:α->Option (List β)):Option (List β):=
 Option.rec none (λl=>List.rec (some []) (λa t _=>List.rec (f a) (λ_ _ _=>Ed f l) t) l) x
structure EM where
 env:T d9
 m:Mem
 px:Option d9
 mks:List Mk
def bC (v:d9)(p:d9->β)(q:β):β:=match v with
 | .kP x=>p x
 | _=>q
abbrev RC:=H8->List d9->T d9->Mem->Option (List EM)
def o9:RC:=λ_ _ env m=>some [⟨env,m,none,[]⟩]
def I6 (f:PF)(d:d9->T d9->T d9)(k:RC):RC:=λcf ls env m=>Option.rec none (λv=>k cf (v::ls) (d v env) m) (f ls env)
def j6 (f:PF)(k:RC):RC:=λcf ls env m=>Option.rec none (λv=>k cf (v::ls) env m) (f ls env)
def rcR (f:RF)(d:d9->T d9->T d9)(k:RC):RC:=λcf ls env m=>Option.rec none (λv=>k cf (v::ls) (d v env) m) (f ls env m)
def C9 (f:RF)(k:RC):RC:=λcf ls env m=>Option.rec none (λv=>k cf (v::ls) env m) (f ls env m)
def dH (m:Mem)(b:Option P8):Mem:=Option.rec m (λb=>m.new b) b
def jg (f:LF)(d:d9->T d9->T d9)(k:RC):RC:=λcf ls env m=>ob (f ls env m.nx) λr=>k cf (r.1::ls) (d r.1 env) (dH m r.2)
def jT (f:LF)(k:RC):RC:=λcf ls env m=>Option.rec none (λr=>k cf (r.1::ls) env (dH m r.2)) (f ls env m.nx)
def D8 (f:EF)(k:RC):RC:=λcf ls env m=>bnd (f cf ls env m) λr=>bC r.v (λx=>some [⟨env,r.m,some x,[]⟩]) (k cf (r.v::ls) env r.m)
def Pt (f:EF)(d:d9->T d9->T d9)(k:RC):RC:=λcf ls env m=>bnd (f cf ls env m) λr=>bC r.v (λx=>some [⟨env,r.m,some x,[]⟩]) (k cf (r.v::ls) (d r.v env) r.m)
def MC (f:OF)(args:List OF):RC:=λ_ ls env m=>Mj (f ls env) λfn a b=>some [⟨env,m,none,[.d (.func fn a b) (evs args ls env)]⟩]
def pK (w:Bool)(v:d9):Bool:=match v with
 | .bool b=>DX b w
 | _=>false
def gP (x:OF)(w:Bool)(f:PF):PF:=λls env=>bi (pK w (x ls env)) (f ls env) (some .undef)
def Vx (x:OF)(w:Bool)(f:RF):RF:=λls env m=>bi (pK w (x ls env)) (f ls env m) (some .undef)
def gLk (x:OF)(w:Bool)(f:LF):LF:=λls env i=>bi (pK w (x ls env)) (f ls env i) (some (.undef,none))
def gE (x:OF)(w:Bool)(f:EF):EF:=λcf ls env m=>bi (pK w (x ls env)) (f cf ls env m) (one .undef m)
def GK (g:Option (Q7×Bool))(f:PF):PF:=match g with
 | none=>f
 | some (x,w)=>gP (I4 x) w f
def xK (g:Option (Q7×Bool))(f:RF):RF:=match g with
 | none=>f
 | some (x,w)=>Vx (I4 x) w f
def CS (g:Option (Q7×Bool))(f:LF):LF:=match g with
 | none=>f
 | some (x,w)=>gLk (I4 x) w f
def JX (g:Option (Q7×Bool))(f:EF):EF:=match g with
 | none=>f
 | some (x,w)=>gE (I4 x) w f
def Vy (o:yN)(d:Option Nat)(g:Option (Q7×Bool))(k:RC):RC:=match o with
 | .p o=>match d with
  | none=>j6 (GK g (nR o)) k
  | some j=>I6 (GK g (nR o)) (dh (some j)) k
 | .r o=>match d with
  | none=>C9 (xK g (rW o)) k
  | some j=>rcR (xK g (rW o)) (dh (some j)) k
 | .a o=>match d with
  | none=>jT (CS g (wQ o)) k
  | some j=>jg (CS g (wQ o)) (dh (some j)) k
 | .e o=>match d with
  | none=>D8 (JX g (nT o)) k
  | some j=>Pt (JX g (nT o)) (dh (some j)) k
def pV (i:Inst):Option (Q7×List Q7):=match i.op,i.guard,i.dst with
 | .e (.defer f as),none,none=>some (f,as)
 | _,_,_=>none
def Ee (i:Inst):RC:=match pV i with
 | some p=>MC (I4 p.1) (fV p.2)
 | none=>Vy i.op i.dst i.guard o9
def bI:List Inst->RC
 | []=>o9
 | [i]=>Ee i
 | i::j::l=>Vy i.op i.dst i.guard (bI (j::l))
def kK (f:Q7->Q7):Vu->Vu
 | .mov x=>.mov (f x)
 | .pick a b c=>.pick (f a) (f b) (f c)
 | .build z ps=>.build z (ps.map λp=>(p.1,p.2.1,f p.2.2))
 | .nilCheck x=>.nilCheck (f x)
 | .ib o x y=>.ib o (f x) (f y)
 | .eq n k x y=>.eq n k (f x) (f y)
 | .not x=>.not (f x)
 | .neg x=>.neg (f x)
 | .inv x=>.inv (f x)
 | .conv k x=>.conv k (f x)
 | .mkIface t x=>.mkIface t (f x)
 | .mkFunc g a b=>.mkFunc g (a.map f) (b.map f)
 | .slStr x a b=>.slStr (f x) (a.map f) (b.map f)
 | .slArr e n x a b=>.slArr e n (f x) (a.map f) (b.map f)
 | .fAddr o x=>.fAddr o (f x)
 | .fld o s x=>.fld o s (f x)
 | .iAddr e x i=>.iAddr e (f x) (f i)
 | .iAddrArr e n x i=>.iAddrArr e n (f x) (f i)
 | .iArr e n s x i=>.iArr e n s (f x) (f i)
 | .iStr x i=>.iStr (f x) (f i)
 | .ext x i=>.ext (f x) i
 | .len x=>.len (f x)
 | .lenS x=>.lenS (f x)
 | .cap x=>.cap (f x)
 | .mm m x xs=>.mm m (f x) (xs.map f)
 | .assert t z ok x=>.assert t z ok (f x)
def Au (f:Q7->Q7):Po->Po
 | .load s a=>.load s (f a)
 | .look k z o m x=>.look k z o (f m) (f x)
 | .lenM x=>.lenM (f x)
 | .bytesStr x=>.bytesStr (f x)
 | .entry x=>.entry (f x)
 | .slData x=>.slData (f x)
 | .toUns x=>.toUns (f x)
 | .fromUns l x=>.fromUns l (f x)
def aW (f:Q7->Q7):Tm->Tm
 | .alloc z=>.alloc z
 | .box x=>.box (f x)
 | .allocT t z=>.allocT t z
 | .boxT t k x=>.boxT t k (f x)
 | .buildSlice e l z ps=>.buildSlice e l z (ps.map λp=>(p.1,p.2.1,f p.2.2))
 | .mkMap=>.mkMap
 | .mkSlice e b z l c=>.mkSlice e b z (f l) (f c)
 | .strBytes x=>.strBytes (f x)
 | .sl e x a b=>.sl e (f x) (a.map f) (b.map f)
def tV (f:Q7->Q7):Vv->Vv
 | .store s a x=>.store s (f a) (f x)
 | .storeAp s a x b=>.storeAp s (f a) (f x) (f b)
 | .mapSet k a b c=>.mapSet k (f a) (f b) (f c)
 | .range x=>.range (f x)
 | .next x=>.next (f x)
 | .app e z zs b s x=>.app e z zs b (f s) (f x)
 | .copy e d s=>.copy e (f d) (f s)
 | .clear z x=>.clear z (f x)
 | .call g a=>.call g (a.map f)
 | .callv g a=>.callv (f g) (a.map f)
 | .defer g a=>.defer (f g) (a.map f)
 | .panic x=>.panic (f x)
 | .recover=>.recover
 | .bad=>.bad
 | .rangeS x=>.rangeS (f x)
 | .nextS x=>.nextS (f x)
 | .appB t s x=>.appB t (f s) (f x)
 | .ustr t p n=>.ustr t (f p) (f n)
def mapA (f:Q7->Q7):yN->yN
 | .p o=>.p (kK f o)
 | .r o=>.r (Au f o)
 | .a o=>.a (aW f o)
 | .e o=>.e (tV f o)
def bump:Q7->Q7
 | .loc k=>.loc (k+1)
 | x=>x
def rn (r:List Q7):Q7->Q7
 | .loc k=>r.getD k (.con .undef)
 | x=>x
def xL (j:Nat):List Inst->Bool
 | []=>false
 | i::l=>i.dst==some j||xL j l
def mU (r:List Q7):List Inst->List Inst
 | []=>[]
 | i::l=>
  let keep:=⟨mapA (rn r) i.op,i.dst,i.guard.map λp=>(rn r p.1,p.2)⟩::mU (.loc 0::r.map bump) l
  match i.op,i.dst,i.guard with
  | .p (.mov x),none,none=>match rn r x with
   | .slot j=>bif xL j l then keep else mU (.slot j::r) l
   | y=>mU (y::r) l
  | _,_,_=>keep
def tX (f:d9->d9->Bool)(a:List d9):List d9->Bool:=
 List.rec (λb=>List.rec true (λ_ _ _=>false) b) (λx _ ih b=>List.rec false (λy ys _=>bi (f x y) (ih ys) false) b) a
def bR (n:Nat):d9->d9->Bool:=Nat.rec (λ_ _=>false) (λ_ ih x y=>match x,y with
  | .bool a,.bool b=>DX a b
  | .int k a,.int k' b=>bi (ZA k k') (bU a b) false
  | .str a,.str b=>strEq a b
  | .nilPtr,.nilPtr=>true
  | .ptr a b,.ptr c d=>bi (Nat.beq a c) (Nat.beq b d) false
  | .nilSlice,.nilSlice=>true
  | .slice a b c d,.slice a' b' c' d'=>bi (Nat.beq a a') (bi (Nat.beq b b') (bi (Nat.beq c c') (Nat.beq d d') false) false) false
  | .sliceU a b c d,.sliceU a' b' c' d'=>bi (Nat.beq a a') (bi (Nat.beq b b') (bi (Nat.beq c c') (Nat.beq d d') false) false) false
  | .nilMap,.nilMap=>true
  | .map a,.map b=>Nat.beq a b
  | .nilFunc,.nilFunc=>true
  | .func (.func f) a b,.func (.func g) c d=>bi (Nat.beq f g) (bi (tX ih a c) (tX ih b d) false) false
  | .func (.yield f) a b,.func (.yield g) c d=>bi (Nat.beq f g) (bi (tX ih a c) (tX ih b d) false) false
  | .nilIface,.nilIface=>true
  | .iface t a,.iface u b=>bi (Nat.beq t u) (ih a b) false
  | .agg a,.agg b=>tX ih a b
  | .tuple a,.tuple b=>tX ih a b
  | .undef,.undef=>true
  | _,_=>false) n
abbrev DC:=H8->Nat->List d9->T d9->Mem->List Mem->Option (List EM)
def stable (f:RF)(ls:List d9)(env:T d9)(v:d9)(n:Nat):List Mem->Bool:=
 Nat.rec (λ_=>true) (λ_ ih gs=>List.rec false (λm ms _=>bi (Option.rec false (λu=>bR 100 u v) (f ls env m)) (ih ms) false) gs) n
def tl (l:List Mem):List Mem:=List.rec [] (λ_ t _=>t) l
def oF:DC:=λ_ _ _ env m _=>some [⟨env,m,none,[]⟩]
def bN (f:PF)(d:d9->T d9->T d9)(k:DC):DC:=λcf b ls env m gs=>ob (f ls env) λv=>k cf b (v::ls) (d v env) m gs
def hd (m:Mem)(gs:List Mem):Mem:=List.rec m (λg _ _=>g) gs
def isVoid (b:Option P8):Bool:=match b with
 | some .void=>true
 | _=>false
def lN (i:Nat)(gs:List Mem):Bool:=List.rec true (λg _ ih=>bi (isVoid (g.get i)) ih false) gs
def Pv (x:Option (List α))(f:α->Option β):Option β:=
 Option.rec none (λl=>List.rec none (λa t _=>List.rec (f a) (λ_ _ _=>none) t) l) x
def nU (f:RF)(c:Nat)(d:d9->T d9->T d9)(k:DC):DC:=λcf b ls env m gs=>ob (f ls env (hd m gs)) λv=>bi (stable f ls env v c (tl gs)) (k cf b (v::ls) (d v env) m gs) none
def isCells (b:Option P8):Bool:=match b with
 | some (.cells _ _ _)=>true
 | _=>false
def ahK (x:OF)(c:Nat)(d:d9->T d9->T d9)(k:DC):DC:=λcf b ls env m gs=>match x ls env with
 | .slice id _ _ _=>bi (isVoid ((hd m gs).get id)) (bi (isCells (m.get id)) (ob (gD x ls env m) λv=>k cf b (v::ls) (d v env) m gs) none) (nU (gD x) c d k cf b ls env m gs)
 | _=>nU (gD x) c d k cf b ls env m gs
def adQ (c:Nat)(o:Po)(d:Option Nat)(g:Option (Q7×Bool))(k:DC):DC:=match o,g with
 | .bytesStr y,none=>ahK (I4 y) c (dh d) k
 | o,g=>nU (xK g (rW o)) c (dh d) k
def ME (m:Mem)(i:Nat)(b:Option P8):Mem:=Option.rec m (λb=>m.set i b) b
def dcL (f:LF)(c:Nat)(d:d9->T d9->T d9)(k:DC):DC:=λcf b ls env m gs=>ob (f ls env (Nat.add b c)) λr=>bi (isVoid (m.get (Nat.add b c))) (bi (lN (Nat.add b c) gs) (k cf b (r.1::ls) (d r.1 env) (ME m (Nat.add b c) r.2) gs) none) none
abbrev GF:=Nat->List d9->T d9->Mem->List Mem->List (T d9)->Option (List (T d9))
def iW:GF:=λ_ _ _ _ _ es=>some es
def Pw:GF:=λ_ _ _ _ _ _=>none
def vR (d:d9->T d9->T d9)(k:GF):GF:=λb ls env m gs es=>k b (.undef::ls) (d .undef env) m gs es
def BM (d:d9->T d9->T d9)(k:GF):GF:=λb ls env m gs es=>k b (.undef::ls) (d .undef env) m (m::gs) es
def ghA (f:LF)(c:Nat)(d:d9->T d9->T d9)(k:GF):GF:=λb ls env m gs es=>Option.rec (k b (.undef::ls) (d .undef env) m gs es) (λ_=>none) (f ls env (Nat.add b c))
def VP (f:T d9->T d9)(l:List (T d9)):List (T d9):=List.rec [] (λx _ ih=>f x::ih) l
def Vz (w:Bool)(f:T d9->T d9)(es:List (T d9)):List (T d9):=bi w (aC es (VP f es)) es
def BN:d9->Bool
 | .int _ _ | .bool _ | .str _=>true
 | _=>false
def Tv (w:Bool)(v:d9):Bool:=bi w (BN v) true
def kL (f:PF)(w:Bool)(d:d9->T d9->T d9)(k:GF):GF:=λb ls env m gs es=>ob (f ls env) λv=>bi (Tv w v) (k b (v::ls) (d v env) m gs (Vz w (d v) es)) none
def Ih (f:RF)(c:Nat)(w:Bool)(d:d9->T d9->T d9)(k:GF):GF:=λb ls env m gs es=>ob (f ls env (hd m gs)) λv=>bi (stable f ls env v c (tl gs)) (bi (Tv w v) (k b (v::ls) (d v env) m gs (Vz w (d v) es)) none) none
def ghL (f:LF)(c:Nat)(k:GF):GF:=λb ls env m gs es=>ob (f ls env (Nat.add b c)) λr=>bi (isVoid (m.get (Nat.add b c))) (bi (lN (Nat.add b c) gs) (k b (r.1::ls) env (ME m (Nat.add b c) r.2) gs es) none) none
def VQ (ds:List Bool):Q7->Bool
 | .loc k=>ds.getD k false
 | _=>false
def uz (ds:List Bool)(i:Inst):Bool:=(DV i.op).any (VQ ds)||(match i.guard with
 | some p=>VQ ds p.1
 | none=>false)
def uD:List (Nat×Inst)->List Bool->GF
 | [],_=>iW
 | x::l,ds=>match x.2.op with
  | .e _=>BM (dh x.2.dst) (uD l (true::ds))
  | .a o=>bif uz ds x.2 then ghA (CS x.2.guard (wQ o)) x.1 (dh x.2.dst) (uD l (true::ds)) else (match x.2.dst with
   | none=>ghL (CS x.2.guard (wQ o)) x.1 (uD l (false::ds))
   | some _=>Pw)
  | .r o=>bif uz ds x.2 then vR (dh x.2.dst) (uD l (true::ds)) else Ih (xK x.2.guard (rW o)) x.1 x.2.dst.isSome (dh x.2.dst) (uD l (false::ds))
  | .p o=>bif uz ds x.2 then vR (dh x.2.dst) (uD l (true::ds)) else kL (GK x.2.guard (nR o)) x.2.dst.isSome (dh x.2.dst) (uD l (false::ds))
def GL:List (Nat×Inst)->List Bool->Bool
 | [],_=>true
 | x::l,ds=>match x.2.op with
  | .e _=>GL l (true::ds)
  | .a _=>bif uz ds x.2 then GL l (true::ds) else (x.2.dst.isNone&&GL l (false::ds))
  | .r _=>GL l (uz ds x.2::ds)
  | .p _=>GL l (uz ds x.2::ds)
def ZH (o:yN)(l:List (Nat×Inst)):GF:=match o with
 | .e (.call _ _)=>bif GL l [true] then uD l [true] else Pw
 | .e (.callv _ _)=>bif GL l [true] then uD l [true] else Pw
 | .e (.panic _)=>bif GL l [true] then uD l [true] else Pw
 | _=>Pw
def uE (m:Mem)(x:d9)(es:List (T d9)):List EM:=List.rec [] (λv _ ih=>⟨v,m,some x,[]⟩::ih) es
def yT (f:EF)(gh:GF)(d:d9->T d9->T d9)(k:DC):DC:=λcf b ls env m gs=>Pv (f cf ls env m) λr=>bC r.v (λx=>ob (gh b (.undef::ls) (d .undef env) m (m::gs) [env]) λes=>some (uE r.m x es)) (k cf b (r.v::ls) (d r.v env) r.m (r.m::gs))
def adR (c:Nat)(o:yN)(d:Option Nat)(g:Option (Q7×Bool))(gh:GF)(k:DC):DC:=match o with
 | .p o=>bN (GK g (nR o)) (dh d) k
 | .r o=>adQ c o d g k
 | .a o=>dcL (CS g (wQ o)) c (dh d) k
 | .e o=>yT (JX g (nT o)) gh (dh d) k
def uF:List (Nat×Inst)->DC
 | []=>oF
 | (c,i)::l=>adR c i.op i.dst i.guard (ZH i.op l) (uF l)
def reserve (n:Nat)(m:Mem):Mem:=Nat.rec (λm=>m) (λ_ ih m=>ih (m.new .void)) n m
structure Out where
 x:bQ
 env:T d9
 m:Mem
 marks:List Mk
 pv:Option d9
abbrev SC:=H8->Nat->Option Nat->T d9->Mem->List Mk->Option (List Out)
def oG (x:bQ)(env:T d9)(m:Mem)(k:List Mk):Option (List Out):=some [⟨x,env,m,k,none⟩]
def D7:SC:=λ_ _ _ env m k=>oG .normal env m k
def iy (k:List Mk)(e:EM):Option (List Out):=
 Option.rec (oG .normal e.env e.m (aC e.mks k)) (λx=>some [⟨.ret,e.env,e.m,aC e.mks k,some x⟩]) e.px
def j5 (r:RC):SC:=λcf _ _ env m k=>bnd (r cf [] env m) (iy k)
def JY (r:RC):SC:=λcf _ ir env m k=>Option.rec (bnd (r cf [] env m) (iy k)) (λ_=>none) ir
def jm:List Inst->Bool
 | []=>false
 | i::l=>(pV i).isSome||jm l
def fF (n:Nat)(r:DC):SC:=λcf _ _ env m k=>bnd (r cf m.nx [] env (reserve n m) [reserve n m]) (iy k)
def j4 (a b:SC):SC:=λcf fuel ir env m k=>bnd (a cf fuel ir env m k) λo=>bQ.rec (b cf fuel ir o.env o.m o.marks) (λ_=>some [o]) (some [o]) o.x
def w9 (c:OF)(a b:SC):SC:=λcf fuel ir env m k=>pU (c [] env) λt=>bi t (a cf fuel ir env m k) (b cf fuel ir env m k)
def F9 (id:Nat)(a:SC):SC:=λcf fuel ir env m k=>bnd (a cf fuel ir env m k) λo=>bQ.rec (some [o]) (λid'=>bi (Nat.beq id id') (oG .normal o.env o.m o.marks) (some [o])) (some [o]) o.x
def C8 (body:T d9->Mem->List Mk->Option (List Out))(n:Nat):T d9->Mem->List Mk->Option (List Out):=
 Nat.rec (λ_ _ _=>none) (λ_ ih env m k=>bnd (body env m k) λo=>bQ.rec (ih o.env o.m o.marks) (λ_=>some [o]) (some [o]) o.x) n
def O7 (a:SC):SC:=λcf fuel ir env m k=>C8 (λenv m k=>a cf fuel ir env m k) fuel env m k
def rY (id:Nat):SC:=λ_ _ _ env m k=>oG (.exit id) env m k
def A8:SC:=λ_ _ _ env m k=>oG .ret env m k
def pW (b:Option P8)(f:LoopState->Option bQ->T d9->List (Option Nat)->U8->U8->Option β):Option β:=match b with
 | some (.loop st pend env params assign body)=>f st pend env params assign body
 | _=>none
def VR (cf:H8)(m:Mem)(args:List d9)(v:d9):gN:=Mj v λfn a b=>match fn with
 | .func f=>cf (.func f) (aC a (aC args b)) m
 | _=>none
def Px (cf:H8)(f:d9)(params:List (Option Nat))(assign body:U8)(env:T d9)(m:Mem)(k:List Mk):Option (List Out):=
 bnd (VR cf (m.new (.loop .ready none env params assign body)) [.func (.yield m.nx) [] []] f) λr=>bC r.v (λ_=>none) <|
  pW (r.m.get m.nx) λst pend _ _ _ _=>match st with
   | .busy=>none
   | _=>match pend with
    | none=>oG .normal env (r.m.set m.nx .dead) k
    | some x=>oG x env (r.m.set m.nx .dead) k
def JZ (f:OF)(params:List (Option Nat))(assign body:U8):SC:=λcf _ ir env m k=>
 Option.rec (Px cf (f [] env) params assign body env (m.new .deferred) (.c m.nx::k))
  (λl=>pW (m.get l) λ_ _ _ _ _ _=>Px cf (f [] env) params assign body env m k) ir
def CU:U8->SC
 | .skip=>D7
 | .reg ops=>bif jm ops then JY (bI ops) else j5 (bI (mU [] ops))
 | .dreg n ops=>fF n (uF ops)
 | .dreg2 n ops t=>j4 (fF n (uF ops)) (j5 (bI t))
 | .seq a b=>j4 (CU a) (CU b)
 | .cond c a b=>w9 (I4 c) (CU a) (CU b)
 | .block id a=>F9 id (CU a)
 | .loop a=>O7 (CU a)
 | .exit id=>rY id
 | .ret=>A8
 | .rangeFunc f params assign body=>JZ (I4 f) params assign body
def dz (js:List (Option Nat)):List d9->T d9->Option (T d9):=
 List.rec (λvs env=>List.rec (some env) (λ_ _ _=>none) vs) (λj _ ih vs env=>List.rec none (λv vs _=>ih vs (dh j v env)) vs) js
def results (rs:List pG)(env:T d9)(m:Mem):Option (List d9):=
 List.rec (some []) (λr _ ih=>ob (match r with
  | .tmp j=>T.get env j
  | .cell j size=>ob (T.get env j) λp=>iw p λid off=>U1 (m.get id) λrs n rows=>match size with
   | none=>cell1 rs n rows off
   | some k=>ob (jQ rs n rows off k) λl=>some (.agg l)) λv=>ob ih λl=>some (v::l)) rs
def result (l:List d9):d9:=List.rec (.tuple l) (λv t _=>List.rec v (λ_ _ _=>.tuple l) t) l
def VT (b:Option P8)(k:Option β):Option β:=match b with
 | some .deferred=>k
 | _=>none
abbrev jU:=FuncId->List d9->Option d9->Mem->Option (List (Mem×Option d9))
def VU (dcf:jU)(v:d9)(args:List d9)(md:Option d9)(m:Mem):Option (List (Mem×Option d9)):=Mj v λfn a b=>match fn with
 | .func f=>dcf f (aC a (aC args b)) md m
 | _=>none
def Ef (dcf:jU)(fin:Option d9->Mem->gN):List Mk->Option d9->Mem->gN:=
 List.rec (λmd m=>fin md m) (λx _ ih md m=>match x with
  | .c id=>VT (m.get id) (ih md (m.set id .dead))
  | .d v args=>bnd (VU dcf v args md m) λr=>ih r.2 r.1)
def xM (rs:List pG)(env:T d9)(md:Option d9)(m:Mem):gN:=
 Option.rec (ob (results rs env m) λl=>one (result l) m) (λx=>one (.kP x) m) md
def leave (dcf:jU)(rs:List pG)(o:Out):gN:=bQ.rec (Ef dcf (xM rs o.env) o.marks none o.m) (λ_=>none) (Ef dcf (xM rs o.env) o.marks o.pv o.m) o.x
def roundEnd (l:Nat)(o:Out):gN:=match o.marks,o.pv with
 | _ :: _,_=>none
 | _,some _=>none
 | [],none=>pW (o.m.get l) λst pend env params assign body=>match st,pend with
  | .busy,none=>match o.x with
   | .normal=>one (.bool true) (o.m.set l (.loop .ready none env params assign body))
   | x=>one (.bool false) (o.m.set l (.loop .done (some x) env params assign body))
  | _,_=>none
mutual
def GN (lo:Nat):d9->List Nat
 | .ptr i _ | .slice i _ _ _ | .sliceU i _ _ _ | .map i=>bi (Nat.ble lo i) [i] []
 | .func _ a b=>xO lo a++xO lo b
 | .iface _ v=>GN lo v
 | .agg l=>xO lo l
 | .tuple l=>xO lo l
 | _=>[]
def xO (lo:Nat):List d9->List Nat
 | []=>[]
 | v::l=>GN lo v++xO lo l
end
inductive NB where
 | cells (rs:Nat) (rows:List (List d9))
 | map (es:List (d9×d9))
 | tail (p:Nat)
 | dead
 deriving Inhabited
def CV (b:P8):Option NB:=match b with
 | .cells rs n rows=>ob (rows.slice n 0) λl=>some (.cells rs l)
 | .map es=>some (.map es)
 | .tail p=>some (.tail p)
 | .dead=>some .dead
 | _=>none
def MF (lo:Nat):List (List d9)->List Nat
 | []=>[]
 | l::ls=>xO lo l++MF lo ls
def VW (lo:Nat):List (d9×d9)->List Nat
 | []=>[]
 | e::es=>GN lo e.1++(GN lo e.2++VW lo es)
def ZI (lo:Nat):NB->List Nat
 | .cells _ rows=>MF lo rows
 | .map es=>VW lo es
 | .tail p=>bi (Nat.ble lo p) [p] []
 | .dead=>[]
def MG (n:Nat)(l:List (Nat×NB)):Bool:=List.rec false (λx _ ih=>bi (Nat.beq x.1 n) true ih) l
def reach (m:Mem)(lo n:Nat):List Nat->List (Nat×NB)->Option (List (Nat×NB)):=
 Nat.rec (λ_ _=>none) (λ_ ih work seen=>List.rec (some seen.reverse) (λw ws _=>
  bi (MG w seen) (ih ws seen) (ob (m.get w) λb=>ob (CV b) λnb=>ih (ZI lo nb++ws) ((w,nb)::seen))) work) n
def placeOf (i:Nat)(l:List Nat):Nat->Option Nat:=List.rec (λ_=>none) (λx _ ih k=>bi (Nat.beq x i) (some k) (ih (Nat.succ k))) l
mutual
def fG (r:Nat->Option Nat):d9->Option d9
 | .ptr i o=>ob (r i) λj=>some (.ptr j o)
 | .slice i o l c=>ob (r i) λj=>some (.slice j o l c)
 | .sliceU i o l c=>ob (r i) λj=>some (.sliceU j o l c)
 | .map i=>ob (r i) λj=>some (.map j)
 | .func fn a b=>match fn with
  | .yield _=>none
  | fn=>ob (kV r a) λx=>ob (kV r b) λy=>some (.func fn x y)
 | .iface t v=>ob (fG r v) λx=>some (.iface t x)
 | .agg l=>ob (kV r l) λx=>some (.agg x)
 | .tuple l=>ob (kV r l) λx=>some (.tuple x)
 | .kP _=>none
 | v=>some v
def kV (r:Nat->Option Nat):List d9->Option (List d9)
 | []=>some []
 | v::l=>ob (fG r v) λx=>ob (kV r l) λy=>some (x::y)
end
def tC (r:Nat->Option Nat):List (List d9)->Option (List (List d9))
 | []=>some []
 | l::ls=>ob (kV r l) λx=>ob (tC r ls) λy=>some (x::y)
def CW (r:Nat->Option Nat):List (d9×d9)->Option (List (d9×d9))
 | []=>some []
 | e::es=>ob (fG r e.1) λx=>ob (fG r e.2) λy=>ob (CW r es) λz=>some ((x,y)::z)
def pO (r:Nat->Option Nat):NB->Option NB
 | .cells rs rows=>ob (tC r rows) λx=>some (.cells rs x)
 | .map es=>ob (CW r es) λx=>some (.map x)
 | .tail p=>ob (r p) λq=>some (.tail q)
 | .dead=>some .dead
def wT (r:Nat->Option Nat):List NB->Option (List NB)
 | []=>some []
 | p::l=>ob (pO r p) λx=>ob (wT r l) λy=>some (x::y)
structure CO where
 ids:List Nat
 vs:List d9
 bs:List NB
def Av (lo:Nat)(ids:List Nat)(i:Nat):Option Nat:=bi (Nat.ble lo i) (placeOf i ids lo) (some i)
def lQ (lo:Nat)(vs:List d9)(m:Mem):Option CO:=
 ob (reach m lo 100000 (xO lo vs) []) λseen=>ob (kV (Av lo (seen.map (·.1))) vs) λxs=>ob (wT (Av lo (seen.map (·.1))) (seen.map (·.2))) λbs=>some ⟨seen.map (·.1),xs,bs⟩
def iX:NB->P8
 | .cells rs rows=>.cells rs (len' rows) (T.ofList rows)
 | .map es=>.map es
 | .tail p=>.tail p
 | .dead=>.dead
def layAll (bs:List NB):Mem->Mem:=List.rec (λm=>m) (λb _ ih m=>ih (m.new (iX b))) bs
def Aw:List (List d9)->List (List d9)->Bool
 | [],[]=>true
 | a::x,b::y=>bi (tX (bR 100) a b) (Aw x y) false
 | _,_=>false
def Ii:List (d9×d9)->List (d9×d9)->Bool
 | [],[]=>true
 | a::x,b::y=>bi (bR 100 a.1 b.1) (bi (bR 100 a.2 b.2) (Ii x y) false) false
 | _,_=>false
def VX:NB->NB->Bool
 | .cells r a,.cells s b=>bi (Nat.beq r s) (Aw a b) false
 | .map a,.map b=>Ii a b
 | .tail p,.tail q=>Nat.beq p q
 | .dead,.dead=>true
 | _,_=>false
def kW:List NB->List NB->Bool
 | [],[]=>true
 | a::x,b::y=>bi (VX a b) (kW x y) false
 | _,_=>false
structure CX where
 v:d9
 bs:List NB
def BO (lo:Nat)(r:VM):Option CX:=ob (lQ lo [r.v] r.m) λc=>List.rec none (λv _ _=>some ⟨v,c.bs⟩) c.vs
def Ka (lo:Nat)(l:List VM):Option CX:=
 List.rec none (λr rs ih=>ob (BO lo r) λa=>List.rec (some a) (λ_ _ _=>ob ih λb=>bi (bR 100 a.v b.v) (bi (kW a.bs b.bs) (some a) none) none) rs) l
structure R5 where
 pure:Bool
 args:List (Option Nat)
 nslots:Nat
 results:List pG
 code:SC
 rcode:Option U8
structure Known where
 fns:FuncId->Option R5
 base:Mem
 sum:FuncId->List d9->List NB->Option CX
 eff:FuncId->List d9->Mem->gN
def lZ (cf:H8)(dcf:jU)(fuel:Nat)(f:R5)(args:List d9)(m:Mem):gN:=
 ob (dz f.args args (T.rep .undef f.nslots .e 0)) λenv=>bnd (f.code cf fuel none env m []) (leave dcf f.results)
structure MH where
 o:Out
 md:Option d9
def isRec (i:Inst):Bool:=match i.op,i.guard with
 | .e .recover,none=>true
 | _,_=>false
def Py:List Inst->Bool
 | []=>false
 | i::l=>isRec i||Py l
def wJ:List Inst->H8->List d9->T d9->Mem->Option d9->Option (List (EM×Option d9))
 | [],_,_,env,m,md=>some [(⟨env,m,none,[]⟩,md)]
 | i::l,cf,ls,env,m,md=>match isRec i with
  | true=>match md with
   | some x=>wJ l cf (x::ls) (dh i.dst x env) m none
   | none=>wJ l cf (.nilIface::ls) (dh i.dst .nilIface env) m none
  | false=>match i.op with
   | .p o=>ob (GK i.guard (nR o) ls env) λv=>wJ l cf (v::ls) (dh i.dst v env) m md
   | .r o=>ob (xK i.guard (rW o) ls env m) λv=>wJ l cf (v::ls) (dh i.dst v env) m md
   | _=>none
def Ru:U8->H8->Nat->T d9->Mem->Option d9->Option (List MH)
 | .seq a b,cf,fuel,env,m,md=>bnd (Ru a cf fuel env m md) λr=>match r.o.x with
  | .normal=>match r.o.marks with
   | []=>Ru b cf fuel r.o.env r.o.m r.md
   | _=>none
  | _=>some [r]
 | .cond c a b,cf,fuel,env,m,md=>pU (I4 c [] env) λt=>bi t (Ru a cf fuel env m md) (Ru b cf fuel env m md)
 | .reg ops,cf,fuel,env,m,md=>match Py ops with
  | true=>bnd (wJ ops cf [] env m md) λr=>some [⟨⟨.normal,r.1.env,r.1.m,[],none⟩,r.2⟩]
  | false=>bnd (CU (.reg ops) cf fuel none env m []) λo=>some [⟨o,md⟩]
 | c,cf,fuel,env,m,md=>bnd (CU c cf fuel none env m []) λo=>some [⟨o,md⟩]
def VY (rs:List pG)(r:MH):Option (List (Mem×Option d9)):=match r.o.x,r.o.marks,r.o.pv with
 | .exit _,_,_=>none
 | _,[],none=>ob (results rs r.o.env r.o.m) λ_=>some [(r.o.m,r.md)]
 | _,_,_=>none
def amU (cf:H8)(fuel:Nat)(f:R5)(args:List d9)(md:Option d9)(m:Mem):Option (List (Mem×Option d9)):=
 ob f.rcode λc=>ob (dz f.args args (T.rep .undef f.nslots .e 0)) λenv=>bnd (Ru c cf fuel env m md) (VY f.results)
def Mem.shut (m:Mem):Mem:=⟨m.t,m.nx,m.nx⟩
def tF (K:Known)(cf:H8)(fuel:Nat):jU:=λf args md m=>ob (K.fns f) λsf=>amU cf fuel sf args md m
def BP (K:Known)(cf:H8)(fuel:Nat)(f:FuncId)(sf:R5)(args:List d9)(bs:List NB):Option CX:=
 Option.rec (ob (lZ cf (tF K cf fuel) fuel sf args (layAll bs K.base).shut) λl=>Ka (layAll bs K.base).nx l) (λa=>some a) (K.sum f args bs)
def mV (g:Nat)(ids:List Nat)(next i:Nat):Option Nat:=
 bi (Nat.blt i g) (some i) (bi (Nat.blt (Nat.sub i g) (len' ids)) (pI (Nat.sub i g) ids) (some (Nat.add next (Nat.sub (Nat.sub i g) (len' ids)))))
def iY (K:Known)(cf:H8)(fuel:Nat)(f:FuncId)(sf:R5)(args:List d9)(m:Mem):gN:=
 ob (lQ K.base.nx args m) λc=>ob (BP K cf fuel f sf c.vs c.bs) λa=>ob (fG (mV K.base.nx c.ids m.nx) a.v) λv=>ob (wT (mV K.base.nx c.ids m.nx) a.bs) λbs=>one v (layAll bs m)
def Kc (cf:H8)(fuel l:Nat)(args:List d9)(m:Mem):gN:=
 bi (Nat.blt l m.lim) none (pW (m.get l) λst pend env params assign body=>match st,pend with
  | .ready,none=>ob (dz params args env) λenv1=>bnd (CU assign cf fuel (some l) env1 m []) λo=>match o.x,o.marks with
   | .normal,[]=>pW (o.m.get l) λst2 pend2 env2 params2 assign2 body2=>match st2,pend2 with
    | .ready,none=>bnd (CU body cf fuel (some l) o.env (o.m.set l (.loop .busy none env2 params2 assign2 body2)) []) (roundEnd l)
    | _,_=>none
   | _,_=>none
  | _,_=>none)
def l7 (K:Known)(fuel n:Nat):H8:=
 Nat.rec (λ_ _ _=>none) (λ_ ih fn args m=>match fn with
  | .func f=>Option.rec (ob (K.fns f) λsf=>bi sf.pure (iY K ih fuel f sf args m) (lZ ih (tF K ih fuel) fuel sf args m)) (λl=>some l) (K.eff f args m)
  | .yield l=>Kc ih fuel l args m
  | _=>none) n
mutual
def ofValue:Value->Option d9
 | .bool b=>some (.bool b)
 | .int k n=>some (.int k n)
 | .string s=>some (.str s.data.toList)
 | .pointer none=>some .nilPtr
 | .slice none 0 0=>some .nilSlice
 | .map none=>some .nilMap
 | .func (.func f) ⟨[]⟩ ⟨[]⟩=>some (.func (.func f) [] [])
 | .nilFunc=>some .nilFunc
 | .nilIface=>some .nilIface
 | .agg ⟨l⟩=>match ofValues l with
  | some x=>some (.agg x)
  | none=>none
 | .tuple ⟨[]⟩=>some (.tuple [])
 | _=>none
def ofValues:List Value->Option (List d9)
 | []=>some []
 | v::l=>match ofValue v,ofValues l with
  | some x,some y=>some (x::y)
  | _,_=>none
end
section
variable (P:Program)
def aM (t:TypeId):Option Nat:=(P.info? t).map (·.size)
def fZ (t:TypeId):Option Nat:=(P.info? t).map (·.bytes)
def wK (t:TypeId):Option Bool:=match P.underlying t with
 | some (.struct _) | some (.array _ _)=>some true
 | some _=>some false
 | none=>none
def partT (t:TypeId):Option (Option Nat):=match wK P t,aM P t with
 | some true,some n=>some (some n)
 | some false,some _=>some none
 | _,_=>none
def qN (t:TypeId):Option (List d9):=match (P.info? t).bind (·.zero) with
 | some z=>match ofValue z with
  | some a=>some a.cells
  | none=>none
 | none=>none
def zeroV (t:TypeId):Option d9:=match (P.info? t).bind (·.zero) with
 | some z=>ofValue z
 | none=>none
def oH (f:TypeId->Option (List PK)):List Field->Nat->Option (List PK)
 | [],_=>some []
 | fd::l,off=>if fd.name≠ "_"∧fd.offset=off then match f fd.type with
   | some ks=>match oH f l (off+ks.length) with
    | some r=>some (ks++r)
    | none=>none
   | none=>none
  else none
def fH:Nat->TypeId->Option (List PK)
 | 0,_=>none
 | d+1,t=>match P.underlying t with
  | some .bool=>if aM P t=some 1 then some [.b] else none
  | some (.int _)=>if aM P t=some 1 then some [.i] else none
  | some .string=>if aM P t=some 1 then some [.s] else none
  | some (.struct fs)=>match oH (fH d) fs.toList 0 with
   | some ks=>if P.stoodInHeld t=false∧aM P t=some ks.length then some ks else none
   | none=>none
  | _=>none
def VZ (cst:Bool)(t:TypeId):Option Ah:=match P.underlying t with
 | some .bool=>some (.prim .b)
 | some (.int _)=>some (.prim .i)
 | some .string=>some (.prim .s)
 | some (.struct _)=>match fH P 10 t with
  | some k=>if P.eqGuardType P.depth t=false then some (.flat k) else none
  | none=>none
 | some (.pointer e)=>match aM P e with
  | some _=>some .ptr
  | none=>none
 | some (.slice _)=>some .slice
 | some (.map _ _)=>some .map
 | some (.func ..)=>some .func
 | some (.interface _)=>if cst then some .iface else none
 | _=>none
def ZJ (t:TypeId):Option Ah:=match P.underlying t with
 | some (.array n e)=>match P.underlying e with
  | some (.int _)=>if aM P e=some 1∧P.eqGuardType P.depth t=false then some (.flat (List.replicate n .i)) else none
  | _=>none
 | _=>none
def Wh (cst:Bool)(t:TypeId):Option Ah:=match VZ P cst t with
 | some k=>some k
 | none=>ZJ P t
def CY (t:TypeId):Option (List d9):=match qN P t,aM P t with
 | some z,some k=>if z.length=k then some z else none
 | _,_=>none
def acA (t:TypeId):Bool:=match P.info? t with
 | some {desc:=.named n _,..}=>n == "strings.Builder"
 | _=>false
def Pz (t:TypeId):Bool:=acA P t||(match P.underlying t with
 | some (.struct fs)=>fs.toList.any λf=>acA P f.type
 | _=>false)
def MI (u:TypeId):List (Nat×Nat):=(List.range P.types.size).flatMap λty=>if Pz P ty&&P.cellsOf ty != 0 then
 ((if liesAt P P.depth ty 1 0 u 1 then [(ty,0)] else [])++(match P.underlying ty with
  | some (.struct fs)=>fs.toList.flatMap λf=>if f.offset≠0∧liesAt P P.depth ty 1 f.offset u 1 then [(ty,f.offset)] else []
  | _=>[])) else []
def BQ (e:TypeId):Bool:=(match P.underlying e with
 | some (.int .u8)=>true
 | _=>false)&&aM P e==some 1&&fZ P e==some 1&&(CY P e).isSome
def tY (t:TypeId):Option Ah:=match VZ P false t with
 | some (.prim j)=>some (.prim j)
 | some (.flat ks)=>some (.flat ks)
 | _=>none
end
def idxOf (t:Nat):List Nat->Nat->Option Nat
 | [],_=>none
 | x::l,i=>bif Nat.beq x t then some i else idxOf t l (i+1)
def iQ (t:Nat):List (Option Nat)->Nat->Option Nat
 | [],_=>none
 | some x::l,i=>bif Nat.beq x t then some i else iQ t l (i+1)
 | none::l,i=>iQ t l (i+1)
section
variable (P:Program)(slots:List Nat)(done:List (Option Nat))
def N7:Operand->Option Q7
 | .tmp t=>match iQ t done 0 with
  | some k=>some (.loc k)
  | none=>match idxOf t slots 0 with
   | some j=>some (.slot j)
   | none=>none
 | .const v=>match ofValue v with
  | some a=>some (.con a)
  | none=>none
 | .global g=>if g<P.globals.size then some (.con (.ptr g 0)) else none
 | .func f=>some (.con (.func (.func f) [] []))
def jE:List Operand->Option (List Q7)
 | []=>some []
 | x::l=>match N7 P slots done x,jE l with
  | some a,some b=>some (a::b)
  | _,_=>none
def cOpt:Option Operand->Option (Option Q7)
 | none=>some none
 | some x=>match N7 P slots done x with
  | some a=>some (some a)
  | none=>none
def wU:Operand->Bool
 | .const _=>true
 | _=>false
def uG (place:Nat->Option (Nat×Nat)):List (Nat×Operand)->Option (List (Nat×Nat×Q7))
 | []=>some []
 | p::l=>match place p.1,N7 P slots done p.2,uG place l with
  | some (o,s),some x,some r=>some ((o,s,x)::r)
  | _,_,_=>none
def placesOf:List Field->Option (List (Nat×Nat))
 | []=>some []
 | f::l=>match aM P f.type,placesOf l with
  | some s,some r=>some ((f.offset,s)::r)
  | _,_=>none
def xP (t:TypeId)(parts:List (Nat×Operand)):Option yN:=
 match qN P t,P.underlying t with
 | some zero,some (.struct fields)=>match placesOf P fields.toList with
  | some pl=>match uG P slots done (λi=>pl[i]?) parts with
   | some ps=>some (.p (.build zero ps))
   | none=>none
  | none=>none
 | some zero,some (.array _ elem)=>match aM P elem with
  | some s=>match uG P slots done (λi=>some (i*s,s)) parts with
   | some ps=>some (.p (.build zero ps))
   | none=>none
  | none=>none
 | _,_=>none
def adS:TypeDesc->Bool
 | .string=>true
 | _=>false
def uH (b:Builtin)(ts:List TypeId)(args:List Operand):Option yN:=do
 match b,ts,args with
 | .len,[t],[x]=>match ← P.underlying t with
  | .string=>do pure (.p (.lenS (← N7 P slots done x)))
  | .slice _=>do pure (.p (.len (← N7 P slots done x)))
  | .array n _=>pure (.p (.mov (.con (.int .i64 n))))
  | .map _ _=>do pure (.r (.lenM (← N7 P slots done x)))
  | _=>none
 | .cap,[t],[x]=>match ← P.underlying t with
  | .slice _=>do pure (.p (.cap (← N7 P slots done x)))
  | _=>none
 | .append,[t,u],[s,x]=>match ← P.underlying t with
  | .slice e=>do
   let d ← P.underlying u
   let zs:=match d with | .int _=>true | _=>false
   if adS d&&BQ P e then pure (.e (.appB e (← N7 P slots done s) (← N7 P slots done x)))
   else pure (.e (.app (← aM P e) zs (← CY P e) (← fZ P e) (← N7 P slots done s) (← N7 P slots done x)))
  | _=>none
 | .copy,[t,_],[d,s]=>match ← P.underlying t with
  | .slice e=>do pure (.e (.copy (← aM P e) (← N7 P slots done d) (← N7 P slots done s)))
  | _=>none
 | .clear,[t],[x]=>match ← P.underlying t with
  | .slice e=>do pure (.e (.clear (← qN P e) (← N7 P slots done x)))
  | _=>none
 | .max,_,x::xs=>do pure (.p (.mm true (← N7 P slots done x) (← jE P slots done xs)))
 | .min,_,x::xs=>do pure (.p (.mm false (← N7 P slots done x) (← jE P slots done xs)))
 | .recover,[],[]=>pure (.e .recover)
 | .unsafeSliceData,[t],[x]=>match ← P.underlying t with
  | .slice _=>do pure (.r (.slData (← N7 P slots done x)))
  | _=>none
 | .unsafeString,[t,_],[p,n]=>match ← P.underlying t with
  | .pointer e=>do if BQ P e then pure (.e (.ustr e (← N7 P slots done p) (← N7 P slots done n))) else none
  | _=>none
 | _,_,_=>none
def gF (o:Op):Option yN:=do
 let r:=N7 P slots done
 match o with
 | .move x | .assign x=>pure (.p (.mov (← r x)))
 | .pick c a b=>pure (.p (.pick (← r c) (← r a) (← r b)))
 | .alloc t=>if Pz P t then do pure (.a (.allocT t (← CY P t))) else do pure (.a (.alloc (← qN P t)))
 | .box t x=>if Pz P t then do pure (.a (.boxT t (← aM P t) (← r x))) else do pure (.a (.box (← r x)))
 | .build t parts=>xP P slots done t parts.toList
 | .buildSlice t len parts=>match ← P.underlying t with
  | .slice e=>do
   let es ← aM P e
   let ps ← uG P slots done (λi=>some (i*es,es)) parts.toList
   if len*es<=16777216 then pure (.a (.buildSlice es len (← qN P e) ps)) else none
  | _=>none
 | .load t a=>pure (.r (.load (← partT P t) (← r a)))
 | .store t a x=>pure (.e (.store (← aM P t) (← r a) (← r x)))
 | .nilCheck x=>pure (.p (.nilCheck (← r x)))
 | .binOp op t x y _=>match op with
  | .eql | .neq=>do
   let k ← Wh P (wU x||wU y) t
   let neg:=match op with | .neq=>true | _=>false
   match k with
   | .prim .i=>pure (.p (.ib op (← r x) (← r y)))
   | .prim .s=>pure (.p (.ib op (← r x) (← r y)))
   | k=>pure (.p (.eq neg k (← r x) (← r y)))
  | _=>pure (.p (.ib op (← r x) (← r y)))
 | .unOp op _ x=>match op with
  | .not=>do pure (.p (.not (← r x)))
  | .neg=>do pure (.p (.neg (← r x)))
  | .xor=>do pure (.p (.inv (← r x)))
  | _=>none
 | .convert s d x=>match ← P.underlying s,← P.underlying d with
  | .int _,.int k=>do pure (.p (.conv k (← r x)))
  | .string,.slice e=>match ← P.underlying e with
   | .int .u8=>do pure (.a (.strBytes (← r x)))
   | _=>none
  | .slice e,.string=>match ← P.underlying e with
   | .int .u8=>do pure (.r (.bytesStr (← r x)))
   | _=>none
  | .pointer t,.unsafePointer=>match ← aM P t with
   | 0=>none
   | _=>do pure (.r (.toUns (← r x)))
  | .unsafePointer,.pointer u=>match ← aM P u with
   | 0=>none
   | _=>do pure (.r (.fromUns (MI P u) (← r x)))
  | _,_=>none
 | .makeInterface t x=>match ← P.underlying t with
  | .interface _=>none
  | _=>do pure (.p (.mkIface t (← r x)))
 | .makeFunc fn a b=>match fn with
  | .func f=>do pure (.p (.mkFunc (.func f) (← jE P slots done a.toList) (← jE P slots done b.toList)))
  | _=>none
 | .makeMap t res=>match res with
  | none=>pure (.a .mkMap)
  | some (.const (.int _ _))=>match P.underlying t with
   | some (.map _ _)=>pure (.a .mkMap)
   | _=>none
  | _=>none
 | .makeSlice t l c=>match ← P.underlying t with
  | .slice e=>do pure (.a (.mkSlice (← aM P e) (← fZ P e) (← CY P e) (← r l) (← r c)))
  | _=>none
 | .slice t x lo hi none=>match ← P.underlying t with
  | .string=>do pure (.p (.slStr (← r x) (← cOpt P slots done lo) (← cOpt P slots done hi)))
  | .slice e=>do pure (.a (.sl (← aM P e) (← r x) (← cOpt P slots done lo) (← cOpt P slots done hi)))
  | .array n e=>do pure (.p (.slArr (← aM P e) n (← r x) (← cOpt P slots done lo) (← cOpt P slots done hi)))
  | _=>none
 | .fieldAddr s x f=>match ← P.underlying s with
  | .struct fs=>do
   let fd ← fs[f]?
   let sz ← aM P fd.type
   if sz=0 then none else pure (.p (.fAddr fd.offset (← r x)))
  | _=>none
 | .field s x f=>match ← P.underlying s with
  | .struct fs=>do
   let fd ← fs[f]?
   pure (.p (.fld fd.offset (← partT P fd.type) (← r x)))
  | _=>none
 | .indexAddr t x i=>match ← P.underlying t with
  | .slice e=>do pure (.p (.iAddr (← aM P e) (← r x) (← r i)))
  | .array n e=>do pure (.p (.iAddrArr (← aM P e) n (← r x) (← r i)))
  | _=>none
 | .index t x i=>match ← P.underlying t with
  | .string=>do pure (.p (.iStr (← r x) (← r i)))
  | .array n e=>do pure (.p (.iArr (← aM P e) n (← partT P e) (← r x) (← r i)))
  | _=>none
 | .lookup t x k ok=>match ← P.underlying t with
  | .map kt e=>do pure (.r (.look (← tY P kt) (← zeroV P e) ok (← r x) (← r k)))
  | _=>none
 | .mapUpdate t m k x | .insert t m k x=>match ← P.underlying t with
  | .map kt _=>do pure (.e (.mapSet (← tY P kt) (← r m) (← r k) (← r x)))
  | _=>none
 | .range t x=>match ← P.underlying t with
  | .map _ _=>do pure (.e (.range (← r x)))
  | .string=>do pure (.e (.rangeS (← r x)))
  | _=>none
 | .next it false=>pure (.e (.next (← r it)))
 | .next it true=>pure (.e (.nextS (← r it)))
 | .entry it=>pure (.r (.entry (← r it)))
 | .extract x i=>pure (.p (.ext (← r x) i))
 | .typeAssert x _ t ok=>match ← P.underlying t with
  | .interface _=>none
  | _=>do pure (.p (.assert t (← zeroV P t) ok (← r x)))
 | .panic x=>pure (.e (.panic (← r x)))
 | .defer c=>match c.callee with
  | .value f=>do pure (.e (.defer (← r f) (← jE P slots done c.args.toList)))
  | _=>none
 | .call c=>match c.callee with
  | .builtin b=>uH P slots done b c.argTypes.toList c.args.toList
  | .value (.func f)=>do
   let fn ← P.funcs[f]?
   if fn.body.isSome&&fn.name != "runtime.NumGoroutine" then pure (.e (.call f (← jE P slots done c.args.toList)))
   else if fn.body.isNone&&fn.name == "internal/abi.NoEscape" && (Extern.findNext fn).isNone then match c.args.toList with
    | [x]=>do pure (.p (.mov (← r x)))
    | _=>none
   else none
  | .value f=>do pure (.e (.callv (← r f) (← jE P slots done c.args.toList)))
  | _=>none
 | _=>none
def GQ:Option Tmp->Option Nat
 | none=>none
 | some t=>idxOf t slots 0
def kM (o:Op):yN:=match gF P slots done o with
 | some a=>a
 | none=>.e .bad
def pX (ops:Array Oper)(i:Nat):Option (Inst×Option Nat):=do
 let o ← ops[i]?
 let a:=kM P slots done o.op
 let g ← match o.guard with
  | none=>pure none
  | some (j,w)=>do
   let og ← ops[j]?
   let d ← og.dst
   let k ← iQ d done 0
   pure (some (Q7.loc k,w))
 pure (⟨a,GQ slots o.dst,g⟩,o.dst)
end
def jV (P:Program)(slots:List Nat)(ops:Array Oper):List (Option Nat)->List Nat->Option (List Inst)
 | _,[]=>some []
 | done,i::rest=>match pX P slots done ops i with
  | some (x,d)=>match jV P slots ops (d::done) rest with
   | some l=>some (x::l)
   | none=>none
  | none=>none
def bitsOf (e:Array Edge)(acc:List Nat):Nat:=
 e.toList.foldl (λs x=>if Region.binds .any x then s ||| (1 <<< x.on) ||| (acc.getD x.on 0) else s) 0
def masks (ops:List Oper):List Nat:=ops.foldl (λacc o=>acc ++ [bitsOf o.after acc]) []
def PD (ms:List Nat)(i j:Nat):Bool:=Nat.testBit (ms.getD i 0) j
def ahL:Op->Bool
 | .store .. | .mapUpdate .. | .insert .. | .range .. | .next .. | .mapEntry .. | .entryStore .. | .panic _ | .defer _ | .typeAssert ..=>true
 | .call {callee:=.builtin b,..}=>match b with
  | .append | .copy | .clear | .delete | .unsafeString=>true
  | _=>false
 | .call _=>true
 | _=>false
def Eh (ops:Array Oper)(i:Nat):Bool:=
 match ops[i]? with
 | some o=>ahL o.op
 | none=>false
def canon (eff:Nat->Bool)(ms:List Nat)(n:Nat):List Nat:=
 let effs:=(List.range n).filter eff
 let step (acc:List Nat) (e:Nat):List Nat:=acc++(List.range n).filter (λi=>!acc.contains i&&PD ms e i) ++ [e]
 let acc:=effs.foldl (λacc e=>if acc.contains e then acc else step acc e) []
 acc++(List.range n).filter (λi=>!acc.contains i)
def Q0 (x:Inst):Bool:=match x.op with
 | .e _=>true
 | _=>false
def isA (x:Inst):Bool:=match x.op with
 | .a _=>true
 | _=>false
def isR (x:Inst):Bool:=match x.op with
 | .r _=>true
 | _=>false
def adT (ms:List Nat)(i:Nat)(x:Inst)(effs:List Nat)(nal:Nat):Nat:=
 if isR x then (effs.takeWhile λe=>!PD ms i e).length else nal
def numbered (ms:List Nat):List (Nat×Inst)->List Nat->Nat->List (Nat×Inst)
 | [],_,_=>[]
 | (i,x)::rest,effs,nal=>(adT ms i x effs nal,x)::numbered ms rest (if Q0 x then i::effs else effs) (if isA x then nal+1 else nal)
def xQ (ops:Array Oper)(o:Oper):List Nat:=
 (o.op.operands.toList.filterMap fun | .tmp t=>some t | _=>none) ++
 (match o.guard with
  | some (g,_)=>((ops[g]?).bind (·.dst)).toList
  | none=>[])
def MJ:List Nat->Bool
 | []=>true
 | x::l=>!l.contains x&&MJ l
def Ke:List Inst->Nat
 | []=>0
 | x::l=>(if isA x then 1 else 0)+Ke l
def Rv (ms:List Nat)(i:Nat)(before:List (Nat×Inst)):Q7->Bool
 | .loc k=>match before[k]? with
  | some y=>PD ms i y.1
  | none=>false
 | .slot j=>before.all λy=>y.2.dst != some j
 | .con _=>true
def uI (ms:List Nat)(ops:Array Oper)(i:Nat)(x:Inst)(before:List (Nat×Inst)):Bool:=
 (match x.op with
  | .e _=>before.all λy=>PD ms i y.1
  | _=>true) &&
 (match ops[i]? with
  | some o=>(o.after.toList.all λe=>!Region.binds .any e||before.any λy=>y.1==e.on) &&
   ((xQ ops o).all λt=>(List.range ops.size).all λq=>q==i||(match ops[q]? with
    | some oq=>oq.dst != some t
    | none=>true)||PD ms i q||PD ms q i)
  | none=>false) &&
 ((DV x.op).all λy=>Rv ms i before y) &&
 (match x.guard with
  | some (y,_)=>Rv ms i before y
  | none=>true)
def vS (ms:List Nat)(ops:Array Oper):List (Nat×Inst)->List (Nat×Inst)->Bool
 | [],_=>true
 | y::rest,before=>uI ms ops y.1 y.2 before&&vS ms ops rest (y::before)
def Wi (ms:List Nat)(ops:Array Oper)(ord:List Nat)(insts:List Inst):Bool:=
 MJ ord&&(ord.all λi=>Nat.blt i ops.size)&&((List.range ops.size).all λi=>ord.contains i)&&MJ (ops.toList.filterMap (·.dst))&&vS ms ops (ord.zip insts) []
def yU (P:Program)(slots:List Nat)(ops:Array Oper):Option U8:=
 match jV P slots ops [] (canon (Eh ops) (masks ops.toList) ops.size) with
 | none=>none
 | some insts=>
  if Wi (masks ops.toList) ops (canon (Eh ops) (masks ops.toList) ops.size) insts then
   some (.dreg (Ke insts) (numbered (masks ops.toList) ((canon (Eh ops) (masks ops.toList) ops.size).zip insts) [] 0))
  else none
def MK:Q7->Bool
 | .loc _=>false
 | _=>true
def Kg (ms:List Nat)(ops:Array Oper):Bool:=
 Nat.ble 3 ops.size &&
 ((List.range ops.size).all λi=>match ops[i]? with
  | some o=>(o.after.toList.all λe=>!Region.binds .any e||Nat.blt e.on i)&&o.guard.isNone
  | none=>false) &&
 ((List.range (ops.size-3)).all λj=>PD ms (ops.size-3) j&&PD ms (ops.size-2) j&&PD ms (ops.size-1) j) &&
 PD ms (ops.size-2) (ops.size-3)
def Dr (x y z:Option (Inst×Option Nat))(n:Nat)(l:List (Nat×Inst)):Option U8:=
 match x,y,z with
 | some (⟨.p po,none,none⟩,_),some (⟨.e (.store s (.loc 0) v),none,none⟩,none),some (⟨.e (.store s' a' v'),none,none⟩,none)=>if MK a'&&MK v' then some (.dreg2 n l [⟨.p po,none,none⟩,⟨.e (.store s (.loc 0) v),none,none⟩,⟨.e (.storeAp s' a' v' (.loc 1)),none,none⟩]) else none
 | _,_,_=>none
def Rx:Option Oper->Bool
 | some o=>match o.op with
  | .store ..=>true
  | _=>false
 | none=>false
def splits (ops:Array Oper):Bool:=Rx ops[ops.size-1]? && Rx ops[ops.size-2]? && !PD (masks ops.toList) (ops.size-1) (ops.size-2)
def Ei (P:Program)(slots:List Nat)(ops:Array Oper):Option U8:=
 match yU P slots (ops.extract 0 (ops.size-3)) with
 | some (.dreg n l)=>
  if Kg (masks ops.toList) ops then
   Dr (pX P slots [] ops (ops.size-3)) (pX P slots [(ops[ops.size-3]?).bind (·.dst)] ops (ops.size-2)) (pX P slots [] ops (ops.size-1)) n l
  else none
 | _=>none
def R6 (P:Program)(slots:List Nat):Code->Option U8
 | .skip=>some .skip
 | .region _ ops false=>match jV P slots ops [] (List.range ops.size) with
  | some l=>some (.reg l)
  | none=>none
 | .region _ ops true=>if splits ops then Ei P slots ops else yU P slots ops
 | .seq a b=>match R6 P slots a,R6 P slots b with
  | some x,some y=>some (.seq x y)
  | _,_=>none
 | .cond c a b=>match N7 P slots [] c,R6 P slots a,R6 P slots b with
  | some z,some x,some y=>some (.cond z x y)
  | _,_,_=>none
 | .block id a=>match R6 P slots a with
  | some x=>some (.block id x)
  | none=>none
 | .loop a=>match R6 P slots a with
  | some x=>some (.loop x)
  | none=>none
 | .exit id=>some (.exit id)
 | .ret=>some .ret
 | .rangeFunc f ps a b=>match N7 P slots [] f,R6 P slots a,R6 P slots b with
  | some z,some x,some y=>some (.rangeFunc z (ps.toList.map λt=>idxOf t slots 0) x y)
  | _,_,_=>none
 | .refuse _=>some (.reg [⟨.e .bad,none,none⟩])
 | _=>none
def tmpsIn (nt:Nat):Code->Bool
 | .region _ ops _=>ops.toList.all λo=>match o.dst with
  | some t=>Nat.blt t nt
  | none=>true
 | .seq a b=>tmpsIn nt a&&tmpsIn nt b
 | .cond _ a b=>tmpsIn nt a&&tmpsIn nt b
 | .block _ a=>tmpsIn nt a
 | .loop a=>tmpsIn nt a
 | .rangeFunc _ _ a b=>tmpsIn nt a&&tmpsIn nt b
 | _=>true
def CZ (P:Program)(slots:List Nat):List ResultVar->Option (List pG)
 | []=>some []
 | .tmp t::l=>match idxOf t slots 0,CZ P slots l with
  | some j,some r=>some (.tmp j::r)
  | _,_=>none
 | .cell t ty::l=>match idxOf t slots 0,partT P ty,CZ P slots l with
  | some j,some s,some r=>some (.cell j s::r)
  | _,_,_=>none
def PE (P:Program)(slots:List Nat)(f:FuncId):Option AFn:=
 match P.funcs[f]? with
 | none=>none
 | some fn=>match fn.body with
  | none=>none
  | some c=>match R6 P slots c,CZ P slots fn.results.toList with
   | some b,some r=>
    if tmpsIn fn.ntmps c&&(slots.all λt=>Nat.blt t fn.ntmps)&&Nat.blt slots.length 1152921504606846976&&fn.name != "runtime.NumGoroutine" then
     some ⟨fn.params.size+fn.nfree,(List.range (fn.params.size+fn.nfree)).map λt=>idxOf t slots 0,slots.length,r,b⟩
    else none
   | _,_=>none
section
variable {α β γ:Type}
@[simp] theorem L8 (a:α)(k:α->Option β):ob (some a) k=k a:=rfl
@[simp] theorem ala (k:α->Option β):ob none k=none:=rfl
theorem D6 {o:Option α}{k:α->Option β}{b:β}(h:ob o k=some b):∃a,o=some a∧k a=some b:=by
 cases o with
 | none=>simp at h
 | some a=>exact⟨a,rfl,h⟩
@[simp] theorem U4 (x y:α):bi true x y=x:=rfl
@[simp] theorem P9 (x y:α):bi false x y=y:=rfl
theorem G8 {b:Bool}{x:Option α}{a:α}(h:bi b x none=some a):b=true∧x=some a:=by
 cases b with
 | true=>exact⟨rfl,h⟩
 | false=>simp at h
theorem jW {b:Bool}{x:Option α}{a:α}(h:bi b none x=some a):b=false∧x=some a:=by
 cases b with
 | true=>simp at h
 | false=>exact⟨rfl,h⟩
end
namespace T
variable {α:Type}
@[simp] theorem arU (i:Nat):(T.e:T α).get i=none:=rfl
@[simp] theorem ahM (l:T α)(x:α)(r:T α):(T.nd l x r).get 0=some x:=rfl
theorem dI (l:T α)(x:α)(r:T α)(i:Nat):(T.nd l x r).get (i+1)=if i%2=0 then l.get (i / 2) else r.get (i / 2):=by show (Nat.rec (l.get (Nat.div i 2)) (λ_ _=>r.get (Nat.div i 2)) (Nat.mod i 2):Option α)=_;have h:Nat.mod i 2=i%2:=rfl;rcases aaK i with h0 | h1;rw [h,h0];rfl;rw [h,h1];rfl
@[simp] theorem ahN (i:Nat)(x:α):(T.e:T α).put i x=.nd .e x .e:=rfl
@[simp] theorem ML (l:T α)(y:α)(r:T α)(x:α):(T.nd l y r).put 0 x=.nd l x r:=rfl
theorem Y9 (l:T α)(y:α)(r:T α)(i:Nat)(x:α):(T.nd l y r).put (i+1) x=if i%2=0 then .nd (l.put (i / 2) x) y r else .nd l y (r.put (i / 2) x):=by show (Nat.rec (T.nd (l.put (Nat.div i 2) x) y r) (λ_ _=>T.nd l y (r.put (Nat.div i 2) x)) (Nat.mod i 2):T α)=_;have h:Nat.mod i 2=i%2:=rfl;rcases aaK i with h0 | h1;rw [h,h0];rfl;rw [h,h1];rfl
inductive Ok:T α->Nat->Prop
 | e:Ok .e 0
 | nd {l r:T α} {x:α} {n:Nat} (hl:Ok l ((n+1) / 2)) (hr:Ok r (n / 2)):Ok (.nd l x r) (n+1)
theorem Ok.get {t:T α}{n:Nat}(h:Ok t n):∀i,(∃x,t.get i=some x)↔i<n:=by
 induction h with
 | e=>intro i;simp
 | @nd l r x n hl hr ihl ihr=>
  intro i;cases i with
  | zero=>simp
  | succ i=>rw [dI];split;rw [ihl];omega;rw [ihr];omega
theorem Ok.put {t:T α}{n:Nat}(h:Ok t n):∀i (x:α),i<n->Ok (t.put i x) n:=by
 induction h with
 | e=>intro i x a;omega
 | @nd l r y n hl hr ihl ihr=>
  intro i x a;cases i with
  | zero=>exact .nd hl hr
  | succ i=>rw [Y9];split;exact .nd (ihl _ _ (by omega)) hr;exact .nd hl (ihr _ _ (by omega))
theorem Ok.push {t:T α}{n:Nat}(h:Ok t n):∀(x:α),Ok (t.put n x) (n+1):=by
 induction h with
 | e=>intro x;exact .nd .e .e
 | @nd l r y n hl hr ihl ihr=>intro x;rw [Y9];split;rename_i a;refine .nd ?_ ?_;have:=ihl x;rw [show (n+1) / 2=n / 2 from by omega] at this;rw [show (n+1+1) / 2=n / 2+1 from by omega];exact this;rw [show (n+1) / 2=n / 2 from by omega];exact hr;rename_i a;refine .nd ?_ ?_;rw [show (n+1+1) / 2=(n+1) / 2 from by omega];exact hl;have:=ihr x;rw [show (n+1) / 2=n / 2+1 from by omega];exact this
theorem aY {t:T α}{n:Nat}(h:Ok t n):∀i (x:α),i<=n->(t.put i x).get i=some x:=by
 induction h with
 | e=>intro i x b;obtain rfl:i=0:=by omega
      rfl
 | @nd l r y n hl hr ihl ihr=>
  intro i x b;cases i with
  | zero=>rfl
  | succ i=>rw [Y9];split;rename_i a;rw [dI,if_pos a];exact ihl _ _ (by omega);rename_i a;rw [dI,if_neg a];exact ihr _ _ (by omega)
theorem bH {t:T α}{n:Nat}(h:Ok t n):∀i j (x:α),i<=n->i≠j->(t.put i x).get j=t.get j:=by
 induction h with
 | e=>
  intro i j x b d;obtain rfl:i=0:=by omega
  cases j with
  | zero=>omega
  | succ j=>rw [ahN,dI];simp
 | @nd l r y n hl hr ihl ihr=>
  intro i j x b c;cases i with
  | zero=>
   cases j with
   | zero=>omega
   | succ j=>rw [ML,dI,dI]
  | succ i=>
   rw [Y9];cases j with
   | zero=>split<;>rfl
   | succ j=>split;rename_i a;rw [dI,dI];split;exact ihl _ _ _ (by omega) (by omega);rfl;rename_i a;rw [dI,dI];split;rfl;exact ihr _ _ _ (by omega) (by omega)
theorem tH (x:α)(l:List α)(t:T α)(i:Nat):om (x::l) t i=om l (t.put i x) (i+1):=rfl
theorem GR (l:List α):∀(t:T α) (i:Nat),Ok t i->Ok (om l t i) (i+l.length):=by
 induction l with
 | nil=>intro t i h;exact h
 | cons x l ih=>intro t i h;rw [tH,Y6,show i+(l.length+1)=i+1+l.length from by omega];exact ih _ _ (h.push x)
theorem Ej (l:List α):∀(t:T α) (i:Nat),Ok t i->∀j,(om l t i).get j=if j<i then t.get j else l[j-i]?:=by
 induction l with
 | nil=>
  intro t i h j;show t.get j=_;split;rfl;rename_i a;cases hg:t.get j with
  | none=>simp
  | some x=>exact absurd ((h.get j).1 ⟨x,hg⟩) a
 | cons x l ih=>intro t i h j;rw [tH,ih _ _ (h.push x)];by_cases h1:j<i;rw [if_pos (by omega),if_pos h1,bH h _ _ _ (q9 _) (by omega)];by_cases h2:j=i;subst h2;rw [if_pos (by omega),aY h _ _ (q9 _)];simp;rw [if_neg (by omega),if_neg h1,show j-i=(j-(i+1))+1 from by omega];simp
theorem aD (l:List α)(j:Nat):(ofList l).get j=l[j]?:=by have:=Ej l .e 0 .e j;simpa [ofList] using this
theorem gG (l:List α):Ok (ofList l) l.length:=by have:=GR l .e 0 .e;simpa [ofList] using this
theorem El (x:α)(n:Nat)(t:T α)(i:Nat):rep x (n+1) t i=rep x n (t.put i x) (i+1):=rfl
theorem PG (x:α)(n:Nat):∀(t:T α) (i:Nat),Ok t i->Ok (rep x n t i) (i+n):=by
 induction n with
 | zero=>intro t i h;exact h
 | succ n ih=>intro t i h;rw [El,show i+(n+1)=i+1+n from by omega];exact ih _ _ (h.push x)
theorem Ry (x:α)(n:Nat):∀(t:T α) (i:Nat),Ok t i->∀j,(rep x n t i).get j=if j<i then t.get j else if j<i+n then some x else none:=by
 induction n with
 | zero=>
  intro t i h j;show t.get j=_;split;rfl;rename_i a;rw [if_neg (by omega)];cases hg:t.get j with
  | none=>rfl
  | some y=>exact absurd ((h.get j).1 ⟨y,hg⟩) a
 | succ n ih=>intro t i h j;rw [El,ih _ _ (h.push x)];by_cases h1:j<i;rw [if_pos (by omega),if_pos h1,bH h _ _ _ (q9 _) (by omega)];by_cases h2:j=i;subst h2;rw [if_pos (by omega),aY h _ _ (q9 _),if_neg h1,if_pos (by omega)];rw [if_neg (by omega),if_neg h1];by_cases h3:j<i+1+n;rw [if_pos h3,if_pos (by omega)];rw [if_neg h3,if_neg (by omega)]
theorem Em (t:T α)(i:Nat):t.slice 0 i=some []:=rfl
theorem En (t:T α)(n i:Nat):t.slice (n+1) i=ob (t.get i) λx=>ob (t.slice n (i+1)) λxs=>some (x::xs):=rfl
theorem PI (t:T α)(n:Nat):∀i l,t.slice n i=some l->l.length=n∧∀j,j<n->t.get (i+j)=l[j]?:=by
 induction n with
 | zero=>intro i l h;rw [Em] at h;cases h;simp
 | succ n ih=>
  intro i l h;rw [En] at h;obtain⟨x,d,h⟩:=D6 h;obtain⟨f,a,h⟩:=D6 h;cases h;obtain⟨c,b⟩:=ih _ _ a;refine⟨by simp [c],λj e=>?_⟩;cases j with
  | zero=>simpa using d
  | succ j=>rw [show i+(j+1)=i+1+j from by omega,b j (by omega)];simp
end T
section
variable {α:Type}
@[simp] theorem K4 (l:List α):len' l=l.length:=by
 induction l with
 | nil=>rfl
 | cons x l ih=>show Nat.succ (len' l)=_;rw [ih];rfl
@[simp] theorem R8 (l m:List α):aC l m=l++m:=by
 induction l with
 | nil=>rfl
 | cons x l ih=>show x::aC l m=_;rw [ih];rfl
@[simp] theorem mg (n:Nat):∀l:List α,lW n l=l.drop n:=by
 induction n with
 | zero=>intro l;rfl
 | succ n ih=>
  intro l;cases l with
  | nil=>rfl
  | cons x l=>exact ih l
@[simp] theorem jh (n:Nat):∀l:List α,pI n l=l[n]?:=by
 induction n with
 | zero=>intro l;cases l<;>rfl
 | succ n ih=>
  intro l;cases l with
  | nil=>rfl
  | cons x l=>show pI n l=_;rw [ih];rfl
@[simp] theorem Wj (n:Nat):∀l:List d9,nth n l=l[n]?.getD .undef:=by
 induction n with
 | zero=>intro l;cases l<;>rfl
 | succ n ih=>
  intro l;cases l with
  | nil=>rfl
  | cons x l=>show nth n l=_;rw [ih];rfl
theorem kX (n:Nat):∀(l r:List α),takeN n l=some r->r=l.take n∧n<=l.length:=by
 induction n with
 | zero=>intro l r h;cases h;simp
 | succ n ih=>
  intro l r h;cases l with
  | nil=>cases h
  | cons x l=>
   change ob (takeN n l) (λr=>some (x::r))=some r at h
   obtain⟨d,b,h⟩:=D6 h;cases h;obtain⟨a,c⟩:=ih _ _ b;exact⟨by simp [a],by simp;omega⟩
theorem oI (n:Nat):∀(l:List α),n<=l.length->takeN n l=some (l.take n):=by
 induction n with
 | zero=>intro l _;rfl
 | succ n ih=>
  intro l h;cases l with
  | nil=>simp at h
  | cons x l=>
   change ob (takeN n l) (λr=>some (x::r))=_
   rw [ih l (by simpa using h)];rfl
theorem mh (n:Nat)(a:List α):∀(l:List α),n<=l.length->lX n a l=l.take n++(a++l.drop (n+a.length)):=by
 induction n with
 | zero=>intro l _;show aC a (lW (len' a) l)=_;simp
 | succ n ih=>
  intro l h;cases l with
  | nil=>simp at h
  | cons x l=>show x::lX n a l=_;rw [ih l (by simpa using h),show n+1+a.length=(n+a.length)+1 from by omega];simp
theorem yV (n:Nat)(a l:List α)(h:n+a.length<=l.length):(lX n a l).length=l.length:=by rw [mh n a l (by omega)];simp;omega
theorem Tw (n:Nat)(a l:List α)(h:n+a.length<=l.length)(j:Nat):
  (lX n a l)[j]?=if n<=j∧j<n+a.length then a[j-n]? else l[j]?:=by
 rw [mh n a l (by omega)];rw [List.getElem?_append];simp only [aer,show min n l.length=n from by omega];split;rw [if_neg (by omega),aeP,if_pos (by omega)];rw [List.getElem?_append];split;rw [if_pos (by omega)];rw [if_neg (by omega),ahe];congr 1;omega
end
structure Loc where
 b:Nat
 base:Nat
 cap:Nat
 spot:Option Nat
abbrev J9:=Nat->Loc
def J9.at (ι:J9)(i o:Nat):Addr:=⟨(ι i).b,(ι i).base+o,if o=0 then (ι i).spot else none⟩
theorem J9.yX {ι:J9}{i:Nat}(h:(ι i).spot=none)(o:Nat):ι.at i o=⟨(ι i).b,(ι i).base+o,none⟩:=by simp [J9.at,h]
def jo (ι:J9):Fn->Fn
 | .yield l=>.yield (ι l).b
 | f=>f
mutual
def o8 (ι:J9):d9->Value
 | .undef=>.tuple #[]
 | .bool b=>.bool b
 | .int k n=>.int k n
 | .str s=>.string ⟨s.toArray⟩
 | .nilPtr=>.pointer none
 | .ptr i o=>.pointer (some (ι.at i o))
 | .nilSlice=>.slice none 0 0
 | .slice i o l c=>.slice (some (ι.at i o)) l c
 | .sliceU i o l es=>.slice (some (ι.at i o)) l (((ι i).cap-o) / es)
 | .nilMap=>.map none
 | .map i=>.map (some (ι i).b)
 | .nilFunc=>.nilFunc
 | .func fn a b=>.func (jo ι fn) (u6 ι a).toArray (u6 ι b).toArray
 | .nilIface=>.nilIface
 | .iface t v=>.iface t (o8 ι v)
 | .agg l=>.agg (u6 ι l).toArray
 | .tuple l=>.tuple (u6 ι l).toArray
 | .kP v=>.tuple #[o8 ι v]
def u6 (ι:J9):List d9->List Value
 | []=>[]
 | v::l=>o8 ι v::u6 ι l
end
structure Nm where
 has:Nat->Prop
 cap:Nat->Nat
instance:CoeFun Nm (λ_=>Nat->Prop):=⟨Nm.has⟩
def Nm.le (n m:Nm):Prop:=∀i,n i->m i∧m.cap i=n.cap i
theorem Nm.le_refl (n:Nm):n.le n:=λ_ h=>⟨h,rfl⟩
theorem Nm.le_trans {a b c:Nm}(h:a.le b)(k:b.le c):a.le c:=λi d=>⟨(k i (h i d).1).1,(k i (h i d).1).2.trans (h i d).2⟩
def ZK (n:Nm):Fn->Prop
 | .yield l=>n l
 | _=>True
mutual
def d9.lt (n:Nm):d9->Prop
 | .ptr i _=>n i
 | .slice i _ _ _=>n i
 | .sliceU i o l es=>n i∧1<=es∧o+l*es<=n.cap i
 | .map i=>n i
 | .func fn a b=>ZK n fn∧aU n a∧aU n b
 | .iface _ v=>v.lt n
 | .agg l=>aU n l
 | .tuple l=>aU n l
 | .kP _=>False
 | _=>True
def aU (n:Nm):List d9->Prop
 | []=>True
 | v::l=>v.lt n∧aU n l
end
theorem bA (ι:J9)(l:List d9):u6 ι l=l.map (o8 ι):=by
 induction l with
 | nil=>simp [u6]
 | cons v l ih=>simp [u6,ih]
theorem cB {n:Nm}{l:List d9}:aU n l↔∀v∈l,v.lt n:=by
 induction l with
 | nil=>simp [aU]
 | cons v l ih=>simp [aU,ih]
@[simp] theorem V5 (ι:J9)(l:List d9):(u6 ι l).length=l.length:=by simp [bA]
theorem aL (ι:J9)(l:List d9)(i:Nat):(u6 ι l)[i]?=l[i]?.map (o8 ι):=by simp [bA]
mutual
theorem R4 {n:Nm}{ι ι':J9}(h:∀i,n i->ι' i=ι i):∀v:d9,v.lt n->o8 ι' v=o8 ι v
 | .undef,_ | .bool _,_ | .int _ _,_ | .str _,_ | .nilPtr,_ | .nilSlice,_ | .nilMap,_ | .nilFunc,_ | .nilIface,_=>by simp [o8]
 | .ptr i o,hv=>by simp only [d9.lt] at hv;simp [o8,J9.at,h i hv]
 | .slice i o l c,hv=>by simp only [d9.lt] at hv;simp [o8,J9.at,h i hv]
 | .sliceU i o l c,hv=>by simp only [d9.lt] at hv;simp [o8,J9.at,h i hv.1]
 | .map i,hv=>by simp only [d9.lt] at hv;simp [o8,h i hv]
 | .func fn a b,hv=>by
  simp only [d9.lt] at hv;obtain⟨hf,ha,hb⟩:=hv;have e:jo ι' fn=jo ι fn:=by cases fn<;>simp_all [jo,ZK]
  simp [o8,e,fA h a ha,fA h b hb]
 | .iface t v,hv=>by simp only [d9.lt] at hv;simp [o8,R4 h v hv]
 | .agg l,hv=>by simp only [d9.lt] at hv;simp [o8,fA h l hv]
 | .tuple l,hv=>by simp only [d9.lt] at hv;simp [o8,fA h l hv]
 | .kP v,hv=>by simp only [d9.lt] at hv
theorem fA {n:Nm}{ι ι':J9}(h:∀i,n i->ι' i=ι i):∀l:List d9,aU n l->u6 ι' l=u6 ι l
 | [],_=>by simp [u6]
 | v::l,hl=>by simp only [aU] at hl;simp [u6,R4 h v hl.1,fA h l hl.2]
end
mutual
theorem d9.O0 {n m:Nm}(h:n.le m):∀v:d9,v.lt n->v.lt m
 | .undef,_ | .bool _,_ | .int _ _,_ | .str _,_ | .nilPtr,_ | .nilSlice,_ | .nilMap,_ | .nilFunc,_ | .nilIface,_=>by simp [d9.lt]
 | .ptr i o,hv=>by simp only [d9.lt] at *;exact (h _ hv).1
 | .slice i o l c,hv=>by simp only [d9.lt] at *;exact (h _ hv).1
 | .sliceU i o l c,hv=>by simp only [d9.lt] at *;exact⟨(h _ hv.1).1,hv.2.1,by rw [(h _ hv.1).2];exact hv.2.2⟩
 | .map i,hv=>by simp only [d9.lt] at *;exact (h _ hv).1
 | .func fn a b,hv=>by simp only [d9.lt] at *;exact⟨by cases fn<;>first | trivial | exact (h _ hv.1).1,dJ h a hv.2.1,dJ h b hv.2.2⟩
 | .iface t v,hv=>by simp only [d9.lt] at *;exact d9.O0 h v hv
 | .agg l,hv=>by simp only [d9.lt] at *;exact dJ h l hv
 | .tuple l,hv=>by simp only [d9.lt] at *;exact dJ h l hv
 | .kP v,hv=>by simp only [d9.lt] at hv
theorem dJ {n m:Nm}(h:n.le m):∀l:List d9,aU n l->aU m l
 | [],_=>by simp [aU]
 | v::l,hl=>by simp only [aU] at *;exact⟨d9.O0 h v hl.1,dJ h l hl.2⟩
end
theorem kY (ι:J9)(v:d9):(o8 ι v).cells=(u6 ι v.cells).toArray:=by cases v<;>simp [o8,Value.cells,d9.cells,u6]
theorem uJ {n:Nm}{v:d9}(h:v.lt n):aU n v.cells:=by cases v<;>simp_all [d9.lt,d9.cells,aU]
mutual
theorem nG (ι:J9):∀(v:Value) (a:d9),ofValue v=some a->o8 ι a=v∧∀n,a.lt n
 | .bool b,a,h=>by simp only [ofValue,J4] at h;subst h;simp [o8,d9.lt]
 | .int k n,a,h=>by simp only [ofValue,J4] at h;subst h;simp [o8,d9.lt]
 | .string s,a,h=>by simp only [ofValue,J4] at h;subst h;simp [o8,d9.lt]
 | .pointer none,a,h=>by simp only [ofValue,J4] at h;subst h;simp [o8,d9.lt]
 | .pointer (some _),a,h=>by simp [ofValue] at h
 | .slice none 0 0,a,h=>by simp only [ofValue,J4] at h;subst h;simp [o8,d9.lt]
 | .slice (some _) _ _,a,h=>by simp [ofValue] at h
 | .slice none (_+1) _,a,h=>by simp [ofValue] at h
 | .slice none 0 (_+1),a,h=>by simp [ofValue] at h
 | .map none,a,h=>by simp only [ofValue,J4] at h;subst h;simp [o8,d9.lt]
 | .map (some _),a,h=>by simp [ofValue] at h
 | .nilFunc,a,h=>by simp only [ofValue,J4] at h;subst h;simp [o8,d9.lt]
 | .nilIface,a,h=>by simp only [ofValue,J4] at h;subst h;simp [o8,d9.lt]
 | .func (.func f) ⟨[]⟩ ⟨[]⟩,a,h=>by simp only [ofValue,J4] at h;subst h;simp [o8,d9.lt,jo,u6,ZK,aU]
 | .func (.func f) ⟨_ :: _⟩ _,a,h=>by simp [ofValue] at h
 | .func (.func f) ⟨[]⟩ ⟨_ :: _⟩,a,h=>by simp [ofValue] at h
 | .func (.method _) _ _,a,h=>by simp [ofValue] at h
 | .func (.methodOf _ _) _ _,a,h=>by simp [ofValue] at h
 | .func (.via _ _ _ _) _ _,a,h=>by simp [ofValue] at h
 | .func (.yield _) _ _,a,h=>by simp [ofValue] at h
 | .agg ⟨l⟩,a,h=>by
  simp only [ofValue] at h;cases hx:ofValues l with
  | none=>simp [hx] at h
  | some x=>simp only [hx,J4] at h;subst h;obtain⟨h1,h2⟩:=uK ι l x hx;simp [o8,d9.lt,h1];exact h2
 | .tuple ⟨[]⟩,a,h=>by simp only [ofValue,J4] at h;subst h;simp [o8,d9.lt,u6,aU]
 | .tuple ⟨_ :: _⟩,a,h=>by simp [ofValue] at h
 | .float _ _,a,h=>by simp [ofValue] at h
 | .complex _ _ _,a,h=>by simp [ofValue] at h
 | .chan _,a,h=>by simp [ofValue] at h
 | .iface _ _,a,h=>by simp [ofValue] at h
theorem uK (ι:J9):∀(l:List Value) (x:List d9),ofValues l=some x->u6 ι x=l∧∀n,aU n x
 | [],x,h=>by simp only [ofValues,J4] at h;subst h;simp [u6,aU]
 | v::l,x,h=>by
  simp only [ofValues] at h;cases hv:ofValue v with
  | none=>simp [hv] at h
  | some a=>
   cases hl:ofValues l with
   | none=>simp [hv,hl] at h
   | some y=>simp only [hv,hl,J4] at h;subst h;obtain⟨h1,h2⟩:=nG ι v a hv;obtain⟨h3,h4⟩:=uK ι l y hl;simp [u6,aU,h1,h3];exact λn=>⟨h2 n,h4 n⟩
end
theorem adU:∀(n j:Nat) (t:T d9),j+1<2^n->way n j t=(t.get j).getD .undef:=by
 intro n;induction n with
 | zero=>intro j t h;simp at h
 | succ n ih=>
  intro j t h;cases j with
  | zero=>cases t<;>rfl
  | succ j=>
   have a:j / 2+1<2^n:=by rw [aj6] at h;omega
   rcases aaK j with h0 | h0;simp only [way,h0];cases t with
   | e=>rfl
   | nd l x r=>rw [T.dI,if_pos h0];exact ih _ l a
   simp only [way,h0];cases t with
   | e=>rfl
   | nd l x r=>rw [T.dI,if_neg (by omega)];exact ih _ r a
theorem ZL (v:d9):∀(n j:Nat) (t:T d9) (x:d9),j+1<2^n->t.get j=some x->uw n j v t=t.put j v:=by
 intro n;induction n with
 | zero=>intro j t x h;simp at h
 | succ n ih=>
  intro j t x h a;cases t with
  | e=>simp at a
  | nd l y r=>
   cases j with
   | zero=>rfl
   | succ j=>have b:j / 2+1<2^n:=(by rw [aj6] at h;omega);rw [T.dI] at a;rcases aaK j with h0 | h0;rw [if_pos h0] at a;simp only [uw,h0];rw [T.Y9,if_pos h0];show T.nd (uw n (j / 2) v l) y r=_;rw [ih _ l x b a];rw [if_neg (by omega)] at a;simp only [uw,h0];rw [T.Y9,if_neg (by omega)];show T.nd l y (uw n (j / 2) v r)=_;rw [ih _ r x b a]
theorem uL {t:Nat}{l:List Nat}{i j:Nat}(h:idxOf t l i=some j):i<=j∧j<i+l.length∧l[j-i]?=some t:=by
 induction l generalizing i with
 | nil=>simp [idxOf] at h
 | cons x l ih=>
  simp only [idxOf] at h;cases hx:Nat.beq x t with
  | true=>simp only [hx,cond_true,J4] at h;subst h;have:=gI hx;simp [this]
  | false=>simp only [hx,cond_false] at h;obtain⟨b,c,a⟩:=ih h;refine⟨by omega,by simp;omega,?_⟩;rw [show j-i=(j-(i+1))+1 from by omega];simpa using a
theorem Tx {t u:Nat}{l:List Nat}{i j:Nat}(h:idxOf t l i=some j)(h':idxOf u l i=some j):t=u:=by have a:=(uL h).2.2;have b:=(uL h').2.2;rw [a] at b;exact Y5 b
structure U6 (ι:J9)(n:Nm)(slots:List Nat)(env:T d9)(tmps:Array Value):Prop where
 ok:T.Ok env slots.length
 small:slots.length<2^60
 val:∀t j,idxOf t slots 0=some j->t<tmps.size∧∃v,env.get j=some v∧v.lt n∧tmps.getD t undef=o8 ι v
theorem U6.mono {ι ι':J9}{n c:Nm}{a:List Nat}{env:T d9}{tmps:Array Value}(h:U6 ι n a env tmps)
  (g:∀i,n i->ι' i=ι i) (k:n.le c):U6 ι' c a env tmps:=
 ⟨h.ok,h.small,λt j l=>by
  obtain⟨d,v,e,b,f⟩:=h.val t j l;exact⟨d,v,e,v.O0 k b,by rw [f,R4 g v b]⟩⟩
theorem aX (a:Array Value)(i j:Nat)(v:Value)(b:i<a.size):
  (a.setIfInBounds i v).getD j undef=if i=j then v else a.getD j undef:=by
 rw [Xb,Xb];by_cases h:i=j;subst h;rw [if_pos rfl,Y7 b];rfl;rw [if_neg h,Y3 h]
theorem U6.put {ι:J9}{n:Nm}{a:List Nat}{env:T d9}{tmps:Array Value}(h:U6 ι n a env tmps)(d:Option Tmp){v:d9}(w:v.lt n):
  U6 ι n a (dh (GQ a d) v env) (match d with | some t=>tmps.setIfInBounds t (o8 ι v) | none=>tmps):=by
 cases d with
 | none=>exact h
 | some t=>
  simp only [GQ];cases ht:idxOf t a 0 with
  | none=>
   refine⟨h.ok,h.small,λu j b=>?_⟩;obtain⟨f,l,g,s,m⟩:=h.val u j b;refine⟨by simpa using f,l,g,s,?_⟩;have i:t≠u:=λe=>by subst e;rw [ht] at b;cases b
   by_cases hts:t<tmps.size;rw [aX _ _ _ _ hts,if_neg i];exact m;rw [show tmps.setIfInBounds t (o8 ι v)=tmps from ahF (ad9 hts)];exact m
  | some k=>
   obtain⟨f,x,g,_,_⟩:=h.val t k ht;have y:=(uL ht).2.1
   have c:dh (some k) v env=env.put k v:=ZL v 64 k env x (by have:=h.small;have:(2:Nat)^60<2^64:=by decide
                                                             omega) g
   rw [c];refine⟨h.ok.put _ _ (by omega),h.small,λu j b=>?_⟩;obtain⟨o,l,p,q,r⟩:=h.val u j b;refine⟨by simpa using o,?_⟩;rw [aX _ _ _ _ f];by_cases he:t=u;subst he;rw [ht] at b;cases b;exact⟨v,T.aY h.ok _ _ (by omega),w,by simp⟩;refine⟨l,?_,q,by rw [if_neg he];exact r⟩;rw [T.bH h.ok _ _ _ (by omega) (λe=>he (by subst e;exact Tx ht b))];exact p
def U7:P8->Bool
 | .cells .. | .map _ | .iter .. | .loop .. | .deferred | .siter .. | .buf .. | .mapU _=>true
 | _=>false
def exitCode:bQ->Code
 | .normal=>.skip
 | .exit id=>.exit id
 | .ret=>.ret
section
variable (P:Program)
structure xR (ι:J9)(n:Nm)(L:Loop)(st:LoopState)(pend:Option bQ)(env:T d9)(params:List (Option Nat))(assign body:U8):Prop where
 state:L.state=st
 pending:L.pending=pend.map exitCode
 code:∃slots,U6 ι n slots env L.tmps∧params=L.params.toList.map (λt=>idxOf t slots 0)∧R6 P slots L.assign=some assign∧R6 P slots L.body=some body∧
  ∃nt,nt<=L.tmps.size∧tmpsIn nt L.assign=true∧tmpsIn nt L.body=true
def I9 (ι:J9):List (d9×d9)->Nat->List MapEntry
 | [],_=>[]
 | e::es,i=>{key:=o8 ι e.1,val:=o8 ι e.2,born:=i}::I9 ι es (i+1)
def Wl (P:Program)(l:Loc)(e:TypeId)(sz k:Nat)(rows:T (List d9)):Prop:=∀ty,k=1->Ib rows=some ty->e=ty∧l.base=0∧sz=P.cellsOf ty
theorem xS {P:Program}{l:Loc}{e:TypeId}{c k:Nat}{rows:T (List d9)}(h:k=1->rows.get 1=none):Wl P l e c k rows:=λd b a=>by unfold Ib at a;rw [h b] at a;cases a
theorem uM {P:Program}{l:Loc}{e:TypeId}{b k:Nat}{rows:T (List d9)}(h:T.Ok rows k):Wl P l e b k rows:=xS λa=>by
 subst a;cases hg:rows.get 1 with
 | none=>rfl
 | some x=>exact absurd ((h.get 1).1 ⟨x,hg⟩) (by omega)
theorem Tz {rows:T (List d9)}{N i:Nat}(h:T.Ok rows N)(b:i<=N)(a:i≠1)(r:List d9):Ib (rows.put i r)=Ib rows:=by unfold Ib;rw [T.bH h _ _ _ b a]
def UOk (ι:J9)(es:List (d9×d9))(L:List MapEntry):Prop:=
 (L.map λx=>(x.key,x.val)).Perm (es.map λe=>(o8 ι e.1,o8 ι e.2))∧(∀e∈es,∃s,e.1=.str s)∧(es.map (·.1)).Nodup
def dK (ι:J9)(n:Nm)(h:Array Obj)(l:Loc):P8->Prop
 | .void=>True
 | .dead=>True
 | .cells rs k rows=>∃c e fz,h[l.b]?=some (.cells c e fz)∧l.base+l.cap<=c.size∧(k*rs<=l.cap∧∃N,k<=N∧T.Ok rows N∧Wl P l e c.size k rows)∧
   ∀i,i<k->∃row,rows.get i=some row∧row.length=rs∧aU n row∧∀j,j<rs->c[l.base+(i*rs+j)]?=(row[j]?).map (o8 ι)
 | .map es=>h[l.b]?=some (.map (I9 ι es 0).toArray es.length)∧∀e∈es,e.1.lt n∧e.2.lt n
 | .iter mp since seen=>l.base=0∧(∀x,mp=some x->n x)∧∃sn st,h[l.b]?=some (.mapIter (mp.map λx=>(ι x).b) since sn st)∧sn.toList.reverse=seen∧(mp≠none->st=since)
 | .tail p=>n p∧(l.cap=0∨(l.b=(ι p).b∧l.base+l.cap<=(ι p).base+(ι p).cap∧((ι p).spot=none->l.spot=none)))
 | .loop st pend env params assign body=>∃L,h[l.b]?=some (.loop L)∧xR P ι n L st pend env params assign body
 | .deferred=>h[l.b]?=some (.deferred (some []))
 | .siter s pos=>l.base=0∧h[l.b]?=some (.stringIter ⟨s.toArray⟩ pos)
 | .buf ty s=>l.base=0∧∃c fz,h[l.b]?=some (.cells c ty fz)∧s.length<=l.cap∧l.cap<=c.size∧∀(j:Nat) (b:UInt8),s[j]?=some b->c[j]?=some (Value.int .u8 (b.toNat:Int))
 | .mapU es=>∃L ck,h[l.b]?=some (.map L.toArray ck)∧UOk ι es L∧∀e∈es,e.1.lt n∧e.2.lt n
structure amV (ι:J9)(m:Mem)(h:Array Obj)(i:Nat):Prop where
 alone:∀j b,j≠i->m.get j=some b->U7 b=true->(ι j).b≠(ι i).b
 free:∀c e fz,h[(ι i).b]?=some (.cells c e fz)->∀k,k<c.size->¬ (fz.1<=k∧k<fz.2)
def cO:P8->Bool
 | .void=>true
 | _=>false
def Mem.has (m:Mem)(i:Nat):Prop:=∃b,m.get i=some b∧cO b=false
def Mem.nm (m:Mem)(ι:J9):Nm:=⟨m.has,λi=>(ι i).cap⟩
theorem Mem.aB {m m':Mem}{ι ι':J9}(h:∀i,m.has i->m'.has i)(b:∀i,m.has i->ι' i=ι i):(m.nm ι).le (m'.nm ι'):=
 λi a=>⟨h i a,congrArg Loc.cap (b i a)⟩
def GSz (P:Program)(G:Mem)(h:Array Obj):Prop:=∀i rs k rows,i<P.globals.size->G.get i=some (.cells rs k rows)->∃c e fz,h[i]?=some (.cells c e fz)∧c.size=k*rs
structure RM (G:Mem)(ι:J9)(m:Mem)(h:Array Obj):Prop where
 ok:T.Ok m.t m.nx
 blk:∀i b,m.get i=some b->dK P ι (m.nm ι) h (ι i) b
 own:∀i b,m.lim<=i->m.get i=some b->U7 b=true->amV ι m h i
 glim:G.nx<=m.lim
 limn:m.lim<=m.nx
 gle:P.globals.size<=G.nx
 base:∀i,i<G.nx->m.get i=G.get i
 ghas:∀i,i<P.globals.size->m.has i
 glob:∀i,i<P.globals.size->(ι i).b=i∧(ι i).base=0∧(ι i).spot=none
 spot:∀i b,m.get i=some b->U7 b=true->(ι i).spot=none
 gsz:GSz P G h
end
def MN (ι:J9)(m:Mem)(b:Nat):Prop:=∃i x,m.lim<=i∧m.get i=some x∧U7 x=true∧(ι i).b=b
theorem RM.MO {P:Program}{G:Mem}{ι:J9}{m:Mem}{h h':Array Obj}(d:RM P G ι m h)(u:∀b,b<h.size->¬ MN ι m b->h'[b]?=h[b]?):GSz P G h':=by
 intro i r k a g q;obtain⟨c,e,s,p,t⟩:=d.gsz i r k a g q;have l:i<h.size:=(U9.1 p).1;have f:i<G.nx:=gq g d.gle;have n:m.get i=some (.cells r k a):=(d.base i f).trans q;refine⟨c,e,s,?_,t⟩;rw [u i l];exact p;rintro⟨j,x,hj,hx,hlx,hb⟩;have o:i≠j:=by have:=d.glim;omega
 exact (d.own j x hj hx hlx).alone i _ o n rfl (by rw [(d.glob i g).1,hb])
structure Step (P:Program)(G:Mem)(ι:J9)(m:Mem)(w:World)(ι':J9)(m':Mem)(w':World):Prop where
 rm:RM P G ι' m' w'.heap
 ext:∀i,m.has i->ι' i=ι i
 has:∀i,m.has i->m'.has i
 nx:m.nx<=m'.nx
 lim:m'.lim=m.lim
 old:∀i,i<m.lim->m'.get i=m.get i
 size:w.heap.size<=w'.heap.size
 frame:∀b,b<w.heap.size->¬ MN ι m b->w'.heap[b]?=w.heap[b]?
 own:∀b,MN ι' m' b->MN ι m b∨w.heap.size<=b
 os:w'.os=w.os
 out:w'.output=w.output
 tape:w'.tape=w.tape
theorem Step.refl {P:Program}{G:Mem}{ι:J9}{m:Mem}{w:World}(h:RM P G ι m w.heap):Step P G ι m w ι m w:=
 ⟨h,λ_ _=>rfl,λ_ h=>h,q9 _,rfl,λ_ _=>rfl,q9 _,λ_ _ _=>rfl,λ_ h=>.inl h,rfl,rfl,rfl⟩
theorem Step.drew {P:Program}{G:Mem}{ι:J9}{m:Mem}{w:World}(h:RM P G ι m w.heap)(n:Nat):Step P G ι m w ι m {w with drawn:=n}:=
 ⟨h,λ_ _=>rfl,λ_ h=>h,q9 _,rfl,λ_ _=>rfl,q9 _,λ_ _ _=>rfl,λ_ h=>.inl h,rfl,rfl,rfl⟩
theorem Step.trans {P:Program}{G:Mem}{c d e:J9}{f g j:Mem}{k l m:World}(a:Step P G c f k d g l)(b:Step P G d g l e j m):
  Step P G c f k e j m where
 rm:=b.rm
 ext i hi:=(b.ext i (a.has i hi)).trans (a.ext i hi)
 has i hi:=b.has i (a.has i hi)
 nx:=aA a.nx b.nx
 lim:=b.lim.trans a.lim
 old i hi:=(b.old i (by rw [a.lim];exact hi)).trans (a.old i hi)
 size:=aA a.size b.size
 frame x hx ho:=by refine (b.frame x (gq hx a.size) λh=>?_).trans (a.frame x hx ho);rcases a.own x h with h | h;exact ho h;omega
 own x h:=by rcases b.own x h with h | h;exact a.own x h;exact .inr (aA a.size h)
 os:=b.os.trans a.os
 out:=b.out.trans a.out
 tape:=b.tape.trans a.tape
theorem Step.o8 {P:Program}{G:Mem}{ι ι':J9}{m m':Mem}{w w':World}(a:Step P G ι m w ι' m' w'){v:d9}(h:v.lt (m.nm ι)):AM.o8 ι' v=AM.o8 ι v:=
 R4 (n:=m.nm ι) a.ext v h
theorem Step.env {P:Program}{G:Mem}{ι ι':J9}{m m':Mem}{w w':World}(a:Step P G ι m w ι' m' w'){b:List Nat}{env:T d9}{tmps:Array Value}
  (h:U6 ι (m.nm ι) b env tmps):U6 ι' (m'.nm ι') b env tmps:=h.mono (n:=m.nm ι) a.ext (Mem.aB a.has a.ext)
theorem xR.mono {P:Program}{ι ι':J9}{n e:Nm}{L:Loop}{f:LoopState}{c:Option bQ}{env:T d9}{b:List (Option Nat)}{a body:U8}
  (h:xR P ι n L f c env b a body) (m:∀i,n i->ι' i=ι i) (o:n.le e):xR P ι' e L f c env b a body:=by
 obtain⟨g,j,d,k,l⟩:=h;exact⟨g,j,d,k.mono m o,l⟩
theorem wV {ι ι':J9}{n:Nm}(hi:∀i,n i->ι' i=ι i):∀(es:List (d9×d9)) (i:Nat),(∀e∈es,e.1.lt n∧e.2.lt n)->I9 ι' es i=I9 ι es i
 | [],_,_=>rfl
 | e::es,i,h=>by simp only [I9];rw [R4 hi _ (h e (by simp)).1,R4 hi _ (h e (by simp)).2,wV hi es (i+1) (λe he=>h e (by simp [he]))]
@[simp] theorem Eo (ι:J9):∀(es:List (d9×d9)) (i:Nat),(I9 ι es i).length=es.length
 | [],_=>rfl
 | e::es,i=>by simp [I9,Eo ι es]
theorem mo (ι:J9):∀(es:List (d9×d9)) (i j:Nat),(I9 ι es i)[j]?=(es[j]?).map λe=>{key:=o8 ι e.1,val:=o8 ι e.2,born:=i+j}
 | [],_,_=>by simp [I9]
 | e::es,i,0=>by simp [I9]
 | e::es,i,j+1=>by simp [I9,mo ι es,show i+1+j=i+(j+1) from by omega]
theorem dK.mono {P:Program}{ι ι':J9}{n A:Nm}{h h':Array Obj}{l:Loc}{b:P8}(hb:dK P ι n h l b)
  (o:∀i,n i->ι' i=ι i) (m:n.le A) (g:U7 b=true->h'[l.b]?=h[l.b]?):dK P ι' A h' l b:=by
 cases b with
 | void=>trivial
 | dead=>trivial
 | cells rs k rows=>
  obtain⟨c,e,w,a,d,r,t⟩:=hb;refine⟨c,e,w,by rw [g rfl];exact a,d,r,λi H=>?_⟩;obtain⟨q,D,E,z,F⟩:=t i H;refine⟨q,D,E,dJ m q z,λj G=>?_⟩;rw [F j G];cases hr:q[j]? with
  | none=>rfl
  | some v=>simp [R4 o v (cB.1 z v (Y2 hr))]
 | map es=>obtain⟨a,d⟩:=hb;refine⟨?_,λe f=>⟨e.1.O0 m (d e f).1,e.2.O0 m (d e f).2⟩⟩;rw [g rfl,a,wV o es 0 d]
 | iter mp since seen=>
  obtain⟨y,a,J,B,d,r,t⟩:=hb;refine⟨y,λx I=>(m x (a x I)).1,J,B,?_,r,t⟩;rw [g rfl,d];cases mp with
  | none=>rfl
  | some x=>simp [o x (a x rfl)]
 | tail p=>obtain⟨a,d⟩:=hb;exact⟨(m p a).1,by rw [o p a];exact d⟩
 | loop B pend env params assign body=>obtain⟨L,a,d⟩:=hb;exact⟨L,by rw [g rfl];exact a,d.mono o m⟩
 | deferred=>exact (g rfl).trans hb
 | siter s pos=>exact⟨hb.1,(g rfl).trans hb.2⟩
 | buf ty s=>obtain⟨y,c,w,a,d⟩:=hb;exact⟨y,c,w,(g rfl).trans a,d⟩
 | mapU es=>
  obtain⟨L,C,a,⟨d,r,t⟩,u⟩:=hb;refine⟨L,C,(g rfl).trans a,⟨?_,r,t⟩,λe f=>⟨e.1.O0 m (u e f).1,e.2.O0 m (u e f).2⟩⟩;have:es.map (λe=>(o8 ι' e.1,o8 ι' e.2))=es.map λe=>(o8 ι e.1,o8 ι e.2):=aiR λe f=>by rw [R4 o _ (u e f).1,R4 o _ (u e f).2]
  rw [this];exact d
theorem Mem.L9 {m:Mem}(h:T.Ok m.t m.nx)(b:P8)(i:Nat):(m.new b).get i=if i=m.nx then some b else m.get i:=by show (m.t.put m.nx b).get i=_;split;rename_i e;subst e;exact T.aY h _ _ (q9 _);rename_i e;exact T.bH h _ _ _ (q9 _) (λh=>e h.symm)
theorem Mem.V9 {m:Mem}(h:T.Ok m.t m.nx){j:Nat}(a:j<m.nx)(b:P8)(i:Nat):(m.set j b).get i=if i=j then some b else m.get i:=by show (m.t.put j b).get i=_;split;rename_i e;subst e;exact T.aY h _ _ (ahj a);rename_i e;exact T.bH h _ _ _ (ahj a) (λh=>e h.symm)
theorem Mem.J5 {m:Mem}(h:T.Ok m.t m.nx){i:Nat}{b:P8}(a:m.get i=some b):i<m.nx:=(h.get i).1 ⟨b,a⟩
@[simp] theorem Mem.MP (m:Mem)(b:P8):(m.new b).nx=m.nx+1:=rfl
@[simp] theorem Mem.ZM (m:Mem)(b:P8):(m.new b).lim=m.lim:=rfl
@[simp] theorem Mem.ahO (m:Mem)(i:Nat)(b:P8):(m.set i b).nx=m.nx:=rfl
@[simp] theorem Mem.alb (m:Mem)(i:Nat)(b:P8):(m.set i b).lim=m.lim:=rfl
def J9.upd (ι:J9)(i:Nat)(l:Loc):J9:=λj=>if j=i then l else ι j
@[simp] theorem J9.Z0 (ι:J9)(i:Nat)(l:Loc):ι.upd i l i=l:=by simp [J9.upd]
theorem J9.upd_ne (ι:J9){i j:Nat}(l:Loc)(h:j≠i):ι.upd i l j=ι j:=by simp [J9.upd,h]
theorem eO {P:Program}{ι:J9}{n:Nm}{h:Array Obj}{l:Loc}{b:P8}(hb:dK P ι n h l b)(d:U7 b=true):l.b<h.size:=by
 cases b with
 | void=>cases d
 | dead=>cases d
 | tail=>cases d
 | cells rs k rows=>obtain⟨c,e,f,a,_⟩:=hb;exact (U9.1 a).1
 | map es=>obtain⟨a,_⟩:=hb;exact (U9.1 a).1
 | iter mp since seen=>obtain⟨_,_,i,j,a,_⟩:=hb;exact (U9.1 a).1
 | loop=>obtain⟨L,a,_⟩:=hb;exact (U9.1 a).1
 | deferred=>exact (U9.1 hb).1
 | siter s pos=>exact (U9.1 hb.2).1
 | buf ty s=>obtain⟨_,c,f,a,_⟩:=hb;exact (U9.1 a).1
 | mapU es=>obtain⟨L,g,a,_⟩:=hb;exact (U9.1 a).1
structure Laid (m m':Mem)(nid:Nat)(b:P8):Prop where
 ok:T.Ok m'.t m'.nx
 get:∀i,m'.get i=if i=nid then some b else m.get i
 lim:m'.lim=m.lim
 nx:m.nx<=m'.nx
 le:m.lim<=nid
 free:¬ m.has nid
 live:cO b=false
theorem Laid.new {m:Mem}(h:T.Ok m.t m.nx)(a:m.lim<=m.nx)(b:P8)(hb:cO b=false):Laid m (m.new b) m.nx b:=
 ⟨h.push b,Mem.L9 h b,rfl,amc _,a,λ⟨_,h1,_⟩=>ahp _ (Mem.J5 h h1),hb⟩
theorem Laid.set {m:Mem}(h:T.Ok m.t m.nx){i:Nat}(a:m.get i=some .void)(c:m.lim<=i)(b:P8)(hb:cO b=false):Laid m (m.set i b) i b:=
 ⟨h.put i b (Mem.J5 h a),Mem.V9 h (Mem.J5 h a) b,rfl,q9 _,c,λ⟨_,h1,h2⟩=>(by rw [a] at h1;cases h1;cases h2),hb⟩
theorem Laid.has {m m':Mem}{nid:Nat}{b:P8}(h:Laid m m' nid b)(i:Nat)(c:m.has i):m'.has i:=by have a:i≠nid:=λe=>h.free (e▸c);obtain⟨x,d,f⟩:=c;exact⟨x,by rw [h.get,if_neg a];exact d,f⟩
theorem Laid.self {m m':Mem}{nid:Nat}{b:P8}(h:Laid m m' nid b):m'.has nid:=⟨b,by rw [h.get,if_pos rfl],h.live⟩
theorem qO {m:Mem}{i:Nat}{b:P8}(h:m.get i=some b)(a:U7 b=true):m.has i:=⟨b,h,by cases b<;>first | rfl | cases a⟩
structure Wm (w w':World)(o:Obj):Prop where
 heap:w'.heap=w.heap.push o
 os:w'.os=w.os
 out:w'.output=w.output
 tape:w'.tape=w.tape
theorem Step.lay {P:Program}{G:Mem}{ι:J9}{m m':Mem}{w w':World}(h:RM P G ι m w.heap){s:Nat}{b:P8}(a:Laid m m' s b){o:Obj}(z:Wm w w' o){l:Loc}
  (D:l.b=w.heap.size) (hs:l.spot=none)
  (hb:dK P (ι.upd s l) (m'.nm (ι.upd s l)) (w.heap.push o) l b)
  (J:∀c e fz,o=.cells c e fz->∀k,k<c.size->¬ (fz.1<=k∧k<fz.2)):
  Step P G ι m w (ι.upd s l) m' w':=by
 have r:∀i x,m.get i=some x->U7 x=true->(ι i).b<w.heap.size:=λi x f d=>eO (h.blk i x f) d;have g:∀k,k<w.heap.size->w'.heap[k]?=w.heap[k]?:=λk C=>by rw [z.heap];exact ahG C |>.trans (aaE C).symm
 have p:∀j,m.has j->ι.upd s l j=ι j:=λj B=>ι.upd_ne l λe=>a.free (e▸B);refine⟨⟨a.ok,?_,?_,by rw [a.lim];exact h.glim,by rw [a.lim];exact aA h.limn a.nx,h.gle,λi q=>by rw [a.get,if_neg (by have:=a.le;have:=h.glim;omega)];exact h.base i q,λi q=>a.has i (h.ghas i q),?_,?_,h.MO λk C _=>g k C⟩,p,a.has,a.nx,a.lim,?_,by rw [z.heap];simp,?_,?_,z.os,z.out,z.tape⟩;intro i x f;rw [a.get] at f;split at f;rename_i e;subst e;cases f;rw [z.heap];simpa using hb;rename_i e;rw [ι.upd_ne l e];exact (h.blk i x f).mono (n:=m.nm ι) p (Mem.aB a.has p) (λd=>g _ (r i x f d));intro i x q f d;rw [a.lim] at q;rw [a.get] at f;split at f;rename_i e;subst e;cases f;refine⟨λj y B A v=>?_,λc e fz u=>?_⟩;rw [a.get,if_neg B] at A;rw [ι.upd_ne l B,ι.Z0,D];have:=r j y A v;omega;rw [ι.Z0,D,z.heap] at u;simp at u;exact J c e fz u;rename_i e;have H:=h.own i x q f d;have t:=r i x f d;refine⟨λj y B A v=>?_,λc I fz u=>?_⟩;rw [ι.upd_ne l e];rw [a.get] at A;split at A;rename_i E;subst E;cases A;rw [ι.Z0,D];omega;rename_i E;rw [ι.upd_ne l E];exact H.alone j y B A v;rw [ι.upd_ne l e] at u;rw [g _ t] at u;exact H.free c I fz u;intro i q;rw [p i (h.ghas i q)];exact h.glob i q;intro i x f d;rw [a.get] at f;split at f;rename_i e;subst e;rw [ι.Z0];exact hs;rename_i e;rw [ι.upd_ne l e];exact h.spot i x f d;intro i q;rw [a.get,if_neg (by have:=a.le;omega)];intro F t _;exact g F t;rintro F ⟨i,x,q,f,d,rfl⟩;rw [a.lim] at q;rw [a.get] at f;split at f;rename_i e;subst e;right;rw [ι.Z0,D];exact q9 _;rename_i e;left;rw [ι.upd_ne l e];exact⟨i,x,q,f,d,rfl⟩
theorem Step.name {P:Program}{G:Mem}{ι:J9}{m m':Mem}{w:World}(h:RM P G ι m w.heap){o:Nat}{b:P8}(d:Laid m m' o b)(D:U7 b=false){l:Loc}
  (hb:dK P (ι.upd o l) (m'.nm (ι.upd o l)) w.heap l b):Step P G ι m w (ι.upd o l) m' w:=by
 have g:∀j,m.has j->ι.upd o l j=ι j:=λj t=>ι.upd_ne l λe=>d.free (e▸t);have p:∀i x,m'.get i=some x->U7 x=true->i≠o∧m.get i=some x:=λi x f a=>by rw [d.get] at f;split at f;cases f;rw [D] at a;cases a;exact⟨by assumption,f⟩
 refine⟨⟨d.ok,?_,?_,by rw [d.lim];exact h.glim,by rw [d.lim];exact aA h.limn d.nx,h.gle,λi k=>by rw [d.get,if_neg (by have:=d.le;have:=h.glim;omega)];exact h.base i k,λi k=>d.has i (h.ghas i k),?_,?_,h.gsz⟩,g,d.has,d.nx,d.lim,?_,q9 _,λ_ _ _=>rfl,?_,rfl,rfl,rfl⟩;intro i x f;rw [d.get] at f;split at f;rename_i e;subst e;cases f;simpa using hb;rename_i e;rw [ι.upd_ne l e];exact (h.blk i x f).mono (n:=m.nm ι) g (Mem.aB d.has g) (λ_=>rfl);intro i x k f a;rw [d.lim] at k;obtain⟨q,r⟩:=p i x f a;have v:=h.own i x k r a;refine⟨λj y t E s=>?_,λc z A u=>?_⟩;obtain⟨B,C⟩:=p j y E s;rw [ι.upd_ne l q,ι.upd_ne l B];exact v.alone j y t C s;rw [ι.upd_ne l q] at u;exact v.free c z A u;intro i k;rw [g i (h.ghas i k)];exact h.glob i k;intro i x f a;obtain⟨q,r⟩:=p i x f a;rw [ι.upd_ne l q];exact h.spot i x r a;intro i k;rw [d.get,if_neg (by have:=d.le;omega)];rintro b' ⟨i,x,k,f,a,rfl⟩;rw [d.lim] at k;obtain⟨q,r⟩:=p i x f a;rw [ι.upd_ne l q];exact .inl ⟨i,x,k,r,a,rfl⟩
def amW (ι:J9)(n:Nm)(done:List (Option Nat))(ls:List d9)(tmps:Array Value):Prop:=
 ∀t k,iQ t done 0=some k->∃v,ls[k]?=some v∧v.lt n∧tmps.getD t undef=o8 ι v
structure St (P:Program)(ι:J9)(n:Nm)(slots:List Nat)(done:List (Option Nat))(ls:List d9)(env:T d9)(tmps:Array Value):Prop where
 ls:amW ι n done ls tmps
 env:U6 ι n slots env tmps
 glob:∀i,i<P.globals.size->(ι i).b=i∧(ι i).base=0∧(ι i).spot=none
 gn:∀g,g<P.globals.size->n g
section
variable {P:Program}{G:Mem}{ι:J9}{n:Nm}{slots:List Nat}{done:List (Option Nat)}{ls:List d9}{env:T d9}{a:Act}
theorem Ep (k:Nat):∀(ls:List d9) (env:T d9),I4 (.loc k) ls env=ls[k]?.getD .undef:=by
 intro ls env;match k with
 | 0=>cases ls<;>rfl
 | 1=>match ls with | [] | [_] | _ :: _ :: _=>rfl
 | 2=>match ls with | [] | [_] | [_,_] | _ :: _ :: _ :: _=>rfl
 | 3=>match ls with | [] | [_] | [_,_] | [_,_,_] | _ :: _ :: _ :: _ :: _=>rfl
 | k+4=>show nth (k+4) ls=_;exact Wj _ _
theorem Wn (j:Nat)(h:j<2^60)(ls:List d9)(env:T d9):I4 (.slot j) ls env=(env.get j).getD .undef:=by
 show way 64 j env=_
 exact adU 64 j env (by have:(2:Nat)^60+1<2^64:=by decide
                        omega)
theorem D5 (s:St P ι n slots done ls env a.tmps){x:Operand}{o:Q7}(h:N7 P slots done x=some o):
  a.eval x=o8 ι (I4 o ls env)∧(I4 o ls env).lt n:=by
 cases x with
 | tmp t=>
  simp only [N7] at h;cases hk:iQ t done 0 with
  | some k=>simp only [hk,J4] at h;subst h;obtain⟨v,b,d,e⟩:=s.ls t k hk;rw [Ep,b];exact⟨e,d⟩
  | none=>
   simp only [hk] at h;cases hj:idxOf t slots 0 with
   | none=>simp [hj] at h
   | some j=>simp only [hj,J4] at h;subst h;obtain⟨_,v,b,d,e⟩:=s.env.val t j hj;rw [Wn j (by have:=(uL hj).2.1;have:=s.env.small;omega),b];exact⟨e,d⟩
 | const v=>
  simp only [N7] at h;cases hv:ofValue v with
  | none=>simp [hv] at h
  | some c=>simp only [hv,J4] at h;subst h;obtain⟨b,d⟩:=nG ι v c hv;exact⟨b.symm,d n⟩
 | global g=>simp only [N7] at h;split at h;rename_i i;cases h;obtain⟨b,d,e⟩:=s.glob g i;refine⟨?_,?_⟩;show Value.pointer (some ⟨g,0,none⟩)=.pointer (some (ι.at g 0));rw [J9.yX e,b,d];exact s.gn g i;cases h
 | func f=>simp only [N7,J4] at h;subst h;exact⟨by simp [Act.eval,I4,E9,o8,jo,u6],by simp [I4,E9,d9.lt,ZK,aU]⟩
theorem kZ (s:St P ι n slots done ls env a.tmps):∀{l:List Operand} {os:List Q7},jE P slots done l=some os->
  l.map a.eval=u6 ι (evs (fV os) ls env)∧aU n (evs (fV os) ls env)
 | [],os,h=>by simp only [jE,J4] at h;subst h;simp [fV,evs,u6,aU]
 | x::l,os,h=>by
  simp only [jE] at h;cases hx:N7 P slots done x with
  | none=>simp [hx] at h
  | some o=>
   cases hl:jE P slots done l with
   | none=>simp [hx,hl] at h
   | some r=>simp only [hx,hl,J4] at h;subst h;obtain⟨h1,h2⟩:=D5 s hx;obtain⟨h3,h4⟩:=kZ s hl;refine⟨?_,?_⟩;show a.eval x::l.map a.eval=o8 ι (I4 o ls env)::u6 ι (evs (fV r) ls env);rw [h1,h3];exact⟨h2,h4⟩
end
section
variable {P:Program}{G:Mem}{w:World}
theorem run_underlying {t:TypeId}{d:TypeDesc}(h:P.underlying t=some d):(underlying t).run P w=.ok d w:=by simp [underlying,h]
theorem run_sizeOf {t:TypeId}{k:Nat}(h:aM P t=some k):(sizeOf t).run P w=.ok k w:=by simp only [aM,acY] at h;obtain⟨i,a,b⟩:=h;simp [sizeOf,typeInfo,a,b]
theorem vT {t:TypeId}{k:Nat}(h:fZ P t=some k):∃i,(typeInfo t).run P w=.ok i w∧i.bytes=k:=by simp only [fZ,acY] at h;obtain⟨i,a,b⟩:=h;exact⟨i,by simp [typeInfo,a],b⟩
theorem qP {t:TypeId}{b:Bool}(h:wK P t=some b):(isAgg t).run P w=.ok b w:=by
 simp only [wK] at h;cases hu:P.underlying t with
 | none=>simp [hu] at h
 | some d=>simp only [isAgg,Xl,run_underlying hu,K9];cases d<;>simp_all
theorem Er {t:TypeId}{s:Option Nat}(h:partT P t=some s):(s=none∧wK P t=some false∧∃k,aM P t=some k)∨(∃k,s=some k∧wK P t=some true∧aM P t=some k):=by simp only [partT] at h;split at h;rename_i k a b;cases h;exact .inr ⟨k,rfl,a,b⟩;rename_i k a b;cases h;exact .inl ⟨rfl,a,k,b⟩;cases h
theorem dB {t:TypeId}{z:List d9}(h:qN P t=some z)(ι:J9):∃v,(zeroValue t).run P w=.ok v w∧v.cells=(u6 ι z).toArray∧∀n,aU n z:=by
 simp only [qN] at h;cases hi:P.info? t with
 | none=>simp [hi] at h
 | some i=>
  cases hz:i.zero with
  | none=>simp [hi,hz] at h
  | some v=>
   cases ha:ofValue v with
   | none=>simp [hi,hz,ha] at h
   | some a=>simp only [hi,hz,ha,ad3,J4] at h;subst h;obtain⟨b,c⟩:=nG ι v a ha;exact⟨v,by simp [zeroValue,typeInfo,hi,hz],by rw [← b,kY],λn=>uJ (c n)⟩
theorem nV {t:TypeId}{z:d9}(h:zeroV P t=some z)(ι:J9):(zeroValue t).run P w=.ok (o8 ι z) w∧∀n,z.lt n:=by
 simp only [zeroV] at h;cases hi:P.info? t with
 | none=>simp [hi] at h
 | some i=>
  cases hz:i.zero with
  | none=>simp [hi,hz] at h
  | some v=>simp only [hi,hz,ad3] at h;obtain⟨a,b⟩:=nG ι v z h;exact⟨by simp [zeroValue,typeInfo,hi,hz,a],b⟩
end
theorem yY (n:Int)(h:-9223372036854775808<=n∧n<9223372036854775808):IntKind.i64.wrap n=n:=by
 have a:((2:Int)^IntKind.i64.bits)=18446744073709551616:=rfl;have b:((2:Int)^(IntKind.i64.bits-1))=9223372036854775808:=rfl;unfold IntKind.wrap;rw [a,b];show (if (true&&decide (n%18446744073709551616≥9223372036854775808))=true then n%18446744073709551616-18446744073709551616 else n%18446744073709551616)=n;obtain⟨c,d⟩:=h;by_cases hn:0<=n;have:n%18446744073709551616=n:=Int.emod_eq_of_lt hn (by omega);rw [this,if_neg (by simp only [adL,decide_eq_true_eq];omega)];have:n%18446744073709551616=n+18446744073709551616:=by rw [← Int.add_emod_right];exact Int.emod_eq_of_lt (by omega) (by omega)
 rw [this,if_pos (by simp only [adL,decide_eq_true_eq];omega)];omega
theorem adV (n:Int):iP n=IntKind.i64.wrap n:=by
 cases n with
 | ofNat m=>
  simp only [iP];cases h:Nat.blt m 9223372036854775808 with
  | true=>
   have:m<9223372036854775808:=(Eq.mp Y4 h)
   have a:=yY (Int.ofNat m) ⟨by have:(0:Int)<=Int.ofNat m:=Int.natCast_nonneg m
                                omega,by have:Int.ofNat m=(m:Int):=rfl
                                         omega⟩
   exact (U4 _ _).trans a.symm
  | false=>exact P9 _ _
 | negSucc m=>
  simp only [iP];cases h:Nat.blt m 9223372036854775808 with
  | true=>have:m<9223372036854775808:=(Eq.mp Y4 h);have e:=ahA m;have a:=yY (Int.negSucc m) ⟨by omega,by omega⟩;exact (U4 _ _).trans a.symm
  | false=>exact P9 _ _
theorem uN (k:IntKind)(n:Int):lY k n=k.wrap n:=by cases k<;>first | exact adV n | rfl
theorem gy (a b:Int):bU a b=(a==b):=by
 cases a with
 | ofNat a=>
  cases b with
  | ofNat b=>show Nat.beq a b=_;by_cases h:a=b;subst h;simp [abB];rw [show Nat.beq a b=false from abP.2 λe=>h (gI e)];exact (beq_eq_false_iff_ne.2 (λe=>h (Int.ofNat.inj e))).symm
  | negSucc b=>exact (beq_eq_false_iff_ne.2 (λe=>by cases e)).symm
 | negSucc a=>
  cases b with
  | ofNat b=>exact (beq_eq_false_iff_ne.2 (λe=>by cases e)).symm
  | negSucc b=>show Nat.beq a b=_;by_cases h:a=b;subst h;simp [abB];rw [show Nat.beq a b=false from abP.2 λe=>h (gI e)];exact (beq_eq_false_iff_ne.2 (λe=>h (Int.negSucc.inj e))).symm
theorem blt_eq (a b:Nat):Nat.blt a b=decide (a<b):=by by_cases h:a<b;rw [decide_eq_true h];exact (Eq.mpr Y4 h);rw [decide_eq_false h];exact abP.2 λe=>h (Eq.mp Y4 e)
theorem iA (a b:Int):kQ a b=decide (a<b):=by
 cases a with
 | ofNat a=>
  cases b with
  | ofNat b=>exact (blt_eq a b).trans (decide_eq_decide.2 (by show a<b↔(a:Int)<(b:Int);omega))
  | negSucc b=>exact (decide_eq_false (by rw [ahA];show ¬ (a:Int) < _;omega)).symm
 | negSucc a=>
  cases b with
  | ofNat b=>exact (decide_eq_true (by rw [ahA];show _<(b:Int);omega)).symm
  | negSucc b=>exact (blt_eq b a).trans (decide_eq_decide.2 (by rw [ahA,ahA];omega))
theorem PL (a b:IntKind):ZA a b=decide (a=b):=by cases a<;>cases b<;>rfl
theorem iB:∀a b:List UInt8,strEq a b=(a==b)
 | [],[]=>rfl
 | [],_ :: _=>rfl
 | _ :: _,[]=>rfl
 | x::a,y::b=>by
  show bi (Nat.beq x.toNat y.toNat) (strEq a b) false=_;rw [iB a b];by_cases h:x=y;subst h;simp [abB];have:Nat.beq x.toNat y.toNat=false:=by rw [abP];intro e;exact h (alc.1 (gI e))
  rw [this];simp [h]
theorem Es:∀a b:List UInt8,rR a b=Op.bytesLess a b
 | _,[]=>by cases ‹List UInt8› <;> rfl
 | [],_ :: _=>rfl
 | x::a,y::b=>by simp [rR,Op.bytesLess,Es a b]
theorem J9.oJ (ι:J9)(i o k:Nat):(ι.at i o).add k=ι.at i (o+k):=by
 unfold Addr.add J9.at
 split;rename_i h;subst h;rfl;rename_i h;have:¬ (o+k=0):=by omega
 simp [agk,this];intro _ a;exact absurd a h
section
variable {β:Type}{v:d9}{r:β}
theorem eu {k:Nat->Nat->Option β}(h:iw v k=some r):∃i o,v=.ptr i o∧k i o=some r:=by cases v<;>first | exact⟨_,_,rfl,h⟩ | (simp [iw] at h)
theorem jX {k:IntKind->Int->Option β}(h:rQ v k=some r):∃i n,v=.int i n∧k i n=some r:=by cases v<;>first | exact⟨_,_,rfl,h⟩ | (simp [rQ] at h)
theorem qQ {k:Bool->Option β}(h:pU v k=some r):∃b,v=.bool b∧k b=some r:=by cases v<;>first | exact⟨_,rfl,h⟩ | (simp [pU] at h)
theorem iH {k:List UInt8->Option β}(h:pJ v k=some r):∃s,v=.str s∧k s=some r:=by cases v<;>first | exact⟨_,rfl,h⟩ | (simp [pJ] at h)
theorem eB {k:List d9->Option β}(h:uo v k=some r):∃l,v=.agg l∧k l=some r:=by cases v<;>first | exact⟨_,rfl,h⟩ | (simp [uo] at h)
theorem ZN {k:List d9->Option β}(h:Mh v k=some r):∃l,v=.tuple l∧k l=some r:=by cases v<;>first | exact⟨_,rfl,h⟩ | (simp [Mh] at h)
theorem vU {a:Option β}{k:Nat->Option β}(h:uq v a k=some r):(v=.nilMap∧a=some r)∨∃i,v=.map i∧k i=some r:=by cases v<;>first | exact .inl ⟨rfl,h⟩ | exact .inr ⟨_,rfl,h⟩ | (simp [uq] at h)
theorem rZ {e:Option β}{k u:Nat->Nat->Nat->Nat->Option β}(h:rO v e k u=some r):
  (v=.nilSlice∧e=some r)∨(∃a b c d,v=.slice a b c d∧k a b c d=some r)∨∃a b c d,v=.sliceU a b c d∧u a b c d=some r:=by
 cases v<;>first | exact .inl ⟨rfl,h⟩ | exact .inr (.inl ⟨_,_,_,_,rfl,h⟩) | exact .inr (.inr ⟨_,_,_,_,rfl,h⟩) | (simp [rO] at h)
theorem Kh {k:Fn->List d9->List d9->Option β}(h:Mj v k=some r):∃f a b,v=.func f a b∧k f a b=some r:=by cases v<;>first | exact⟨_,_,_,rfl,h⟩ | (simp [Mj] at h)
theorem ZO {n:Int}{k:Nat->Option β}(h:Mq n k=some r):∃m:Nat,n=(m:Int)∧k m=some r:=by
 cases n with
 | ofNat m=>exact⟨m,rfl,h⟩
 | negSucc m=>simp [Mq] at h
theorem fI {k:Nat->Option β}(h:jP v k=some r):∃i,∃m:Nat,v=.int i (m:Int)∧k m=some r:=by obtain⟨i,n,rfl,h⟩:=jX h;obtain⟨m,rfl,h⟩:=ZO h;exact⟨i,m,rfl,h⟩
theorem idx_eq {len:Nat}{k:Nat->Option β}(h:idx len v k=some r):∃i,∃m:Nat,v=.int i (m:Int)∧m<len∧k m=some r:=by obtain⟨i,m,rfl,h⟩:=fI h;obtain⟨a,b⟩:=G8 h;exact⟨i,m,rfl,Eq.mp Y4 a,b⟩
end
section
variable {P:Program}{G:Mem}{ι:J9}{n:Nm}
theorem sj {c:BinOp}{t:TypeId}{x y:Operand}{a b:Value}{w:World}
  (h:∀p q,a≠.agg p∨b≠.agg q) (h':a≠.nilIface∨b≠.nilIface∨wU x=true∨wU y=true):(eqGuard c t x y a b).run P w=.ok () w:=by
 unfold eqGuard;cases c<;>simp<;>(
  split;rename_i d e;rcases h' with h' | h' | h' | h';exact absurd rfl h';exact absurd rfl h';cases x<;>simp_all [wU]
  cases y<;>simp_all [wU]
  rename_i p q;rcases h p q with h | h<;>exact absurd rfl h
  rfl)
theorem Ki {c:BinOp}(e:c≠.shl)(f:c≠.shr){k:IntKind}{a b:Int}{v:d9}(h:JR c k a b=some v)(t:TypeId)(w:World):
  (binOp c t (.int k a) (.int k b)).run P w=.ok (o8 ι v) w∧v.lt n:=by
 cases c<;>first
  | exact absurd rfl e
  | exact absurd rfl f
  | (simp only [JR,qM,rT,Mr,gU,CK,BJ,Pg,JQ,Rm,ahH,iOr,ahI,Rk,J4] at h
     subst h;simp [binOp,Op.intArith,Op.intCmp,Op.intBits,o8,d9.lt,uN,gy,iA,yP,bne]
     done)
  | (simp only [JR,DW,Tp,Tn] at h
     have d:b≠0:=(by rintro rfl;simp at h);split at h;exact absurd rfl d;cases h;simp [binOp,Op.intDiv,d,o8,d9.lt,uN])
  | (simp only [JR,Pg,Rm,J4] at h
     subst h;simp [binOp,Op.intCmp,o8,d9.lt,iA];rw [ada];simp)
theorem oK (s:List UInt8):(⟨s.toArray⟩:ByteArray).size=s.length:=by simp [ByteArray.size]
theorem Kj {c:BinOp}{a b:List UInt8}{v:d9}(h:JU c a b=some v)(t:TypeId)(w:World):
  (binOp c t (.string ⟨a.toArray⟩) (.string ⟨b.toArray⟩)).run P w=.ok (o8 ι v) w∧v.lt n:=by
 cases c<;>first
  | (simp only [JU,jR] at h;cases h;done)
  | (simp only [JU,gV,CP,CQ,Rn,LX,Vw,J4] at h
     subst h;simp [binOp,Op.stringOp,o8,d9.lt,iB,Es]
     done)
  | (simp only [JU,rU] at h
     obtain⟨d,e⟩:=G8 h;cases e;have f:len' a+len' b<9223372036854775808:=Eq.mp Y4 d;simp only [K4] at f;simp [binOp,Op.stringOp,oK,o8,d9.lt];rw [if_neg (by omega)];congr 3)
theorem su {c:BinOp}(e:c≠.shl)(f:c≠.shr){x y v:d9}(h:CR (JR c) (JU c) x y=some v)(t:TypeId)(w:World):
  (binOp c t (o8 ι x) (o8 ι y)).run P w=.ok (o8 ι v) w∧v.lt n:=by
 cases x<;>try (simp [CR] at h;done)
 rename_i k a;simp only [CR] at h;obtain⟨i,b,rfl,h⟩:=jX h;obtain⟨d,g⟩:=G8 h;rw [PL,decide_eq_true_eq] at d;subst d;exact Ki e f g t w;rename_i a;simp only [CR] at h;obtain⟨b,rfl,h⟩:=iH h;exact Kj h t w
theorem TA {b:BinOp}{x y v:d9}(h:CR (JR b) (JU b) x y=some v):
  (∃k a,x=.int k a)∨∃a,x=.str a:=by
 cases x<;>first | exact .inl ⟨_,_,rfl⟩ | exact .inr ⟨_,rfl⟩ | (simp [CR] at h;done)
theorem Ij {x y v:d9}(h:ZB x y=some v)(t:TypeId)(w:World):(binOp .shl t (o8 ι x) (o8 ι y)).run P w=.ok (o8 ι v) w∧v.lt n:=by simp only [ZB] at h;obtain⟨k,a,rfl,h⟩:=jX h;obtain⟨i,m,rfl,h⟩:=fI h;cases h;simp [binOp,Op.shift,o8,d9.lt,uN,show ¬ ((m:Int)<0) from by omega]
theorem Ik {x y v:d9}(h:ZC x y=some v)(t:TypeId)(w:World):(binOp .shr t (o8 ι x) (o8 ι y)).run P w=.ok (o8 ι v) w∧v.lt n:=by simp only [ZC] at h;obtain⟨k,a,rfl,h⟩:=jX h;obtain⟨i,m,rfl,h⟩:=fI h;cases h;simp [binOp,Op.shift,o8,d9.lt,show ¬ ((m:Int)<0) from by omega]
theorem Ay (a b:Bool):DX a b=(a==b):=by cases a<;>cases b<;>rfl
theorem oL {x y:d9}{r:Bool}(h:N9 x y=some r):∃k a b,x=.int k a∧y=.int k b∧r=(a==b):=by obtain⟨k,a,d,e⟩:=jX h;obtain⟨j,b,f,g⟩:=jX e;obtain⟨c,i⟩:=G8 g;rw [PL,decide_eq_true_eq] at c;subst c;cases i;exact⟨_,_,_,d,f,gy _ _⟩
theorem iC {x y:d9}{r:Bool}(h:oo x y=some r):∃a b,x=.bool a∧y=.bool b∧r=(a==b):=by obtain⟨a,c,d⟩:=qQ h;obtain⟨b,e,f⟩:=qQ d;cases f;exact⟨_,_,c,e,Ay _ _⟩
theorem jq {x y:d9}{r:Bool}(h:eqStr x y=some r):∃a b,x=.str a∧y=.str b∧r=(a==b):=by obtain⟨a,c,d⟩:=iH h;obtain⟨b,e,f⟩:=iH d;cases f;exact⟨_,_,c,e,iB _ _⟩
end
section
variable {P:Program}{G:Mem}{ι:J9}{n:Nm}
theorem lg (a b:List d9):bO [] a b=some true:=rfl
theorem jF (k:PK)(c:List PK)(x y:d9)(a b:List d9):bO (k::c) (x::a) (y::b)=ob (GJ k x y) λr=>bi r (bO c a b) (some false):=rfl
theorem jG {k:PK}{c:List PK}{a b:List d9}{r:Bool}(h:bO (k::c) a b=some r):
  ∃x xs y ys s,a=x::xs∧b=y::ys∧GJ k x y=some s∧bi s (bO c xs ys) (some false)=some r:=by
 cases a with
 | nil=>cases h
 | cons x xs=>
  cases b with
  | nil=>cases h
  | cons y ys=>rw [jF] at h;obtain⟨s,d,e⟩:=D6 h;exact⟨x,xs,y,ys,s,rfl,rfl,d,e⟩
theorem PN (c e:List PK):∀(a b:List d9) (r:Bool),bO (c++e) a b=some r->
  (bO c a b=some false∧r=false)∨(bO c a b=some true∧bO e (a.drop c.length) (b.drop c.length)=some r):=by
 induction c with
 | nil=>intro a b r h;right;exact⟨rfl,by simpa using h⟩
 | cons k c ih=>
  intro a b r h;obtain⟨x,g,y,i,s,rfl,rfl,f,d⟩:=jG h;rw [jF,f];cases s with
  | false=>left;cases d;exact⟨rfl,rfl⟩
  | true=>simpa using ih g i r d
theorem BR (c:List PK):∀(m:Nat) (a b:List d9),c.length<=m->bO c (a.take m) (b.take m)=bO c a b:=by
 induction c with
 | nil=>intro m a b _;rfl
 | cons k c ih=>
  intro m a b h;obtain⟨m,rfl⟩:∃m',m=m'+1:=⟨m-1,by simp at h;omega⟩;cases a with
  | nil=>rfl
  | cons x xs=>
   cases b with
   | nil=>rfl
   | cons y ys=>rw [aiQ,aiQ,jF,jF,ih m xs ys (by simpa using h)]
def mkV (ι:J9)(agg:Bool)(l:List d9):Value:=if agg then .agg (u6 ι l).toArray else o8 ι (l.headD .undef)
theorem Kk (ι:J9)(l:List d9)(o k:Nat):((u6 ι l).toArray.extract o (o+k))=(u6 ι ((l.drop o).take k)).toArray:=by rw [List.extract_toArray];congr 1;rw [bA,bA,ahv,akC];simp [amj,amk]
theorem uO {t:TypeId}{a:Bool}{k:Nat}(b:wK P t=some a)(hs:aM P t=some k)(l:List d9)(o:Nat)(c:a=false->o<l.length∧k=1)(w:World):
  (part t (u6 ι l).toArray o).run P w=.ok (mkV ι a ((l.drop o).take k)) w:=by
 simp only [part,Xl,qP b,K9];cases a with
 | true=>simp only [if_true,Xl,run_sizeOf hs,K9,Z8,Kk];rfl
 | false=>
  obtain⟨h,rfl⟩:=c rfl;have:(u6 ι l).toArray[o]?=some (o8 ι l[o]):=by simp [aL,J3 h]
  simp only [abQ,if_false,this,mkV,Z8];congr 2;rw [Xd h];rfl
theorem Et {t:TypeId}{k:IntKind}(h:P.underlying t=some (.int k)):wK P t=some false:=by simp [wK,h]
theorem TB {t:TypeId}(h:P.underlying t=some .bool):wK P t=some false:=by simp [wK,h]
theorem MQ {t:TypeId}(h:P.underlying t=some .string):wK P t=some false:=by simp [wK,h]
theorem pY {t:TypeId}{a:Array Field}(h:P.underlying t=some (.struct a)):wK P t=some true:=by simp [wK,h]
theorem uP {t:TypeId}{k:IntKind}(h:P.underlying t=some (.int k)){x y:d9}{r:Bool}(c:N9 x y=some r)(d:Nat)(w:World):
  (Op.equalIn (d+1) t (o8 ι x) (o8 ι y)).run P w=.ok r w:=by
 obtain⟨k,a,b,rfl,rfl,rfl⟩:=oL c;simp [Op.equalIn,run_underlying h,o8]
theorem yZ {t:TypeId}(h:P.underlying t=some .bool){x y:d9}{r:Bool}(c:oo x y=some r)(d:Nat)(w:World):
  (Op.equalIn (d+1) t (o8 ι x) (o8 ι y)).run P w=.ok r w:=by
 obtain⟨a,b,rfl,rfl,rfl⟩:=iC c;simp [Op.equalIn,run_underlying h,o8]
theorem lS (a b:List UInt8):((⟨a.toArray⟩:ByteArray)==⟨b.toArray⟩)=(a==b):=by show ByteArray.beq _ _=_;simp [ByteArray.beq]
theorem BS {t:TypeId}(h:P.underlying t=some .string){x y:d9}{r:Bool}(c:eqStr x y=some r)(d:Nat)(w:World):
  (Op.equalIn (d+1) t (o8 ι x) (o8 ι y)).run P w=.ok r w:=by
 obtain⟨a,b,rfl,rfl,rfl⟩:=jq c;simp [Op.equalIn,run_underlying h,o8,lS]
def jH (d:Nat)(X Y:Array Value):List Field->Sem Bool
 | []=>pure true
 | f::l=>do
  if f.name≠ "_" then
   if !(← Op.equalIn d f.type (← part f.type X f.offset) (← part f.type Y f.offset)) then return false
  jH d X Y l
theorem Kl (d:Nat)(X Y:Array Value)(l:List Field):
  (do
   let s ← forIn l ((none,()):Option Bool×Unit) λf _=>
    if f.name≠ "_" then do
     let a ← part f.type X f.offset
     let b ← part f.type Y f.offset
     let e ← Op.equalIn d f.type a b
     if (!e)=true then pure (ForInStep.done (some false,())) else pure (ForInStep.yield (none,()))
    else pure (ForInStep.yield (none,()))
   match s.fst with
   | some r=>pure r
   | none=>pure true:Sem Bool)=jH d X Y l:=by
 induction l with
 | nil=>simp [jH]
 | cons f l ih=>rw [aiP];simp only [jH];rw [← ih];by_cases hf:f.name= "_";simp [hf];simp only [ne_eq,hf,not_false_eq_true,if_true,bind_assoc];congr 1;funext a;congr 1;funext b;congr 1;funext e;cases e<;>simp
theorem Eu {t:TypeId}{b:Array Field}(h:P.underlying t=some (.struct b))(hs:P.stoodInHeld t=false)(X Y:Array Value)(d:Nat)(w:World):
  (Op.equalIn (d+1) t (.agg X) (.agg Y)).run P w=(jH d X Y b.toList).run P w:=by
 simp only [Op.equalIn,Xl,run_underlying h,K9,run_program,hs];rw [← aiU,← Kl];simp;congr 1;funext a w';obtain⟨o,u⟩:=a;cases o<;>rfl
theorem Il:∀(d:Nat) (t:TypeId) (ks:List PK),fH P d t=some ks->∃agg,wK P t=some agg∧aM P t=some ks.length∧(agg=false->ks.length=1)∧
  ∀D,d<=D->∀(a b:List d9) (r:Bool),bO ks a b=some r->∀w,(Op.equalIn D t (mkV ι agg a) (mkV ι agg b)).run P w=.ok r w:=by
 intro d;induction d with
 | zero=>intro t ks h;simp [fH] at h
 | succ d ih=>
  intro t ks h;simp only [fH] at h;cases hu:P.underlying t with
  | none=>simp [hu] at h
  | some u=>
   rw [hu] at h;cases u<;>try (simp at h;done)
   ·
    simp only at h;split at h;rename_i k;cases h;refine⟨false,TB hu,k,λ_=>rfl,λD F a b r n w=>?_⟩;obtain⟨x,I,y,J,s,rfl,rfl,m,q⟩:=jG n;obtain⟨D,rfl⟩:∃D',D=D'+1:=⟨D-1,by omega⟩;have:s=r:=by cases s<;>simpa [lg] using q
    subst this;exact yZ hu m D w;cases h
   simp only at h;split at h;rename_i k;cases h;refine⟨false,Et hu,k,λ_=>rfl,λD F a b r n w=>?_⟩;obtain⟨x,I,y,J,s,rfl,rfl,m,q⟩:=jG n;obtain⟨D,rfl⟩:∃D',D=D'+1:=⟨D-1,by omega⟩;have:s=r:=by cases s<;>simpa [lg] using q
   subst this;exact uP hu m D w;cases h;simp only at h;split at h;rename_i k;cases h;refine⟨false,MQ hu,k,λ_=>rfl,λD F a b r n w=>?_⟩;obtain⟨x,I,y,J,s,rfl,rfl,m,q⟩:=jG n;obtain⟨D,rfl⟩:∃D',D=D'+1:=⟨D-1,by omega⟩;have:s=r:=by cases s<;>simpa [lg] using q
   subst this;exact BS hu m D w;cases h;rename_i K;simp only at h;cases hf:oH (fH P d) K.toList 0 with
   | none=>simp [hf] at h
   | some ks'=>
    simp only [hf] at h;split at h;rename_i k;cases h;refine⟨true,pY hu,k.2,(λh=>by cases h),λD F a b r n w=>?_⟩;obtain⟨D,rfl⟩:∃D',D=D'+1:=⟨D-1,by omega⟩;simp only [mkV,if_true];rw [Eu hu k.1];have H:∀(l:List Field) (g:Nat) (e:List PK) (j:List PK),ks=j++e->j.length=g->oH (fH P d) l g=some e->
      ∀r,bO e (a.drop g) (b.drop g)=some r->(jH D (u6 ι a).toArray (u6 ι b).toArray l).run P w=.ok r w:=by
     intro l;induction l with
     | nil=>intro g e j _ _ i r B;simp only [oH,J4] at i;subst i;rw [lg] at B;cases B;simp [jH]
     | cons f l ihl=>
      intro g e j G A i r B;simp only [oH] at i;split at i;rename_i N;cases hk:fH P d f.type with
      | none=>simp [hk] at i
      | some kf=>
       simp only [hk] at i;cases hrest:oH (fH P d) l (g+kf.length) with
       | none=>simp [hrest] at i
       | some kr=>
        simp only [hrest,J4] at i;subst i;obtain⟨agg,M,C,m,L⟩:=ih f.type kf hk;have z:∀(c:List d9),(a=c∨b=c)->agg=false->g<c.length∧kf.length=1:=by
         intro c O v;have p:=m v;refine⟨?_,p⟩;cases kf with
         | nil=>simp at p
         | cons k0 kf=>obtain⟨x,I,y,J,s,o,E,_,_⟩:=jG B;rcases O with rfl | rfl;have:=congrArg List.length o;simp at this;omega;have:=congrArg List.length E;simp at this;omega
        simp only [jH,if_pos N.1,Xl];rw [N.2,uO M C _ _ (z a (.inl rfl)),K9,uO M C _ _ (z b (.inr rfl)),K9];rcases PN kf kr _ _ r B with⟨o,rfl⟩ | ⟨o,E⟩;rw [L D (by omega) _ _ _ ((BR kf _ _ _ (q9 _)).trans o) w];simp;rw [L D (by omega) _ _ _ ((BR kf _ _ _ (q9 _)).trans o) w];simp only [K9,aiX,abQ,if_false];refine ihl (g+kf.length) kr (j++kf) (by rw [G];simp) (by simp [A]) hrest r ?_;simpa [aiS] using E
      cases i
    exact H K.toList 0 ks [] rfl rfl hf r (by simpa using n);cases h
end
section
variable {P:Program}{G:Mem}{ι:J9}{n:Nm}
theorem Wo {t:TypeId}{x y:d9}{r:Bool}(d:(∀k a,x≠.int k a)∧∀s,x≠.str s)(h:∀w,(Op.equal t (o8 ι x) (o8 ι y)).run P w=.ok r w)(w:World):
  (binOp .eql t (o8 ι x) (o8 ι y)).run P w=.ok (.bool r) w∧(binOp .neq t (o8 ι x) (o8 ι y)).run P w=.ok (.bool (!r)) w:=by
 have b:binOp .eql t (o8 ι x) (o8 ι y)=(do pure (.bool (← Op.equal t (o8 ι x) (o8 ι y)))):=by cases x<;>simp_all [o8,binOp]
 have c:binOp .neq t (o8 ι x) (o8 ι y)=(do pure (.bool (!(← Op.equal t (o8 ι x) (o8 ι y))))):=by cases x<;>simp_all [o8,binOp]
 rw [b,c];simp [h]
theorem MR {t e:TypeId}(g:P.underlying t=some (.pointer e)){j:Nat}(hs:aM P e=some j){x y:d9}{r:Bool}(f:jS x y=some r)(d:Nat)(w:World):
  (Op.equalIn (d+1) t (o8 ι x) (o8 ι y)).run P w=.ok r w:=by
 cases x<;>cases y<;>simp only [jS,J4,reduceCtorEq] at f
 case ptr.ptr a b c d'=>obtain⟨h,f⟩:=G8 f;obtain⟨i,f⟩:=G8 f;cases f;obtain rfl:=gI h;obtain rfl:=gI i;simp only [Op.equalIn,Xl,run_underlying g,o8,K9,run_sizeOf hs];split<;>simp [sameAddr]
 all_goals (subst f;simp [Op.equalIn,run_underlying g,o8])
theorem GU {t e:TypeId}(b:P.underlying t=some (.slice e)){x y:d9}{r:Bool}(a:yQ x y=some r)(d:Nat)(w:World):
  (Op.equalIn (d+1) t (o8 ι x) (o8 ι y)).run P w=.ok r w:=by
 cases x<;>cases y<;>simp only [yQ,J4,reduceCtorEq] at a<;>subst a<;>simp [Op.equalIn,run_underlying b,o8]
theorem MS {t k e:TypeId}(b:P.underlying t=some (.map k e)){x y:d9}{r:Bool}(a:Mt x y=some r)(d:Nat)(w:World):
  (Op.equalIn (d+1) t (o8 ι x) (o8 ι y)).run P w=.ok r w:=by
 cases x<;>cases y<;>simp only [Mt,J4,reduceCtorEq] at a<;>subst a<;>simp [Op.equalIn,run_underlying b,o8]
theorem Km {t:TypeId}{a b:Array TypeId}{c:Bool}(f:P.underlying t=some (.func a b c)){x y:d9}{r:Bool}(e:DY x y=some r)(d:Nat)(w:World):
  (Op.equalIn (d+1) t (o8 ι x) (o8 ι y)).run P w=.ok r w:=by
 cases x<;>cases y<;>simp only [DY,J4,reduceCtorEq] at e<;>subst e<;>simp [Op.equalIn,run_underlying f,o8]
theorem GV {t:TypeId}{c:Array (String×TypeId)}(b:P.underlying t=some (.interface c)){x y:d9}{r:Bool}(a:nE x y=some r)(d:Nat)(w:World):
  (Op.equalIn (d+1) t (o8 ι x) (o8 ι y)).run P w=.ok r w:=by
 cases x<;>cases y<;>simp only [nE,J4,reduceCtorEq] at a<;>subst a<;>simp [Op.equalIn,run_underlying b,o8]
theorem Kn {c:Bool}{t:TypeId}{k:Ah}(a:VZ P c t=some k){x y:d9}{r:Bool}(b:mM k x y=some r)(d:Nat)(n:10<=d+1)(w:World):
  (Op.equalIn (d+1) t (o8 ι x) (o8 ι y)).run P w=.ok r w:=by
 simp only [VZ] at a;cases hu:P.underlying t with
 | none=>simp [hu] at a
 | some u=>
  rw [hu] at a;cases u<;>try (simp at a;done)
  simp only [J4] at a;subst a;exact yZ hu b d w;simp only [J4] at a;subst a;exact uP hu b d w;simp only [J4] at a;subst a;exact BS hu b d w;rename_i e;simp only at a;cases hs:aM P e with
  | none=>rw [hs] at a;cases a
  | some sz=>rw [hs] at a;cases a;exact MR hu hs b d w
  simp only [J4] at a;subst a;exact GU hu b d w;simp only [J4] at a;subst a;exact MS hu b d w;rename_i p;simp only at a;cases hf:fH P 10 t with
  | none=>simp [hf] at a
  | some ks=>simp only [hf] at a;split at a;cases a;obtain⟨l,rfl,h⟩:=eB b;obtain⟨m,rfl,i⟩:=eB h;obtain⟨g,f,o,q,j⟩:=Il (P:=P) (ι:=ι) 10 t ks hf;rw [pY hu] at f;cases f;have:=j (d+1) n l m r i w;simpa [mkV,o8] using this;cases a
  simp only [J4] at a;subst a;exact Km hu b d w;simp only at a;split at a;cases a;exact GV hu b d w;cases a
theorem BU {c:Bool}{t:TypeId}{k:Ah}(b:VZ P c t=some k){x y:d9}{r:Bool}(a:mM k x y=some r)(w:World):
  (Op.equal t (o8 ι x) (o8 ι y)).run P w=.ok r w:=Kn b a 9999 (by omega) w
theorem Wp {c:Bool}{t:TypeId}{k:Ah}(g:VZ P c t=some k)(e:k≠.prim .i)(f:k≠.prim .s){x y:d9}{r:Bool}(d:mM k x y=some r)(w:World):
  (binOp .eql t (o8 ι x) (o8 ι y)).run P w=.ok (.bool r) w∧(binOp .neq t (o8 ι x) (o8 ι y)).run P w=.ok (.bool (!r)) w:=by
 refine Wo ?_ (λw=>BU g d w) w;cases k<;>first
  | (rename_i p;cases p<;>first
    | exact absurd rfl e
    | exact absurd rfl f
    | (obtain⟨a,b,rfl,rfl,rfl⟩:=iC d;simp))
  | (obtain⟨l,rfl,_⟩:=eB d;simp)
  | (cases x<;>cases y<;>simp [mM,jS,yQ,Mt,DY,nE] at d ⊢)
def qb (d:Nat)(e:TypeId)(X Y:Array Value):List Nat->Sem Bool
 | []=>pure true
 | i::l=>do
  if !(← Op.equalIn d e (← part e X (i*1)) (← part e Y (i*1))) then return false
  qb d e X Y l
theorem PO (d:Nat)(e:TypeId)(X Y:Array Value)(l:List Nat):
  (do
   let s ← forIn l ((none,()):Option Bool×Unit) λi _=>do
       let a ← part e X (i*1)
       let b ← part e Y (i*1)
       let r ← Op.equalIn d e a b
       if (!r)=true then pure (ForInStep.done (some false,())) else pure (ForInStep.yield (none,()))
   match s.fst with
   | some r=>pure r
   | none=>pure true:Sem Bool)=qb d e X Y l:=by
 induction l with
 | nil=>simp [qb]
 | cons f l ih=>rw [aiP];simp only [qb];rw [← ih];simp only [bind_assoc];congr 1;funext a;congr 1;funext b;congr 1;funext r;cases r<;>simp
theorem GX {t e:TypeId}{k:Nat}(h:P.underlying t=some (.array k e))(hs:aM P e=some 1)(X Y:Array Value)(d:Nat)(w:World):
  (Op.equalIn (d+1) t (.agg X) (.agg Y)).run P w=(qb d e X Y (List.range k)).run P w:=by
 simp only [Op.equalIn,Xl,run_underlying h,K9,run_sizeOf hs];rw [Std.Legacy.Range.forIn_eq_forIn_range'];rw [← PO,aiO];simp;congr 1;funext a w';obtain⟨o,u⟩:=a;cases o<;>rfl
theorem TD {e:TypeId}{kk:IntKind}(m:P.underlying e=some (.int kk))(hs:aM P e=some 1)(a b:List d9)(d:Nat)(w:World):∀(j off:Nat) (r:Bool),
  bO (List.replicate j .i) (a.drop off) (b.drop off)=some r->(qb (d+1) e (u6 ι a).toArray (u6 ι b).toArray (List.range' off j)).run P w=.ok r w:=by
 intro j;induction j with
 | zero=>intro off r h;rw [List.replicate_zero,lg] at h;cases h;simp [qb]
 | succ j ih=>
  intro off r h;rw [List.replicate_succ] at h;obtain⟨x,xs,y,ys,s,k,l,p,c⟩:=jG h;have t:off<a.length:=by have:=congrArg List.length k;simp at this;omega
  have u:off<b.length:=by have:=congrArg List.length l;simp at this;omega
  have f:=uO (P:=P) (ι:=ι) (Et m) hs a off (λ_=>⟨t,rfl⟩) w;have g:=uO (P:=P) (ι:=ι) (Et m) hs b off (λ_=>⟨u,rfl⟩) w;rw [k] at f;rw [l] at g;have f:(part e (u6 ι a).toArray off).run P w=.ok (o8 ι x) w:=f;have g:(part e (u6 ι b).toArray off).run P w=.ok (o8 ι y) w:=g;have q:=uP (ι:=ι) m p d w;rw [List.range'_succ];simp only [qb,aeG,Xl,f,g,q,K9];cases s with
  | false=>have c:some false=some r:=c;cases c;simp
  | true=>
   have c:bO (List.replicate j .i) xs ys=some r:=c;simp only [aiX,abQ,if_false];refine ih (off+1) r ?_;have n:a.drop (off+1)=xs:=by rw [← aiS,k];rfl
   have o:b.drop (off+1)=ys:=by rw [← aiS,l];rfl
   rw [n,o];exact c
theorem Az {t:TypeId}{k:Ah}(h:ZJ P t=some k):∃n e kk,P.underlying t=some (.array n e)∧P.underlying e=some (.int kk)∧aM P e=some 1∧P.eqGuardType P.depth t=false∧k=.flat (List.replicate n .i):=by unfold ZJ at h;split at h;rename_i n e c;split at h;rename_i kk b;split at h;rename_i a;cases h;exact⟨n,e,kk,c,b,a.1,a.2,rfl⟩;cases h;cases h;cases h
theorem xU {c:Bool}{t:TypeId}{k:Ah}(h:Wh P c t=some k):VZ P c t=some k∨ZJ P t=some k:=by unfold Wh at h;split at h;rename_i b a;cases h;exact .inl a;exact .inr h
theorem TF {c:Bool}{t:TypeId}{k:Ah}(a:Wh P c t=some k)(b:k≠.prim .i)(d:k≠.prim .s){x y:d9}{r:Bool}(g:mM k x y=some r)(w:World):
  (binOp .eql t (o8 ι x) (o8 ι y)).run P w=.ok (.bool r) w∧(binOp .neq t (o8 ι x) (o8 ι y)).run P w=.ok (.bool (!r)) w:=by
 rcases xU a with a | a;exact Wp a b d g w;obtain⟨n,e,q,p,f,h,_,rfl⟩:=Az a;obtain⟨l,rfl,j⟩:=eB g;obtain⟨m,rfl,o⟩:=eB j;refine Wo (by simp) (λw=>?_) w;have:Op.equal t (o8 ι (.agg l)) (o8 ι (.agg m))=Op.equalIn (9999+1) t (.agg (u6 ι l).toArray) (.agg (u6 ι m).toArray):=by simp [o8,Op.equal,Op.maxDepth]
 rw [this,GX p h,aiO];exact TD f h l m 9998 w n 0 r (by simpa using o)
end
section
variable {P:Program}{G:Mem}{ι:J9}{n:Nm}{slots:List Nat}{done:List (Option Nat)}{ls:List d9}{env:T d9}{a:Act}
def Gives (P:Program)(ρ:Operand->Value)(op:Op)(v:Value):Prop:=
 ∀(o:Oper),o.op=op->∀w,(execOp ρ o).run P w=.ok (.value v) w
theorem mW {a:BinOp}(b:a≠.eql)(c:a≠.neq){t:TypeId}{x y:Operand}{u v:Value}{w:World}:(eqGuard a t x y u v).run P w=.ok () w:=by unfold eqGuard;cases a<;>first | exact absurd rfl b | exact absurd rfl c | simp
theorem MU {a:BinOp}{t:TypeId}{x y:Operand}{u v:Array Value}{w:World}(h:P.eqGuardType P.depth t=false):(eqGuard a t x y (.agg u) (.agg v)).run P w=.ok () w:=by unfold eqGuard;cases a<;>simp [h]
theorem qR {b:BinOp}{t:TypeId}{x y:Operand}{e:TypeId}{a:Operand->Value}{v:Value}
  (c:∀w,(eqGuard b t x y (a x) (a y)).run P w=.ok () w) (h:∀w,(binOp b t (a x) (a y)).run P w=.ok v w):Gives P a (.binOp b t x y e) v:=by
 intro o d w;simp [execOp,d,c,h]
theorem bind_eq {α β:Type}{o:Option α}{f:α->Option β}{b:β}(h:(o >>= f)=some b):∃a,o=some a∧f a=some b:=by
 cases o with
 | none=>cases h
 | some a=>exact⟨a,rfl,h⟩
theorem Wq (p:Nat×Nat×OF)(ps:List (Nat×Nat×OF))(ls:List d9)(env:T d9)(cs:List d9):
  lay (p::ps) ls env cs=bi (Nat.beq (len' (p.2.2 ls env).cells) p.2.1) (bi (Nat.ble (Nat.add p.1 p.2.1) (len' cs)) (lay ps ls env (lX p.1 (p.2.2 ls env).cells cs)) none) none:=rfl
theorem AA (a:List Value):∀(A:Array Value) (off i:Nat),off+i+a.length<=A.size->
  ((a.zipIdx i).foldl (λcs (p:Value×Nat)=>cs.setIfInBounds (off+p.2) p.1) A).toList=A.toList.take (off+i)++(a++A.toList.drop (off+i+a.length)):=by
 induction a with
 | nil=>intro A off i h;simp
 | cons v a ih=>
  intro A off i h;simp only [List.zipIdx_cons,ak3,Y6] at h ⊢;rw [ih _ _ _ (by simp;omega)];simp only [Array.toList_setIfInBounds];have b:off+i<A.toList.length:=by simp;omega
  rw [List.take_set,show off+(i+1)=off+i+1 from by omega];rw [List.drop_set_of_lt (by omega)];rw [aaI b,List.set_append_right _ _ (by simp;omega)];simp [show min (off+i) A.size=off+i from by simp at b;omega];congr 1;omega
theorem AB (s:St P ι n slots done ls env a.tmps)(d:Nat->Option (Nat×Nat)):∀(parts:List (Nat×Operand)) (ps:List (Nat×Nat×Q7)),
  uG P slots done d parts=some ps->∀(cs r:List d9),aU n cs->lay (Aq ps) ls env cs=some r->
   Instr.fill d (u6 ι cs).toArray (parts.map λp=>(p.1,a.eval p.2))=some (u6 ι r).toArray∧aU n r∧r.length=cs.length:=by
 intro parts;induction parts with
 | nil=>intro ps h cs r c f;simp only [uG,J4] at h;subst h;cases f;exact⟨rfl,c,rfl⟩
 | cons p parts ih=>
  intro ps h cs r c f;simp only [uG] at h;split at h;rename_i b k x j C D g;cases h;simp only [Aq,Wq] at f;obtain⟨o,f⟩:=G8 f;obtain⟨q,f⟩:=G8 f;obtain⟨t,u⟩:=D5 s D;simp only [K4] at o q;have l:=gI o;have A:b+k<=cs.length:=X8 q;have i:b+((I4 x ls env).cells).length<=cs.length:=by omega
  have m:=yV b ((I4 x ls env).cells) cs i;obtain⟨w,y,z⟩:=ih j g _ r (by
   rw [cB] at c ⊢;intro v e;rw [mh b _ cs (by omega)] at e;simp only [aaD] at e;rcases e with e | e | e;exact c v (agn e);exact cB.1 (uJ u) v e;exact c v (aeI e)) f
  refine⟨?_,y,by rw [z,m]⟩;simp only [Z6,Instr.fill,C];rw [t,kY];simp only [aeM,V5];rw [if_neg (by simp [l];omega)];rw [← w];congr 1;have B:=AA (u6 ι (I4 x ls env).cells) (u6 ι cs).toArray b 0 (by simp;omega);apply ako.1;rw [← Array.foldl_toList];simp only [Array.toList_zipIdx];refine B.trans ?_;simp only [bA,mh b _ cs (show b<=cs.length by omega),abN,amj,amk,aaN,Y1];cases h
theorem GY:∀(fs:List Field) (pl:List (Nat×Nat)),placesOf P fs=some pl->∀w,
  ((fs.mapM λf=>do pure (f.offset,← sizeOf f.type):Sem (List (Nat×Nat)))).run P w=.ok pl w:=by
 intro fs;induction fs with
 | nil=>intro pl h w;simp only [placesOf,J4] at h;subst h;simp
 | cons f fs ih=>intro pl h w;simp only [placesOf] at h;split at h;rename_i s r b c;cases h;have a:=ih r c w;simp only [bind_pure_comp] at a;simp [ame,run_sizeOf b,a];cases h
theorem MV (s:St P ι n slots done ls env a.tmps){t:TypeId}{b:Array (Nat×Operand)}{o:yN}(h:xP P slots done t b.toList=some o):
  ∃zero ps,o=.p (.build zero ps)∧∀v,nR (.build zero ps) ls env=some v->v.lt n∧Gives P a.eval (.build t b) (o8 ι v):=by
 simp only [xP] at h;have j:(b.map λp=>(p.1,a.eval p.2)).toList=b.toList.map λp=>(p.1,a.eval p.2):=by simp
 split at h;rename_i zero c q G;split at h;rename_i I E;split at h;rename_i ps l;cases h;refine⟨zero,ps,rfl,λv H=>?_⟩;obtain⟨r,A,B⟩:=D6 H;cases B;obtain⟨z,d,e,g⟩:=dB (P:=P) (w:=default) q ι;obtain⟨u,y,_⟩:=AB s _ b.toList ps l zero r (g n) A;refine⟨y,λo D w=>?_⟩;obtain⟨z,d,e,g⟩:=dB (P:=P) (w:=w) q ι;simp only [execOp,D,Instr.build,Xl,d,K9,run_underlying G,e];have K:=GY (P:=P) c.toList I E w;have C:(c.mapM λf=>do pure (f.offset,← sizeOf f.type):Sem (Array (Nat×Nat)))=Functor.map List.toArray (c.toList.mapM λf=>do pure (f.offset,← sizeOf f.type):Sem (List (Nat×Nat))):=by rw [← List.mapM_toArray]
 rw [C];simp only [Sem.run_map,K,K9,j];have m:(λx:Nat=>I.toArray[x]?)=λi:Nat=>I[i]?:=by funext i;simp
 rw [m,u];simp [o8];cases h;cases h;rename_i zero k J q G;split at h;rename_i L F;split at h;rename_i ps l;cases h;refine⟨zero,ps,rfl,λv H=>?_⟩;obtain⟨r,A,B⟩:=D6 H;cases B;obtain⟨z,d,e,g⟩:=dB (P:=P) (w:=default) q ι;obtain⟨u,y,_⟩:=AB s _ b.toList ps l zero r (g n) A;refine⟨y,λo D w=>?_⟩;obtain⟨z,d,e,g⟩:=dB (P:=P) (w:=w) q ι;simp only [execOp,D,Instr.build,Xl,d,K9,run_underlying G,e,run_sizeOf F,j];rw [u];simp [o8];cases h;cases h;cases h
end
section
variable {P:Program}{G:Mem}{ι:J9}{n:Nm}{slots:List Nat}{done:List (Option Nat)}{ls:List d9}{env:T d9}{a:Act}
theorem uQ {α:Type}(p q:Nat)(x y:α):bi (Nat.beq p q) x y=if p=q then x else y:=by by_cases h:p=q;subst h;rw [abB,if_pos rfl];rfl;rw [show Nat.beq p q=false from abP.2 λe=>h (gI e),if_neg h];rfl
theorem P5 {l:List d9}{v:d9}(h:aU n l)(a:v∈l):v.lt n:=cB.1 h v a
def za (sz:Option Nat)(l:List d9)(o:Nat):Option d9:=match sz with
 | none=>l[o]?
 | some k=>ob (takeN k (l.drop o)) λr=>some (.agg r)
theorem Ev {t:TypeId}{c:Option Nat}(f:partT P t=some c){l:List d9}(b:aU n l)(o:Nat){v:d9}
  (a:za c l o=some v):
  v.lt n∧∀w,(part t (u6 ι l).toArray o).run P w=.ok (o8 ι v) w:=by
 rcases Er f with⟨rfl,ha,k,hk⟩ | ⟨k,rfl,ha,hk⟩;simp only [za] at a;refine⟨P5 b (Y2 a),λw=>?_⟩;simp [part,qP ha,aL,a];simp only [za] at a;obtain⟨r,d,e⟩:=D6 a;cases e;obtain⟨rfl,_⟩:=kX _ _ _ d;refine⟨cB.2 λv a=>P5 b (aeI (agn a)),λw=>?_⟩;simp [part,qP ha,run_sizeOf hk,o8,bA,amj,amk]
theorem Im (s:St P ι n slots done ls env a.tmps){x:Option Operand}{o:Option Q7}(h:cOpt P slots done x=some o):
  (x=none∧o=none)∨∃y z,x=some y∧o=some z∧a.eval y=o8 ι (I4 z ls env):=by
 cases x with
 | none=>simp only [cOpt,J4] at h;exact .inl ⟨rfl,h.symm⟩
 | some y=>
  simp only [cOpt] at h;cases hy:N7 P slots done y with
  | none=>simp [hy] at h
  | some z=>simp only [hy,J4] at h;exact .inr ⟨y,z,rfl,h.symm,(D5 s hy).1⟩
theorem sw (s:St P ι n slots done ls env a.tmps){lo u:Option Operand}{p j:Option Q7}(v:cOpt P slots done lo=some p)(t:cOpt P slots done u=some j)
  {β:Type} {k:Nat->Nat->Option β} {d:Nat} {r:β} (h:fD (kT p) 0 ls env (λl=>fD (kT j) d ls env λh=>k l h)=some r):
  ∃l h,k l h=some r∧(u=none->h=d)∧(lo=none->l=0)∧
   (∀(isSlice:Bool) (len cap:Nat) (w:World),len=d->l<=h->h<=cap->(Instr.sliceBounds isSlice len cap (lo.map a.eval) (u.map a.eval) none).run P w=.ok (l,h,cap) w):=by
 rcases Im s v with⟨rfl,rfl⟩ | ⟨y,z,rfl,rfl,hy⟩<;>rcases Im s t with⟨rfl,rfl⟩ | ⟨y',z',rfl,rfl,hy'⟩
 exact⟨0,d,h,λ_=>rfl,λ_=>rfl,λo len cap w g _ _=>by subst g;simp [Instr.sliceBounds]⟩;obtain⟨i,m,b,f⟩:=fI h;refine⟨0,m,f,(by simp),(by simp),λo len cap w g c e=>?_⟩;have b:I4 z' ls env=.int i (m:Int):=b;simp only [acu,ahf,hy',b,o8,Instr.sliceBounds,Instr.sliceBound,asIntOf];cases o<;>simp [e]
 obtain⟨i,m,b,f⟩:=fI h;refine⟨m,d,f,(by simp),(by simp),λo len cap w g c e=>?_⟩;have b:I4 z ls env=.int i (m:Int):=b;subst g;simp only [acu,ahf,hy,b,o8,Instr.sliceBounds,Instr.sliceBound,asIntOf];simp [c];obtain⟨i,m,b,f⟩:=fI h;obtain⟨B,x,q,A⟩:=fI f;refine⟨m,x,A,(by simp),(by simp),λo len cap w g c e=>?_⟩;have b:I4 z ls env=.int i (m:Int):=b;have q:I4 z' ls env=.int B (x:Int):=q;simp only [acu,hy,b,hy',q,o8,Instr.sliceBounds,Instr.sliceBound,asIntOf];cases o<;>simp [c,e]
theorem wW {t e:TypeId}{es:Nat}(c:P.underlying t=some (.slice e))(hs:aM P e=some es)(a:Addr)(len cap:Nat)(k:IntKind)(i:Nat)(b:i<len)(w:World):
  (Instr.indexAt t (.slice (some a) len cap) (.int k (i:Int))).run P w=.ok (.pointer (some (a.add (i*es)))) w:=by
 simp [Instr.indexAt,asIntOf,run_underlying c,run_sizeOf hs,b]
theorem GZ {t e:TypeId}{es len:Nat}(c:P.underlying t=some (.array len e))(hs:aM P e=some es)(a:Addr)(k:IntKind)(i:Nat)(b:i<len)(w:World):
  (Instr.indexAt t (.pointer (some a)) (.int k (i:Int))).run P w=.ok (.pointer (some (a.add (i*es)))) w:=by
 simp [Instr.indexAt,asIntOf,run_underlying c,run_sizeOf hs,b,Instr.sureAddr]
theorem MW (a:Bool):∀(ys:List d9) (x v:d9),aU n ys->x.lt n->yR a ys x=some v->v.lt n∧
  ∀w,((u6 ι ys).foldlM (if a then Builtin.max2 else Builtin.min2) (o8 ι x)).run P w=.ok (o8 ι v) w:=by
 intro ys;induction ys with
 | nil=>intro x v _ d h;cases h;exact⟨d,λw=>by simp [u6]⟩
 | cons y ys ih=>
  intro x v c d h;have h:ob (mm2 a x y) (λz=>yR a ys z)=some v:=h;obtain⟨z,b,j⟩:=D6 h;simp only [mm2] at b;obtain⟨k,p,e,b⟩:=jX b;obtain⟨l,q,f,b⟩:=jX b;cases b;obtain⟨g,i⟩:=ih _ v c.2 (by simp [d9.lt]) j;refine⟨g,λw=>?_⟩;subst e;subst f;simp only [u6,List.foldlM_cons,Xl,o8];have:((if a=true then Builtin.max2 else Builtin.min2) (.int k p) (.int l q)).run P w=.ok (.int k (bi a (bi (kQ p q) q p) (bi (kQ q p) q p))) w:=by cases a;simp only [abQ,if_false,Builtin.min2,Z8,P9,iA];by_cases hlt:q<p;simp [hlt];simp [hlt];simp only [if_true,Builtin.max2,Z8,U4,iA];by_cases hlt:p<q;simp [hlt];simp [hlt]
  rw [this];exact i w
end
section
variable {P:Program}{G:Mem}{ι:J9}{n:Nm}{slots:List Nat}{done:List (Option Nat)}{ls:List d9}{env:T d9}{a:Act}
theorem aR {x y:Vu}(h:(pure (yN.p x):Option yN)=some (.p y)):x=y:=by cases h;rfl
theorem TG {f:FuncId}{a:Func}(h:P.funcs[f]?=some a)(hb:a.body.isNone=true)(b:a.name= "internal/abi.NoEscape")(i:(Extern.findNext a).isNone=true)(v:Value)(w:World):
  (callFunc f #[v]).run P w=.ok (.value v) w:=by
 have c:Extern.allGenericRows.lookup "internal/abi.NoEscape"=none:=by kernel_rfl
 have d:Extern.allTypedRows.lookup "internal/abi.NoEscape"=none:=by kernel_rfl
 have e:Extern.allRows.lookup "internal/abi.NoEscape"=some Extern.AbiNoEscape.same:=by kernel_rfl
 have g:Extern.find a=some Extern.AbiNoEscape.same:=by unfold Extern.find;simp only [b,c,d,e];rfl
 rw [run_callFunc_extern h (by rw [b];decide) hb (by simpa using i) g];rfl
set_option maxHeartbeats 1000000 in
theorem sD (s:St P ι n slots done ls env a.tmps){I:Op}{S:Vu}(h:gF P slots done I=some (.p S)){v:d9}(F:nR S ls env=some v):
  v.lt n∧Gives P a.eval I (o8 ι v):=by
 cases I with
 | move x=>obtain⟨x',A,h⟩:=bind_eq h;obtain rfl:=aR h;cases F;obtain⟨B,E⟩:=D5 s A;exact⟨E,λo C w=>by simp [execOp,C,B]⟩
 | assign x=>obtain⟨x',A,h⟩:=bind_eq h;obtain rfl:=aR h;cases F;obtain⟨B,E⟩:=D5 s A;exact⟨E,λo C w=>by simp [execOp,C,B]⟩
 | pick c x y=>
  obtain⟨c',hc,h⟩:=bind_eq h;obtain⟨x',A,h⟩:=bind_eq h;obtain⟨y',hy,h⟩:=bind_eq h;obtain rfl:=aR h;obtain⟨b,d,D⟩:=qQ F;have d:I4 c' ls env=.bool b:=d;obtain⟨B,_⟩:=D5 s hc;obtain⟨E,ac⟩:=D5 s A;obtain⟨V,ad⟩:=D5 s hy;rw [d] at B;cases b with
  | true=>cases D;exact⟨ac,λo C w=>by simp [execOp,C,B,E,o8,asBool]⟩
  | false=>cases D;exact⟨ad,λo C w=>by simp [execOp,C,B,V,o8,asBool]⟩
 | build t parts=>obtain⟨zero,ps,e,hb⟩:=MV s (show xP P slots done t parts.toList=some (.p S) from h);cases e;exact hb v F
 | nilCheck x=>
  obtain⟨x',A,h⟩:=bind_eq h;obtain rfl:=aR h;obtain⟨B,E⟩:=D5 s A;have F:Aj (I4 x' ls env)=some v:=F;generalize I4 x' ls env=u at *;have:v=u∧∀o:Oper,o.op=.nilCheck x->∀w,(execOp a.eval o).run P w=.ok (.value (o8 ι u)) w:=by
   cases u<;>simp only [Aj,J4,reduceCtorEq] at F<;>try (refine⟨F.symm,λo C w=>?_⟩;simp [execOp,C,B,o8];done)
   rename_i fn p q;cases fn<;>simp only [J4,reduceCtorEq] at F
   refine⟨F.symm,λo C w=>?_⟩;simp [execOp,C,B,o8,jo]
  obtain⟨rfl,D⟩:=this;exact⟨E,D⟩
 | binOp I t x y yt=>
  simp only [gF] at h;by_cases d:I=.eql∨I=.neq
  ·have O:∃k x' y',Wh P (wU x||wU y) t=some k∧N7 P slots done x=some x'∧N7 P slots done y=some y'∧
     ((k=.prim .i∨k=.prim .s)∧S=.ib I x' y'∨(k≠.prim .i∧k≠.prim .s)∧S=.eq (decide (I=.neq)) k x' y'):=by
    rcases d with rfl | rfl <;>
    ·simp only at h;obtain⟨k,K,h⟩:=bind_eq h;cases k with
     | prim p=>
      cases p <;>
      ·simp only at h;obtain⟨x',A,h⟩:=bind_eq h;obtain⟨y',hy,h⟩:=bind_eq h;have:=aR h;exact⟨_,x',y',K,A,hy,by simp [this]⟩
     | _=>simp only at h;obtain⟨x',A,h⟩:=bind_eq h;obtain⟨y',hy,h⟩:=bind_eq h;have:=aR h;exact⟨_,x',y',K,A,hy,by simp [this]⟩
   obtain⟨k,x',y',K,A,hy,O⟩:=O;obtain⟨B,_⟩:=D5 s A;obtain⟨E,_⟩:=D5 s hy;rcases O with⟨_,rfl⟩ | ⟨⟨hk1,hk2⟩,rfl⟩;have a0:I≠.shl:=by rcases d with rfl | rfl<;>simp
   have a1:I≠.shr:=by rcases d with rfl | rfl<;>simp
   have F:CR (JR I) (JU I) (I4 x' ls env) (I4 y' ls env)=some v:=by rcases d with rfl | rfl<;>exact F
   refine⟨(su (P:=P) (ι:=ι) a0 a1 F t default).2,qR (λw=>?_) (λw=>by rw [B,E];exact (su (n:=n) a0 a1 F t w).1)⟩;rw [B,E];rcases TA F with⟨k,p,W⟩ | ⟨p,W⟩<;>rw [W]<;>exact sj (by simp [o8]) (by simp [o8])
   ·have F:∃r,mM k (I4 x' ls env) (I4 y' ls env)=some r∧v=.bool (if I=.neq then !r else r):=by
     rcases d with rfl | rfl <;>
     ·obtain⟨r,d,D⟩:=D6 F;cases D;exact⟨r,d,rfl⟩
    obtain⟨r,hr,rfl⟩:=F;refine⟨by simp [d9.lt],qR (λw=>?_) (λw=>?_)⟩
    ·rw [B,E];cases k with
     | prim p=>
      cases p with
      | b=>obtain⟨p,q,H,Q,_⟩:=iC hr;rw [H,Q];exact sj (by simp [o8]) (by simp [o8])
      | i=>exact absurd rfl hk1
      | s=>exact absurd rfl hk2
     | flat ks=>
      obtain⟨l,H,Q⟩:=eB hr;obtain⟨m,h5,h6⟩:=eB Q;rw [H,h5];refine MU ?_;rcases (xU K).symm with K | K;obtain⟨_,_,_,_,_,_,h7,_⟩:=Az K;exact h7;simp only [VZ] at K;split at K<;>first | (simp at K;done) | (split at K<;>simp at K;done) | skip
      split at K;split at K;assumption;cases K;cases K
     | iface=>
      have hc:wU x=true∨wU y=true:=by
       rcases (xU K).symm with K | K;obtain⟨_,_,_,_,_,_,_,h7⟩:=Az K;cases h7;simp only [VZ] at K;split at K<;>first | (simp at K;done) | (split at K<;>simp at K;done) | (split at K<;>first | (split at K<;>simp at K;done) | (simp at K;done)) | skip
       split at K;rename_i hc;simpa using hc;simp at K
      exact sj (λp q=>by cases A:I4 x' ls env<;>simp_all [mM,nE,o8]) (hc.elim (λh=>.inr (.inr (.inl h))) (λh=>.inr (.inr (.inr h))))
     | _=>refine sj (λp q=>?_) (.inl ?_)<;>cases A:I4 x' ls env<;>simp_all [mM,jS,yQ,Mt,DY,o8]
    rw [B,E];have:=TF K hk1 hk2 (ι:=ι) hr w;rcases d with rfl | rfl;simpa [o8] using this.1;simpa [o8] using this.2
  ·have J:I≠.eql∧I≠.neq:=⟨λe=>d (.inl e),λe=>d (.inr e)⟩;have O:∃x' y',N7 P slots done x=some x'∧N7 P slots done y=some y'∧S=.ib I x' y':=by
    cases I<;>first
     | exact absurd rfl J.1
     | exact absurd rfl J.2
     | (simp only at h
        obtain⟨x',A,h⟩:=bind_eq h;obtain⟨y',hy,h⟩:=bind_eq h;exact⟨x',y',A,hy,(aR h).symm⟩)
   obtain⟨x',y',A,hy,rfl⟩:=O;obtain⟨B,_⟩:=D5 s A;obtain⟨E,_⟩:=D5 s hy;by_cases a0:I=.shl;subst a0;refine⟨(Ij (P:=P) (ι:=ι) F t default).2,qR (λw=>mW (by simp) (by simp)) (λw=>by rw [B,E];exact (Ij (n:=n) F t w).1)⟩;by_cases a1:I=.shr;subst a1;refine⟨(Ik (P:=P) (ι:=ι) F t default).2,qR (λw=>mW (by simp) (by simp)) (λw=>by rw [B,E];exact (Ik (n:=n) F t w).1)⟩;have F:CR (JR I) (JU I) (I4 x' ls env) (I4 y' ls env)=some v:=by cases I<;>first | exact absurd rfl a0 | exact absurd rfl a1 | exact F
   exact⟨(su (P:=P) (ι:=ι) a0 a1 F t default).2,qR (λw=>mW J.1 J.2) (λw=>by rw [B,E];exact (su (n:=n) a0 a1 F t w).1)⟩
 | unOp I t x=>
  have O:∃x',N7 P slots done x=some x'∧(I=.not∧S=.not x'∨I=.neg∧S=.neg x'∨I=.xor∧S=.inv x'):=by
   simp only [gF] at h;cases I<;>simp only at h<;>first
    | (cases h;done)
    | (obtain⟨x',A,h⟩:=bind_eq h
       exact⟨x',A,by simp [aR h]⟩)
  obtain⟨x',A,O⟩:=O;obtain⟨B,_⟩:=D5 s A;rcases O with⟨rfl,rfl⟩ | ⟨rfl,rfl⟩ | ⟨rfl,rfl⟩;obtain⟨b,d,D⟩:=qQ F;have d:I4 x' ls env=.bool b:=d;cases D;exact⟨by simp [d9.lt],λo C w=>by simp [execOp,C,B,d,o8,Op.unary]⟩;obtain⟨k,m,d,D⟩:=jX F;have d:I4 x' ls env=.int k m:=d;cases D;exact⟨by simp [d9.lt],λo C w=>by simp [execOp,C,B,d,o8,Op.unary,Op.intArith,uN]⟩;obtain⟨k,m,d,D⟩:=jX F;have d:I4 x' ls env=.int k m:=d;cases D;exact⟨by simp [d9.lt,yP],λo C w=>by cases K:k.signed<;>simp [execOp,C,B,d,o8,Op.unary,Op.intBits,yP,K]⟩
 | convert src dst x=>
  simp only [gF] at h;obtain⟨us,ag,h⟩:=bind_eq h;obtain⟨ud,af,h⟩:=bind_eq h;have O:∃x',N7 P slots done x=some x'∧∃j k,us=.int j∧ud=.int k∧S=.conv k x':=by split at h;obtain⟨x',A,h⟩:=bind_eq h;exact⟨x',A,_,_,rfl,rfl,(aR h).symm⟩;obtain⟨ue,_,h⟩:=bind_eq h;split at h;obtain⟨x',A,h⟩:=bind_eq h;cases h;cases h;obtain⟨ue,_,h⟩:=bind_eq h;split at h;obtain⟨x',A,h⟩:=bind_eq h;cases h;cases h;obtain⟨_,_,h⟩:=bind_eq h;split at h;cases h;obtain⟨_,_,h⟩:=bind_eq h;cases h;obtain⟨_,_,h⟩:=bind_eq h;split at h;cases h;obtain⟨_,_,h⟩:=bind_eq h;cases h;cases h
  obtain⟨x',A,j,k,rfl,rfl,rfl⟩:=O;obtain⟨B,E⟩:=D5 s A;obtain⟨k',m,d,D⟩:=jX F;have d:I4 x' ls env=.int k' m:=d;cases D;exact⟨by simp [d9.lt],λo C w=>by simp [execOp,C,convert,run_underlying ag,run_underlying af,B,d,o8,Conv.intToInt,uN]⟩
 | makeInterface t x=>
  simp only [gF] at h;obtain⟨u,L,h⟩:=bind_eq h;have O:∃x',N7 P slots done x=some x'∧S=.mkIface t x'∧∀ms,u≠.interface ms:=by split at h;cases h;rename_i J;obtain⟨x',A,h⟩:=bind_eq h;exact⟨x',A,(aR h).symm,λms e=>J ms e⟩
  obtain⟨x',A,rfl,J⟩:=O;obtain⟨B,E⟩:=D5 s A;cases F;refine⟨by simpa [d9.lt] using E,λo C w=>?_⟩;simp only [execOp,C,Instr.makeInterface,Xl,run_underlying L,K9,B];cases u<;>first | exact absurd rfl (J _) | simp [o8]
 | typeAssert x xt t ok=>
  simp only [gF] at h;obtain⟨u,L,h⟩:=bind_eq h;have O:∃z x',zeroV P t=some z∧N7 P slots done x=some x'∧S=.assert t z ok x'∧∀ms,u≠.interface ms:=by split at h;cases h;rename_i J;obtain⟨z,hz,h⟩:=bind_eq h;obtain⟨x',A,h⟩:=bind_eq h;exact⟨z,x',hz,A,(aR h).symm,λms e=>J ms e⟩
  obtain⟨z,x',hz,A,rfl,J⟩:=O;obtain⟨B,E⟩:=D5 s A;have G:Ro t z ok (I4 x' ls env)=some v:=F;clear F;generalize I4 x' ls env=y at *;cases y with
  | nilIface=>
   cases ok with
   | false=>cases G
   | true=>have G:some (d9.tuple [z,.bool false])=some v:=G;cases G;refine⟨⟨(nV (w:=default) hz ι).2 n,trivial,trivial⟩,λo C w=>?_⟩;have a8:=(nV (w:=w) hz ι).1;simp only [execOp,C,Instr.typeAssert,Xl,run_underlying L,K9,B,o8];cases u<;>first | exact absurd rfl (J _) | simp [a8,u6,o8]
  | iface t' y=>
   have G:bi (Nat.beq t' t) (some (bi ok (.tuple [y,.bool true]) y)) (bi ok (some (.tuple [z,.bool false])) none)=some v:=G;cases hb:Nat.beq t' t with
   | true=>
    have he:=gI hb;rw [hb] at G;have G:some (bi ok (.tuple [y,.bool true]) y)=some v:=G;cases ok with
    | false=>have G:some y=some v:=G;cases G;refine⟨E,λo C w=>?_⟩;simp only [execOp,C,Instr.typeAssert,Xl,run_underlying L,K9,B,o8];cases u<;>first | exact absurd rfl (J _) | simp [he]
    | true=>have G:some (d9.tuple [y,.bool true])=some v:=G;cases G;refine⟨⟨E,trivial,trivial⟩,λo C w=>?_⟩;simp only [execOp,C,Instr.typeAssert,Xl,run_underlying L,K9,B,o8];cases u<;>first | exact absurd rfl (J _) | simp [he,u6,o8]
   | false=>
    have he:t'≠t:=Nat.ne_of_beq_eq_false hb;rw [hb] at G;cases ok with
    | false=>cases G
    | true=>have G:some (d9.tuple [z,.bool false])=some v:=G;cases G;refine⟨⟨(nV (w:=default) hz ι).2 n,trivial,trivial⟩,λo C w=>?_⟩;have a8:=(nV (w:=w) hz ι).1;simp only [execOp,C,Instr.typeAssert,Xl,run_underlying L,K9,B,o8];cases u<;>first | exact absurd rfl (J _) | simp [a8,he,u6,o8]
  | _=>cases G
 | makeFunc fn f c=>
  simp only [gF] at h;have O:∃g f' c',fn=.func g∧jE P slots done f.toList=some f'∧jE P slots done c.toList=some c'∧S=.mkFunc (.func g) f' c':=by split at h;obtain⟨f',W,h⟩:=bind_eq h;obtain⟨c',hc,h⟩:=bind_eq h;exact⟨_,f',c',rfl,W,hc,(aR h).symm⟩;cases h
  obtain⟨g,f',c',rfl,W,hc,rfl⟩:=O;cases F;obtain⟨B,E⟩:=kZ s W;obtain⟨V,e4⟩:=kZ s hc;refine⟨⟨trivial,E,e4⟩,λo C w=>?_⟩;have q1:f.map a.eval=(u6 ι (evs (fV f') ls env)).toArray:=by apply ako.1;rw [akx];exact B
  have q2:c.map a.eval=(u6 ι (evs (fV c') ls env)).toArray:=by apply ako.1;rw [akx];exact V
  simp [execOp,C,Instr.makeFunc,q1,q2,o8,jo]
 | slice t x lo hi mx=>
  simp only [gF] at h;cases mx with
  | some _=>simp at h
  | none=>
  simp only at h;obtain⟨u,L,h⟩:=bind_eq h;split at h;obtain⟨x',A,h⟩:=bind_eq h;obtain⟨ab,a5,h⟩:=bind_eq h;obtain⟨a9,a4,h⟩:=bind_eq h;obtain rfl:=aR h;obtain⟨B,E⟩:=D5 s A;obtain⟨str,d,D⟩:=iH F;have d:I4 x' ls env=.str str:=d;obtain⟨l,h,H,_,_,Q⟩:=sw s a5 a4 D;obtain⟨Z,H⟩:=G8 H;obtain⟨g2,H⟩:=G8 H;obtain⟨r,h5,h6⟩:=D6 H;cases h6;have Z:=X8 Z;have g2:=X8 g2;simp only [K4,mg] at *;obtain⟨rfl,_⟩:=kX _ _ _ h5;refine⟨by simp [d9.lt],λo C w=>?_⟩;simp only [execOp,C,Instr.sliceAt,Xl,run_underlying L,K9,Instr.slice,B,d,o8];simp only [ahf,Option.isSome_none,abQ,if_false,Xl,oK,Z8,K9];rw [Q false str.length str.length w rfl Z g2];simp only [K9,Z8];congr 3;apply ByteArray.ext;simp [ByteArray.data_extract,ahv];obtain⟨es,_,h⟩:=bind_eq h;obtain⟨x',A,h⟩:=bind_eq h;obtain⟨ab,a5,h⟩:=bind_eq h;obtain⟨a9,a4,h⟩:=bind_eq h;cases h;rename_i n' e';obtain⟨es,U,h⟩:=bind_eq h;obtain⟨x',A,h⟩:=bind_eq h;obtain⟨ab,a5,h⟩:=bind_eq h;obtain⟨a9,a4,h⟩:=bind_eq h;obtain rfl:=aR h;obtain⟨B,E⟩:=D5 s A;obtain⟨i,o,d,D⟩:=eu F;have d:I4 x' ls env=.ptr i o:=d;rw [d] at B E;obtain⟨l,h,H,_,_,Q⟩:=sw s a5 a4 D;obtain⟨Z,H⟩:=G8 H;obtain⟨g2,H⟩:=G8 H;cases H;have Z:=X8 Z;have g2:=X8 g2;refine⟨E,λI C w=>?_⟩;simp only [execOp,C,Instr.sliceAt,Xl,run_underlying L,K9,B,o8,Instr.sureAddr,Z8,ahf];rw [Q false _ _ w rfl Z g2];simp only [K9,Xl,run_sizeOf U,Z8];rw [uQ,J9.oJ];by_cases hl:n'=l;rw [if_pos hl,if_pos hl.symm];rfl;rw [if_neg hl,if_neg (λe=>hl e.symm)];rfl;cases h
 | fieldAddr t x f=>
  simp only [gF] at h;obtain⟨u,L,h⟩:=bind_eq h;have O:∃fs Y x' X,u=.struct fs∧fs[f]?=some Y∧aM P Y.type=some X∧X≠0∧N7 P slots done x=some x'∧S=.fAddr Y.offset x':=by split at h;obtain⟨Y,W,h⟩:=bind_eq h;obtain⟨X,R,h⟩:=bind_eq h;split at h;cases h;obtain⟨x',A,h⟩:=bind_eq h;exact⟨_,Y,x',X,rfl,W,R,by assumption,A,(aR h).symm⟩;cases h
  obtain⟨fs,Y,x',X,rfl,W,R,J,A,rfl⟩:=O;obtain⟨B,E⟩:=D5 s A;obtain⟨i,o,d,D⟩:=eu F;have d:I4 x' ls env=.ptr i o:=d;cases D;rw [d] at B E;refine⟨E,λI C w=>?_⟩;simp only [execOp,C,Instr.fieldAt,Xl,run_underlying L,K9,W,B,o8,Instr.sureAddr,Z8,fieldPlace,run_sizeOf R,if_neg J,J9.oJ];rfl
 | field t x f=>
  simp only [gF] at h;obtain⟨u,L,h⟩:=bind_eq h;have O:∃fs Y x' X,u=.struct fs∧fs[f]?=some Y∧partT P Y.type=some X∧N7 P slots done x=some x'∧S=.fld Y.offset X x':=by split at h;obtain⟨Y,W,h⟩:=bind_eq h;obtain⟨X,R,h⟩:=bind_eq h;obtain⟨x',A,h⟩:=bind_eq h;exact⟨_,Y,x',X,rfl,W,R,A,(aR h).symm⟩;cases h
  obtain⟨fs,Y,x',X,rfl,W,R,A,rfl⟩:=O;obtain⟨B,E⟩:=D5 s A;have a6:∃l,I4 x' ls env=.agg l∧za X l Y.offset=some v:=by
   cases X with
   | none=>obtain⟨l,d,D⟩:=eB F;exact⟨l,d,by simpa [za] using D⟩
   | some k=>obtain⟨l,d,D⟩:=eB F;exact⟨l,d,by simpa [za] using D⟩
  obtain⟨l,d,D⟩:=a6;rw [d] at B E;obtain⟨Z,g2⟩:=Ev (ι:=ι) R (show aU n l from E) Y.offset D;refine⟨Z,λI C w=>?_⟩;simp [execOp,C,Instr.field,run_underlying L,W,B,o8,asAgg,g2]
 | indexAddr t x i=>simp only [gF] at h;obtain⟨u,L,h⟩:=bind_eq h;split at h;obtain⟨es,U,h⟩:=bind_eq h;obtain⟨x',A,h⟩:=bind_eq h;obtain⟨i',hi,h⟩:=bind_eq h;obtain rfl:=aR h;obtain⟨B,E⟩:=D5 s A;obtain⟨V,_⟩:=D5 s hi;rcases rZ F with⟨_,D⟩ | ⟨id,off,N,cap,d,D⟩ | ⟨id,off,N,es',d,D⟩;cases D;obtain⟨k,m,H,M,Q⟩:=idx_eq D;cases Q;have d:I4 x' ls env=.slice id off N cap:=d;have H:I4 i' ls env=.int k (m:Int):=H;rw [d] at B E;refine⟨E,λI C w=>?_⟩;simp only [execOp,C,Xl,B,V,H,o8,wW L U _ _ _ _ _ M,J9.oJ,K9,Z8];rfl;obtain⟨k,m,H,M,Q⟩:=idx_eq D;cases Q;have d:I4 x' ls env=.sliceU id off N es':=d;have H:I4 i' ls env=.int k (m:Int):=H;rw [d] at B E;refine⟨E.1,λI C w=>?_⟩;simp only [execOp,C,Xl,B,V,H,o8,wW L U _ _ _ _ _ M,J9.oJ,K9,Z8];rfl;obtain⟨es,U,h⟩:=bind_eq h;obtain⟨x',A,h⟩:=bind_eq h;obtain⟨i',hi,h⟩:=bind_eq h;obtain rfl:=aR h;obtain⟨B,E⟩:=D5 s A;obtain⟨V,_⟩:=D5 s hi;obtain⟨id,off,d,D⟩:=eu F;obtain⟨k,m,H,M,Q⟩:=idx_eq D;cases Q;have d:I4 x' ls env=.ptr id off:=d;have H:I4 i' ls env=.int k (m:Int):=H;rw [d] at B E;refine⟨E,λI C w=>?_⟩;simp only [execOp,C,Xl,B,V,H,o8,GZ L U _ _ _ M,J9.oJ,K9,Z8];rfl;cases h
 | index t x i=>
  simp only [gF] at h;obtain⟨u,L,h⟩:=bind_eq h;split at h;obtain⟨x',A,h⟩:=bind_eq h;obtain⟨i',hi,h⟩:=bind_eq h;obtain rfl:=aR h;obtain⟨B,E⟩:=D5 s A;obtain⟨V,_⟩:=D5 s hi;obtain⟨str,d,D⟩:=iH F;obtain⟨k,m,H,Q⟩:=fI D;obtain⟨b,h5,h6⟩:=D6 Q;cases h6;have d:I4 x' ls env=.str str:=d;have H:I4 i' ls env=.int k (m:Int):=H;rw [jh] at h5;refine⟨by simp [d9.lt],λI C w=>?_⟩;obtain⟨M,hb⟩:=J2.1 h5;have aa:(⟨str.toArray⟩:ByteArray)[m]?=some b:=by rw [ByteArray.getElem?_lt' _ _ (by rw [oK];exact M)];congr 1
  simp only [execOp,C,Instr.index,Xl,run_underlying L,B,d,V,H,o8,asIntOf,Z8,K9];rw [if_pos (Int.natCast_nonneg m),aja,aa];rfl;rename_i N ai;obtain⟨es,U,h⟩:=bind_eq h;obtain⟨X,R,h⟩:=bind_eq h;obtain⟨x',A,h⟩:=bind_eq h;obtain⟨i',hi,h⟩:=bind_eq h;obtain rfl:=aR h;obtain⟨B,E⟩:=D5 s A;obtain⟨V,_⟩:=D5 s hi;have a6:∃l k,∃m:Nat,I4 x' ls env=.agg l∧I4 i' ls env=.int k (m:Int)∧m<N∧za X l (m*es)=some v:=by
   cases X with
   | none=>obtain⟨l,d,D⟩:=eB F;obtain⟨k,m,H,M,Q⟩:=idx_eq D;exact⟨l,k,m,d,H,M,by simpa [za] using Q⟩
   | some k=>obtain⟨l,d,D⟩:=eB F;obtain⟨k',m,H,M,Q⟩:=idx_eq D;exact⟨l,k',m,d,H,M,by simpa [za] using Q⟩
  obtain⟨l,k,m,d,H,M,D⟩:=a6;rw [d] at B E;obtain⟨Z,g2⟩:=Ev (ι:=ι) R (show aU n l from E) (m*es) D;refine⟨Z,λI C w=>?_⟩;simp [execOp,C,Instr.index,run_underlying L,run_sizeOf U,B,V,H,o8,asIntOf,M,g2];cases h
 | extract x i=>simp only [gF] at h;obtain⟨x',A,h⟩:=bind_eq h;obtain rfl:=aR h;obtain⟨B,E⟩:=D5 s A;obtain⟨l,d,D⟩:=ZN F;have d:I4 x' ls env=.tuple l:=d;rw [jh] at D;rw [d] at B E;refine⟨P5 (show aU n l from E) (Y2 D),λI C w=>?_⟩;simp [execOp,C,Instr.extract,B,o8,aL,D]
 | call c=>
  obtain⟨a3,T,ts⟩:=c;simp only [gF] at h;cases a3 with
  | invoke _ _=>cases h
  | value f=>
   cases f with
   | func f=>
    obtain⟨fn,ae,h⟩:=bind_eq h;split at h;obtain⟨os,_,h⟩:=bind_eq h;cases h;split at h;rename_i a2;obtain⟨T⟩:=T;simp only [Hl,beq_iff_eq] at a2;match T,h with
    | [x],h=>obtain⟨x',A,h⟩:=bind_eq h;obtain rfl:=aR h;cases F;obtain⟨B,E⟩:=D5 s A;refine⟨E,λo C w=>?_⟩;have:=TG ae a2.1.1 a2.1.2 a2.2 (o8 ι (I4 x' ls env)) w;have W:a.eval (.func f)=.func (.func f) #[] #[]:=rfl;simp [execOp,C,resolve,invoke,W,Deferred.ofValue,this,B]
    | [],h=>cases h
    | _ :: _ :: _,h=>cases h
    cases h
   | _=>obtain⟨x',_,h⟩:=bind_eq h;obtain⟨os,_,h⟩:=bind_eq h;cases h
  | builtin b=>
   obtain⟨T⟩:=T;obtain⟨ts⟩:=ts;simp only [uH] at h;split at h
   ·
    rename_i t x;obtain⟨u,L,h⟩:=bind_eq h;have O:∃x',(N7 P slots done x=some x'∧u=.string∧S=.lenS x')∨(N7 P slots done x=some x'∧(∃e,u=.slice e)∧S=.len x')∨∃k e,u=.array k e∧S=.mov (.con (.int .i64 k)):=by split at h;obtain⟨x',A,h⟩:=bind_eq h;exact⟨x',.inl ⟨A,rfl,(aR h).symm⟩⟩;obtain⟨x',A,h⟩:=bind_eq h;exact⟨x',.inr (.inl ⟨A,⟨_,rfl⟩,(aR h).symm⟩)⟩;exact⟨default,.inr (.inr ⟨_,_,rfl,(aR h).symm⟩)⟩;obtain⟨x',A,h⟩:=bind_eq h;cases h;cases h
    obtain⟨x',⟨A,rfl,rfl⟩ | ⟨A,⟨e,rfl⟩,rfl⟩ | ⟨k,e,rfl,rfl⟩⟩:=O;obtain⟨B,_⟩:=D5 s A;obtain⟨str,d,D⟩:=iH F;have d:I4 x' ls env=.str str:=d;cases D;exact⟨by simp [d9.lt],λo C w=>by simp [execOp,C,resolve,invoke,builtin,Builtin.len_,run_underlying L,B,d,o8,goInt,oK]⟩;obtain⟨B,_⟩:=D5 s A;rcases rZ F with⟨d,D⟩ | ⟨id,off,N,cap,d,D⟩ | ⟨id,off,N,cap,d,D⟩;have d:I4 x' ls env=.nilSlice:=d;cases D;exact⟨by simp [d9.lt],λo C w=>by simp [execOp,C,resolve,invoke,builtin,Builtin.len_,run_underlying L,B,d,o8,goInt]⟩;have d:I4 x' ls env=.slice id off N cap:=d;cases D;exact⟨by simp [d9.lt],λo C w=>by simp [execOp,C,resolve,invoke,builtin,Builtin.len_,run_underlying L,B,d,o8,goInt]⟩;have d:I4 x' ls env=.sliceU id off N cap:=d;cases D;exact⟨by simp [d9.lt],λo C w=>by simp [execOp,C,resolve,invoke,builtin,Builtin.len_,run_underlying L,B,d,o8,goInt]⟩;cases F;refine⟨by simp [I4,E9,d9.lt],λo C w=>?_⟩;simp [execOp,C,resolve,invoke,builtin,Builtin.len_,run_underlying L,I4,E9,o8,goInt]
   ·
    rename_i t x;obtain⟨u,L,h⟩:=bind_eq h;split at h;obtain⟨x',A,h⟩:=bind_eq h;obtain rfl:=aR h;obtain⟨B,_⟩:=D5 s A;rcases rZ F with⟨d,D⟩ | ⟨id,off,N,cap,d,D⟩ | ⟨_,_,_,_,_,D⟩;have d:I4 x' ls env=.nilSlice:=d;cases D;exact⟨by simp [d9.lt],λo C w=>by simp [execOp,C,resolve,invoke,builtin,Builtin.cap_,run_underlying L,B,d,o8,goInt]⟩;have d:I4 x' ls env=.slice id off N cap:=d;cases D;exact⟨by simp [d9.lt],λo C w=>by simp [execOp,C,resolve,invoke,builtin,Builtin.cap_,run_underlying L,B,d,o8,goInt]⟩;cases D;cases h
   ·obtain⟨u,L,h⟩:=bind_eq h;split at h
    ·obtain⟨_,_,h⟩:=bind_eq h;split at h;all_goals (repeat' (first | (cases h;done) | (obtain⟨_,_,h⟩:=bind_eq h)))
    cases h
   obtain⟨u,L,h⟩:=bind_eq h;split at h;obtain⟨_,_,h⟩:=bind_eq h;obtain⟨_,_,h⟩:=bind_eq h;obtain⟨_,_,h⟩:=bind_eq h;cases h;cases h;obtain⟨u,L,h⟩:=bind_eq h;split at h;obtain⟨_,_,h⟩:=bind_eq h;obtain⟨_,_,h⟩:=bind_eq h;cases h;cases h
   ·
    rename_i x xs;obtain⟨x',A,h⟩:=bind_eq h;obtain⟨ah,a7,h⟩:=bind_eq h;obtain rfl:=aR h;obtain⟨B,E⟩:=D5 s A;obtain⟨V,e4⟩:=kZ s a7;obtain⟨Z,g2⟩:=MW (P:=P) (ι:=ι) true _ _ v e4 E F;refine⟨Z,λo C w=>?_⟩;have:=g2 w;simp only [if_true] at this;simp [execOp,C,resolve,invoke,builtin,Builtin.max_,B,V,this]
   rename_i x xs;obtain⟨x',A,h⟩:=bind_eq h;obtain⟨ah,a7,h⟩:=bind_eq h;obtain rfl:=aR h;obtain⟨B,E⟩:=D5 s A;obtain⟨V,e4⟩:=kZ s a7;obtain⟨Z,g2⟩:=MW (P:=P) (ι:=ι) false _ _ v e4 E F;refine⟨Z,λo C w=>?_⟩;have:=g2 w;simp only [abQ,if_false] at this;simp [execOp,C,resolve,invoke,builtin,Builtin.min_,B,V,this];cases h;obtain⟨u,L,h⟩:=bind_eq h;split at h;obtain⟨x',A,h⟩:=bind_eq h;cases h;cases h
   ·obtain⟨u,L,h⟩:=bind_eq h;repeat' (first | (cases h;done) | (obtain⟨_,_,h⟩:=bind_eq h) | split at h)
   cases h
 | alloc t=>simp only [gF] at h;split at h;all_goals (obtain⟨_,_,h⟩:=bind_eq h;cases h)
 | box t x=>simp only [gF] at h;split at h;obtain⟨_,_,h⟩:=bind_eq h;obtain⟨_,_,h⟩:=bind_eq h;cases h;obtain⟨_,_,h⟩:=bind_eq h;cases h
 | buildSlice t N parts=>simp only [gF] at h;obtain⟨_,_,h⟩:=bind_eq h;split at h;obtain⟨_,_,h⟩:=bind_eq h;obtain⟨_,_,h⟩:=bind_eq h;split at h;obtain⟨_,_,h⟩:=bind_eq h;cases h;cases h;cases h
 | insert t m k x=>simp only [gF] at h;obtain⟨_,_,h⟩:=bind_eq h;split at h;obtain⟨_,_,h⟩:=bind_eq h;obtain⟨_,_,h⟩:=bind_eq h;obtain⟨_,_,h⟩:=bind_eq h;obtain⟨_,_,h⟩:=bind_eq h;cases h;cases h
 | mapUpdate t m k x=>simp only [gF] at h;obtain⟨_,_,h⟩:=bind_eq h;split at h;obtain⟨_,_,h⟩:=bind_eq h;obtain⟨_,_,h⟩:=bind_eq h;obtain⟨_,_,h⟩:=bind_eq h;obtain⟨_,_,h⟩:=bind_eq h;cases h;cases h
 | load t x=>simp only [gF] at h;obtain⟨_,_,h⟩:=bind_eq h;obtain⟨_,_,h⟩:=bind_eq h;cases h
 | store t x y=>simp only [gF] at h;obtain⟨_,_,h⟩:=bind_eq h;obtain⟨_,_,h⟩:=bind_eq h;obtain⟨_,_,h⟩:=bind_eq h;cases h
 | makeMap t r=>simp only [gF] at h;repeat' (first | (cases h;done) | split at h)
 | makeSlice t l c=>simp only [gF] at h;obtain⟨_,_,h⟩:=bind_eq h;split at h;obtain⟨_,_,h⟩:=bind_eq h;obtain⟨_,_,h⟩:=bind_eq h;obtain⟨_,_,h⟩:=bind_eq h;obtain⟨_,_,h⟩:=bind_eq h;obtain⟨_,_,h⟩:=bind_eq h;cases h;cases h
 | lookup t x k ok=>simp only [gF] at h;obtain⟨_,_,h⟩:=bind_eq h;split at h;obtain⟨_,_,h⟩:=bind_eq h;obtain⟨_,_,h⟩:=bind_eq h;obtain⟨_,_,h⟩:=bind_eq h;obtain⟨_,_,h⟩:=bind_eq h;cases h;cases h
 | range t x=>simp only [gF] at h;obtain⟨_,_,h⟩:=bind_eq h;split at h;obtain⟨_,_,h⟩:=bind_eq h;cases h;obtain⟨_,_,h⟩:=bind_eq h;cases h;cases h
 | next it is=>cases is;simp only [gF] at h;obtain⟨_,_,h⟩:=bind_eq h;cases h;simp only [gF] at h;obtain⟨_,_,h⟩:=bind_eq h;cases h
 | entry it=>simp only [gF] at h;obtain⟨_,_,h⟩:=bind_eq h;cases h
 | panic x=>simp only [gF] at h;obtain⟨_,_,h⟩:=bind_eq h;cases h
 | defer c=>simp only [gF] at h;split at h;obtain⟨_,_,h⟩:=bind_eq h;obtain⟨_,_,h⟩:=bind_eq h;cases h;cases h
 | _=>simp only [gF] at h;cases h
end
end
end Go.AM
