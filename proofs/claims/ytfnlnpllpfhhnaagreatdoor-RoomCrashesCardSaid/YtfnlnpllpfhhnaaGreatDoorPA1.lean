/- A part of an evaluator for the model, proved sound: what it answers holds of the model; it speaks of every program, no condition. -/
import GoSem.Core.Code
import GoSem.Core.Program
import GoSem.Core.View
import GoSem.Core.World
import GoSem.Core.Region
import GoSem.Core.Layout
import GoSem.Op.Equal
import Derived.CallsIn
import Derived.Laws.Sem
import GoSem.Dispatch
import Derived.Laws.Strings
set_option linter.all false
namespace Go.AM
open Go
abbrev aA:=@Nat.le_refl
abbrev aP:=@List.getElem?_eq_getElem
abbrev eP:=@List.getElem?_eq_some_iff
abbrev l7:=@Option.some.injEq
abbrev nA:=@Nat.lt_of_lt_of_le
abbrev ql:=@List.mem_singleton
abbrev rW:=@Nat.eq_of_beq_eq_true
abbrev su:=@Result.andThen_ok
abbrev wu:=@Nat.ble_eq_true_of_le
abbrev zu:=@Nat.le_trans
abbrev D5:=@Bool.and_eq_true
abbrev LA:=@Option.some.inj
abbrev L6:=@Array.getElem?_eq_some_iff
abbrev M0:=@Sem.run_bind
abbrev M7:=@List.getElem_mem
abbrev M8:=@Nat.le_of_ble_eq_true
abbrev M9:=@Array.getD_eq_getD_getElem?
abbrev O0:=@List.mem_of_getElem?
abbrev O4:=@List.mem_append
abbrev O5:=@List.drop_of_length_le
abbrev O6:=@Nat.blt_eq
abbrev O7:=@Array.getElem?_setIfInBounds_ne
abbrev O8:=@Array.getElem?_setIfInBounds_self_of_lt
abbrev O9:=@List.mem_cons
abbrev Q6:=@List.drop_eq_getElem_cons
abbrev S9:=@Nat.zero_add
abbrev U0:=@List.getD_eq_getElem?_getD
abbrev U1:=@List.length_append
abbrev W9:=@Option.bind_some
abbrev acC:=@List.length_pos_iff
abbrev acS:=@List.length_eq_zero_iff
abbrev ada:=@Nat.add_assoc
abbrev adb:=@Nat.mul_le_mul_right
abbrev ade:=@List.getElem?_append_left
abbrev adf:=@List.getElem?_map
abbrev adg:=@Sem.run_pure
abbrev adh:=@List.mem_cons_of_mem
abbrev adi:=@List.take_succ_eq_append_getElem
abbrev adj:=@Bool.eq_false_iff
abbrev adk:=@List.length_cons
abbrev adl:=@List.nil_append
abbrev adq:=@List.getElem?_append_right
abbrev adr:=@List.getElem?_of_mem
abbrev ads:=@Array.getElem?_eq_getElem
abbrev adt:=@List.take_of_length_le
abbrev adu:=@Nat.mod_two_eq_zero_or_one
abbrev adv:=@List.mem_of_mem_take
abbrev adw:=@Nat.add_zero
abbrev adx:=@List.drop_zero
abbrev ady:=@Bool.false_eq_true
abbrev adz:=@List.all_eq_true
abbrev adA:=@Array.toArray_toList
abbrev adB:=@List.append_nil
abbrev adC:=@Nat.zero_le
abbrev adD:=@Nat.zero_mul
abbrev adE:=@Bool.eq_iff_iff
abbrev adF:=@Nat.succ_mul
abbrev adG:=@Option.map_some
abbrev adH:=@Nat.beq_refl
abbrev adI:=@List.mem_cons_self
abbrev adJ:=@List.getElem?_cons_succ
abbrev adK:=@List.mem_append_left
abbrev adL:=@List.cons_append
abbrev adM:=@List.mem_map
abbrev adN:=@List.length_map
abbrev adO:=@List.mem_append_right
abbrev adP:=@List.getElem_append_left
abbrev adQ:=@List.getElem?_drop
abbrev adS:=@Nat.mul_comm
abbrev adT:=@List.getElem?_take
abbrev adU:=@List.map_cons
abbrev adX:=@Nat.add_mul
abbrev aeN:=@Nat.mul_one
abbrev aeO:=@List.mem_iff_getElem
abbrev afP:=@List.mem_of_mem_drop
abbrev af7:=@List.getElem?_inj
abbrev agI:=@Nat.le_of_lt
abbrev ahr:=@Option.map_eq_some_iff
abbrev ahs:=@List.cons.inj
abbrev aht:=@List.getElem?_toArray
abbrev ahu:=@List.mem_range
abbrev ahv:=@List.mem_or_eq_of_mem_set
abbrev ah5:=@Nat.mod_lt
abbrev ah6:=@List.mem_filter
abbrev ajk:=@List.getElem_of_mem
abbrev ajr:=@Calls.mono
abbrev ajt:=@Nat.lt_or_ge
abbrev akc:=@Array.ext_getElem?
abbrev akd:=@Ne.symm
abbrev ako:=@Nat.le_div_iff_mul_le
abbrev akp:=@List.getElem?_eq_none
abbrev akW:=@List.size_toArray
abbrev akX:=@List.getElem?_set
abbrev akY:=@List.length_take
abbrev akZ:=@List.not_mem_nil
abbrev alG:=@List.getElem?_take_of_lt
abbrev al0:=@Nat.mod_eq_of_lt
abbrev amN:=@Option.bind_eq_some_iff
abbrev amO:=@List.map_take
abbrev amP:=@Bool.true_and
abbrev amQ:=@Nat.lt_irrefl
abbrev amR:=@List.map_append
abbrev amS:=@List.getElem_cons_zero
abbrev amT:=@Array.getElem?_eq_none
abbrev amU:=@List.append_assoc
abbrev amV:=@List.take_append_drop
abbrev amW:=@List.set_append_right
abbrev am1:=@List.take_zero
abbrev am2:=@List.drop_drop
abbrev an6:=@Nat.add_comm
abbrev aq4:=@Nat.div_eq_of_lt
abbrev aq8:=@Nat.le_of_not_lt
abbrev asb:=@List.getElem_map
abbrev asc:=@List.take_succ_cons
abbrev ase:=@List.filter_eq_self
abbrev asf:=@List.length_nil
abbrev asg:=@Bool.or_eq_true
abbrev as2:=@List.pairwise_iff_getElem
abbrev as4:=@List.extract_eq_take_drop
abbrev at0:=@List.foldl_cons
abbrev at1:=@Option.map_none
abbrev axI:=@List.getElem?_zip_eq_some
abbrev ayM:=@Nat.min_eq_left
abbrev ay2:=@Array.getElem?_replicate
abbrev ay3:=@Nat.mul_div_cancel
abbrev ay5:=@Nat.lt_of_lt_of_eq
abbrev azz:=@Nat.pow_succ
abbrev azA:=@Int.negSucc_eq
abbrev azB:=@List.getElem?_cons_zero
abbrev azC:=@List.filter_cons_of_pos
abbrev azD:=@List.filter_cons_of_neg
abbrev azE:=@Nat.lt_trichotomy
abbrev azF:=@Bool.not_eq_true'
abbrev azG:=@List.flatten_cons
abbrev azH:=@List.set_eq_take_append_cons_drop
abbrev azI:=@List.filter_eq_nil_iff
abbrev azJ:=@Array.setIfInBounds_eq_of_size_le
abbrev azK:=@Array.getElem?_push_lt
abbrev azL:=@List.length_eq_one_iff
abbrev azM:=@List.length_drop
abbrev azN:=@List.take_length
abbrev azO:=@List.nodup_cons
abbrev azP:=@Int.le_trans
abbrev azQ:=@List.range_eq_range'
abbrev azR:=@Bool.or_eq_false_iff
abbrev azS:=@Nat.div_add_mod
abbrev azT:=@List.cons.injEq
abbrev azU:=@List.map_nil
abbrev azV:=@List.forIn_cons
abbrev azW:=@UInt8.toNat_inj
abbrev azX:=@List.eq_nil_of_length_eq_zero
abbrev azY:=@Nat.mul_le_mul
abbrev azZ:=@List.getElem_range
abbrev aAa:=@Array.forIn_toList
abbrev aAf:=@Nat.lt_or_eq_of_le
abbrev aAg:=@Nat.pos_of_ne_zero
abbrev aAh:=@List.map_drop
abbrev aAi:=@Bool.false_or
abbrev aAj:=@Bool.not_true
abbrev aAk:=@Array.getElem?_append_left
abbrev aAt:=@List.length_range
abbrev aA0:=@Nat.le_succ_of_le
abbrev aA1:=@Int.toNat_natCast
abbrev aA2:=@Array.mapM_eq_mapM_toList
abbrev aA3:=@List.getElem_append_right
abbrev aA4:=@Classical.byContradiction
abbrev aA5:=@List.exists_mem_of_ne_nil
abbrev aA6:=@Array.toList_map
abbrev aA7:=@Int.le_of_lt
abbrev aA8:=@Nat.min_eq_right
abbrev aA9:=@Array.toList_inj
abbrev aB4:=@List.mem_reverse
abbrev aCq:=@List.map_map
abbrev aCG:=@List.getElem_set
abbrev aCH:=@Nat.add_sub_cancel_left
abbrev aCI:=@Nat.mul_add_mod
abbrev aCJ:=@Int.le_refl
abbrev aCL:=@List.mapM_cons
end Go.AM
namespace Go.AM
open Go
noncomputable section
inductive T (α:Type) where
 | e:T α
 | nd:T α->α->T α->T α
inductive d9 where
 | undef
 | bool (b:Bool)
 | int (k:IntKind) (n:Int)
 | str (s:List UInt8)
 | nilPtr
 | ptr (id off:Nat)
 | nilSlice
 | slice (id off len cap:Nat)
 | sliceU (id off len es:Nat)
 | nilMap
 | map (id:Nat)
 | nilFunc
 | func (fn:Fn) (first captured:List d9)
 | nilIface
 | iface (t:TypeId) (v:d9)
 | agg (l:List d9)
 | tuple (l:List d9)
 | dD (v:d9)
 deriving Inhabited
def d9.cells:d9->List d9
 | .agg l=>l
 | v=>[v]
inductive V9 where
 | loc (k:Nat)
 | slot (j:Nat)
 | con (v:d9)
 deriving Inhabited
inductive PK where
 | i | b | s
 deriving Inhabited,DecidableEq
inductive Gs where
 | prim (k:PK) | flat (ks:List PK) | ptr | slice | map | func | iface
 deriving Inhabited,DecidableEq
inductive XQ where
 | mov (x:V9)
 | pick (c a b:V9)
 | build (zero:List d9) (parts:List (Nat×Nat×V9))
 | nilCheck (x:V9)
 | ib (op:BinOp) (x y:V9)
 | eq (neg:Bool) (k:Gs) (x y:V9)
 | not (x:V9)
 | neg (x:V9)
 | conv (k:IntKind) (x:V9)
 | mkIface (t:TypeId) (x:V9)
 | mkFunc (fn:Fn) (first captured:List V9)
 | slStr (x:V9) (lo hi:Option V9)
 | slArr (es n:Nat) (x:V9) (lo hi:Option V9)
 | fAddr (off:Nat) (x:V9)
 | fld (off:Nat) (size:Option Nat) (x:V9)
 | iAddr (es:Nat) (x i:V9)
 | iAddrArr (es n:Nat) (x i:V9)
 | iArr (es n:Nat) (size:Option Nat) (x i:V9)
 | iStr (x i:V9)
 | ext (x:V9) (i:Nat)
 | len (x:V9)
 | lenS (x:V9)
 | cap (x:V9)
 | mm (max:Bool) (x:V9) (xs:List V9)
 | assert (t:TypeId) (zero:d9) (ok:Bool) (x:V9)
 deriving Inhabited
inductive Rs where
 | load (size:Option Nat) (a:V9)
 | look (kk:Gs) (zero:d9) (ok:Bool) (m k:V9)
 | lenM (x:V9)
 | bytesStr (x:V9)
 | entry (it:V9)
 deriving Inhabited
inductive VO where
 | alloc (zero:List d9)
 | box (x:V9)
 | buildSlice (es len:Nat) (zero:List d9) (parts:List (Nat×Nat×V9))
 | mkMap
 | mkSlice (es bytes:Nat) (zero:List d9) (len cap:V9)
 | strBytes (x:V9)
 | sl (es:Nat) (x:V9) (lo hi:Option V9)
 deriving Inhabited
inductive Xx where
 | store (size:Nat) (a x:V9)
 | mapSet (kk:Gs) (m k x:V9)
 | range (x:V9)
 | next (it:V9)
 | app (es:Nat) (zeros:Bool) (zero:List d9) (bytes:Nat) (s x:V9)
 | copy (es:Nat) (d s:V9)
 | clear (zero:List d9) (x:V9)
 | call (f:FuncId) (args:List V9)
 | callv (f:V9) (args:List V9)
 | defer (f:V9) (args:List V9)
 | panic (x:V9)
 | recover
 | bad
 deriving Inhabited
inductive BJ where
 | p (o:XQ)
 | r (o:Rs)
 | a (o:VO)
 | e (o:Xx)
 deriving Inhabited
structure Inst where
 op:BJ
 dst:Option Nat
 guard:Option (V9×Bool)
 deriving Inhabited
inductive ay where
 | skip
 | reg (ops:List Inst)
 | dreg (ids:Nat) (ops:List (Nat×Inst))
 | seq (a b:ay)
 | cond (c:V9) (thn els:ay)
 | block (id:Nat) (body:ay)
 | loop (body:ay)
 | exit (id:Nat)
 | ret
 | rangeFunc (f:V9) (params:List (Option Nat)) (assign body:ay)
 deriving Inhabited
inductive bn where
 | normal
 | exit (id:Nat)
 | ret
 deriving Inhabited,DecidableEq
inductive Mk where
 | c (id:Nat)
 | d (f:d9) (args:List d9)
 deriving Inhabited
inductive pF where
 | tmp (j:Nat)
 | cell (j:Nat) (size:Option Nat)
 deriving Inhabited
structure AFn where
 nargs:Nat
 args:List (Option Nat)
 nslots:Nat
 results:List pF
 body:ay
 deriving Inhabited
def jh:XQ->List V9
 | .mov x=>[x]
 | .pick a b c=>[a,b,c]
 | .build _ ps=>ps.map (·.2.2)
 | .nilCheck x=>[x]
 | .ib _ x y=>[x,y]
 | .eq _ _ x y=>[x,y]
 | .not x=>[x]
 | .neg x=>[x]
 | .conv _ x=>[x]
 | .mkIface _ x=>[x]
 | .mkFunc _ a b=>a++b
 | .slStr x a b=>x::(a.toList++b.toList)
 | .slArr _ _ x a b=>x::(a.toList++b.toList)
 | .fAddr _ x=>[x]
 | .fld _ _ x=>[x]
 | .iAddr _ x i=>[x,i]
 | .iAddrArr _ _ x i=>[x,i]
 | .iArr _ _ _ x i=>[x,i]
 | .iStr x i=>[x,i]
 | .ext x _=>[x]
 | .len x=>[x]
 | .lenS x=>[x]
 | .cap x=>[x]
 | .mm _ x xs=>x::xs
 | .assert _ _ _ x=>[x]
def GH:Rs->List V9
 | .load _ a=>[a]
 | .look _ _ _ m x=>[m,x]
 | .lenM x=>[x]
 | .bytesStr x=>[x]
 | .entry x=>[x]
def opsL:VO->List V9
 | .alloc _=>[]
 | .box x=>[x]
 | .buildSlice _ _ _ ps=>ps.map (·.2.2)
 | .mkMap=>[]
 | .mkSlice _ _ _ l c=>[l,c]
 | .strBytes x=>[x]
 | .sl _ x a b=>x::(a.toList++b.toList)
def opsE:Xx->List V9
 | .store _ a x=>[a,x]
 | .mapSet _ a b c=>[a,b,c]
 | .range x=>[x]
 | .next x=>[x]
 | .app _ _ _ _ s x=>[s,x]
 | .copy _ d s=>[d,s]
 | .clear _ x=>[x]
 | .call _ a=>a
 | .callv g a=>g::a
 | .defer g a=>g::a
 | .panic x=>[x]
 | .recover=>[]
 | .bad=>[]
def GI:BJ->List V9
 | .p o=>jh o
 | .r o=>GH o
 | .a o=>opsL o
 | .e o=>opsE o
variable {α β γ:Type}
def ob (o:Option α)(k:α->Option β):Option β:=Option.rec none (λa=>k a) o
def bi (b:Bool)(x y:α):α:=Bool.rec y x b
def T.get (t:T α):Nat->Option α:=
 T.rec (λ_=>none) (λ_ x _ ihl ihr i=>Nat.rec (some x) (λj _=>Nat.rec (ihl (Nat.div j 2)) (λ_ _=>ihr (Nat.div j 2)) (Nat.mod j 2)) i) t
def T.put (t:T α):Nat->α->T α:=
 T.rec (λ_ x=>.nd .e x .e) (λl y r ihl ihr i x=>Nat.rec (.nd l x r) (λj _=>Nat.rec (.nd (ihl (Nat.div j 2) x) y r) (λ_ _=>.nd l y (ihr (Nat.div j 2) x)) (Nat.mod j 2)) i) t
def T.pG (l:List α):T α->Nat->T α:=
 List.rec (λt _=>t) (λx _ ih t i=>ih (t.put i x) (Nat.succ i)) l
def T.ofList (l:List α):T α:=T.pG l .e 0
def T.slice (t:T α)(n:Nat):Nat->Option (List α):=
 Nat.rec (λ_=>some []) (λ_ ih i=>ob (t.get i) λx=>ob (ih (Nat.succ i)) λxs=>some (x::xs)) n
def T.rep (x:α)(n:Nat):T α->Nat->T α:=
 Nat.rec (λt _=>t) (λ_ ih t i=>ih (t.put i x) (Nat.succ i)) n
def takeN (n:Nat):List α->Option (List α):=
 Nat.rec (λ_=>some []) (λ_ ih l=>List.rec none (λx xs _=>ob (ih xs) λr=>some (x::r)) l) n
def gZ (n:Nat):List α->List α:=
 Nat.rec (λl=>l) (λ_ ih l=>List.rec [] (λ_ xs _=>ih xs) l) n
def uw (n:Nat):List α->Option α:=
 Nat.rec (λl=>List.rec none (λx _ _=>some x) l) (λ_ ih l=>List.rec none (λ_ xs _=>ih xs) l) n
def nth (n:Nat):List d9->d9:=
 Nat.rec (λl=>List.rec d9.undef (λx _ _=>x) l) (λ_ ih l=>List.rec d9.undef (λ_ xs _=>ih xs) l) n
def bU (l m:List α):List α:=List.rec m (λx _ ih=>x::ih) l
def len' (l:List α):Nat:=List.rec 0 (λ_ _ ih=>Nat.succ ih) l
def nI (n:Nat)(vs:List α):List α->List α:=
 Nat.rec (λl=>bU vs (gZ (len' vs) l)) (λ_ ih l=>List.rec [] (λx xs _=>x::ih xs) l) n
def mo (v:d9)(k:Nat->Nat->Option β):Option β:=match v with
 | .ptr i o=>k i o
 | _=>none
def vT (v:d9)(k:IntKind->Int->Option β):Option β:=match v with
 | .int a b=>k a b
 | _=>none
def pI (v:d9)(k:Bool->Option β):Option β:=match v with
 | .bool b=>k b
 | _=>none
def wm (v:d9)(k:List UInt8->Option β):Option β:=match v with
 | .str s=>k s
 | _=>none
def Ao (v:d9)(k:List d9->Option β):Option β:=match v with
 | .agg l=>k l
 | _=>none
def Ow (v:d9)(k:List d9->Option β):Option β:=match v with
 | .tuple l=>k l
 | _=>none
def wo (v:d9)(nl:Option β)(k:Nat->Option β):Option β:=match v with
 | .nilMap=>nl
 | .map i=>k i
 | _=>none
def ze (v:d9)(nl:Option β)(k:Nat->Nat->Nat->Nat->Option β)(u:Nat->Nat->Nat->Nat->Option β):Option β:=match v with
 | .nilSlice=>nl
 | .slice a b c d=>k a b c d
 | .sliceU a b c d=>u a b c d
 | _=>none
def Ox (v:d9)(k:Fn->List d9->List d9->Option β):Option β:=match v with
 | .func f a b=>k f a b
 | _=>none
def Oy (n:Int)(k:Nat->Option β):Option β:=match n with
 | .ofNat m=>k m
 | .negSucc _=>none
def iR (v:d9)(k:Nat->Option β):Option β:=vT v λ_ n=>Oy n k
inductive U7 where
 | void
 | dead
 | cells (rs n:Nat) (rows:T (List d9))
 | map (es:List (d9×d9))
 | iter (m:Option Nat) (since:Nat) (seen:List Nat)
 | tail (parent:Nat)
 | loop (st:LoopState) (pend:Option bn) (env:T d9) (params:List (Option Nat)) (assign body:ay)
 | deferred
 deriving Inhabited
structure Mem where
 t:T U7
 nx:Nat
 lim:Nat
def Mem.get (m:Mem)(i:Nat):Option U7:=m.t.get i
def Mem.new (m:Mem)(b:U7):Mem:=⟨m.t.put m.nx b,Nat.succ m.nx,m.lim⟩
def Mem.set (m:Mem)(i:Nat)(b:U7):Mem:=⟨m.t.put i b,m.nx,m.lim⟩
def aO (b:Option U7)(k:Nat->Nat->T (List d9)->Option β):Option β:=match b with
 | some (.cells rs n rows)=>k rs n rows
 | _=>none
def VP (b:Option U7)(k:List (d9×d9)->Option β):Option β:=match b with
 | some (.map es)=>k es
 | _=>none
def cell1 (rs n:Nat)(rows:T (List d9))(off:Nat):Option d9:=
 Bool.rec none (Option.rec none (λrow=>uw (Nat.mod off rs) row) (rows.get (Nat.div off rs))) (Nat.blt (Nat.div off rs) n)
def nR (rs n:Nat)(rows:T (List d9))(off k:Nat):Option (List d9):=
 bi (Nat.blt (Nat.div off rs) n) (ob (rows.get (Nat.div off rs)) λrow=>
  bi (Nat.beq (Nat.mod off rs) 0) (bi (Nat.beq k rs) (some row) (takeN k row)) (takeN k (gZ (Nat.mod off rs) row))) none
def J8 (rs n:Nat)(rows:T (List d9))(k:Nat):Nat->Option (List d9):=
 Nat.rec (λ_=>some []) (λ_ ih off=>ob (cell1 rs n rows off) λv=>ob (ih (Nat.succ off)) λl=>some (v::l)) k
def aj (rs n:Nat)(rows:T (List d9))(off:Nat)(vs:List d9):Option (T (List d9)):=
 bi (Nat.blt (Nat.div off rs) n) (ob (rows.get (Nat.div off rs)) λrow=>
  bi (Nat.ble (Nat.add (Nat.mod off rs) (len' vs)) rs) (some (rows.put (Nat.div off rs) (nI (Nat.mod off rs) vs row))) none) none
def jr (rs n:Nat)(vs:List d9):T (List d9)->Nat->Option (T (List d9)):=
 List.rec (λrows _=>some rows) (λv _ ih rows off=>ob (aj rs n rows off [v]) λrows'=>ih rows' (Nat.succ off)) vs
def rowsOf (rs n:Nat):List d9->Option (List (List d9)):=
 Nat.rec (λl=>List.rec (some []) (λ_ _ _=>none) l) (λ_ ih l=>ob (takeN rs l) λr=>ob (ih (gZ rs l)) λrest=>some (r::rest)) n
def D6 (v:d9):Bool:=match v with
 | .undef | .agg _ | .tuple _ | .dD _=>false
 | _=>true
def I6 (l:List d9):Bool:=List.rec true (λv _ ih=>bi (D6 v) ih false) l
def storeAt (m:Mem)(id off:Nat)(vs:List d9)(k:Mem->Option β):Option β:=
 bi (Nat.blt id m.lim) none (bi (I6 vs) (aO (m.get id) λrs n rows=>ob (aj rs n rows off vs) λrows'=>k (m.set id (.cells rs n rows'))) none)
def eY (m:Mem)(id off:Nat)(vs:List d9)(k:Mem->Option β):Option β:=
 List.rec (k m) (λ_ _ _=>bi (Nat.blt id m.lim) none (bi (I6 vs) (aO (m.get id) λrs n rows=>ob (jr rs n vs rows off) λrows'=>k (m.set id (.cells rs n rows'))) none)) vs
abbrev OF:=List d9->T d9->d9
def Y9 (k:Nat):OF:=λls _=>nth k ls
def K5:OF:=λls _=>List.rec d9.undef (λx _ _=>x) ls
def qC:OF:=λls _=>List.rec d9.undef (λ_ l _=>List.rec d9.undef (λx _ _=>x) l) ls
def iy:OF:=λls _=>List.rec d9.undef (λ_ l _=>List.rec d9.undef (λ_ l _=>List.rec d9.undef (λx _ _=>x) l) l) ls
def qJ:OF:=λls _=>List.rec d9.undef (λ_ l _=>List.rec d9.undef (λ_ l _=>List.rec d9.undef (λ_ l _=>List.rec d9.undef (λx _ _=>x) l) l) l) ls
def au (v:d9):OF:=λ_ _=>v
def gH:T d9->d9:=T.rec .undef (λ_ x _ _ _=>x)
def gL (g:T d9->d9):T d9->d9:=T.rec .undef (λl _ _ _ _=>g l)
def gR (g:T d9->d9):T d9->d9:=T.rec .undef (λ_ _ r _ _=>g r)
def G6 (g:T d9->d9):OF:=λ_ env=>g env
def way:Nat->Nat->T d9->d9
 | 0,_=>λ_=>.undef
 | _+1,0=>gH
 | n+1,j+1=>match j%2 with
  | 0=>gL (way n (j / 2))
  | _=>gR (way n (j / 2))
def H9:V9->OF
 | .loc 0=>K5
 | .loc 1=>qC
 | .loc 2=>iy
 | .loc 3=>qJ
 | .loc k=>Y9 k
 | .slot j=>G6 (way 64 j)
 | .con v=>au v
def iH:List V9->List OF
 | []=>[]
 | x::l=>H9 x::iH l
def mq:Option V9->Option OF
 | none=>none
 | some x=>some (H9 x)
def evs (l:List OF)(ls:List d9)(env:T d9):List d9:=List.rec [] (λx _ ih=>x ls env::ih) l
def sH:d9->T d9->T d9:=λv=>T.rec .e (λl _ r _ _=>.nd l v r)
def sL (s:d9->T d9->T d9):d9->T d9->T d9:=λv=>T.rec .e (λl x r _ _=>.nd (s v l) x r)
def sR (s:d9->T d9->T d9):d9->T d9->T d9:=λv=>T.rec .e (λl x r _ _=>.nd l x (s v r))
def pJ:Nat->Nat->d9->T d9->T d9
 | 0,_=>λ_ t=>t
 | _+1,0=>sH
 | n+1,j+1=>match j%2 with
  | 0=>sL (pJ n (j / 2))
  | _=>sR (pJ n (j / 2))
def eU:d9->T d9->T d9:=λ_ t=>t
def iM:Option Nat->d9->T d9->T d9
 | none=>eU
 | some j=>pJ 64 j
def sP (n:Int):Int:=match n with
 | .ofNat m=>bi (Nat.blt m 9223372036854775808) (.ofNat m) (IntKind.i64.wrap (.ofNat m))
 | .negSucc m=>bi (Nat.blt m 9223372036854775808) (.negSucc m) (IntKind.i64.wrap (.negSucc m))
def iY (k:IntKind)(n:Int):Int:=match k with
 | .i64=>sP n
 | k=>k.wrap n
def qK:Int->Int->Bool
 | .ofNat a,.ofNat b=>Nat.beq a b
 | .negSucc a,.negSucc b=>Nat.beq a b
 | _,_=>false
def nJ:Int->Int->Bool
 | .ofNat a,.ofNat b=>Nat.blt a b
 | .negSucc _,.ofNat _=>true
 | .ofNat _,.negSucc _=>false
 | .negSucc a,.negSucc b=>Nat.blt b a
def kEq (a b:IntKind):Bool:=match a,b with
 | .i64,.i64=>true
 | a,b=>decide (a=b)
def strEq (a:List UInt8):List UInt8->Bool:=
 List.rec (λb=>List.rec true (λ_ _ _=>false) b) (λx _ ih b=>List.rec false (λy ys _=>bi (Nat.beq x.toNat y.toNat) (ih ys) false) b) a
def uy:List UInt8->List UInt8->Bool
 | _,[]=>false
 | [],_ :: _=>true
 | a::x,b::y=>a<b||(a==b&&uy x y)
def Oz (k:IntKind)(f:BitVec k.bits->BitVec k.bits->BitVec k.bits)(a b:Int):d9:=
 .int k (k.wrap (f (BitVec.ofInt k.bits a) (BitVec.ofInt k.bits b)).toNat)
def ajz (b:Int)(r:Option d9):Option d9:=match b with
 | .ofNat 0=>none
 | _=>r
abbrev IB:=IntKind->Int->Int->Option d9
def Gd:IB:=λk a b=>some (.int k (iY k (a+b)))
def GJ:IB:=λk a b=>some (.int k (iY k (a-b)))
def GK:IB:=λk a b=>some (.int k (iY k (a*b)))
def JO:IB:=λk a b=>ajz b (some (.int k (iY k (a.tdiv b))))
def Ap:IB:=λk a b=>ajz b (some (.int k (a.tmod b)))
def GL:IB:=λk a b=>some (Oz k (· &&& ·) a b)
def iOr:IB:=λk a b=>some (Oz k (· ||| ·) a b)
def JQ:IB:=λk a b=>some (Oz k (· ^^^ ·) a b)
def mW:IB:=λk a b=>some (Oz k (λx y=>x &&& ~~~y) a b)
def Dz:IB:=λ_ a b=>some (.bool (qK a b))
def XR:IB:=λ_ a b=>some (.bool (!qK a b))
def Xy:IB:=λ_ a b=>some (.bool (nJ a b))
def Xz:IB:=λ_ a b=>some (.bool (!nJ b a))
def XT:IB:=λ_ a b=>some (.bool (nJ b a))
def XA:IB:=λ_ a b=>some (.bool (!nJ a b))
def iNo:IB:=λ_ _ _=>none
abbrev SB:=List UInt8->List UInt8->Option d9
def gy:SB:=λa b=>bi (Nat.blt (Nat.add (len' a) (len' b)) 9223372036854775808) (some (.str (bU a b))) none
def DF:SB:=λa b=>some (.bool (strEq a b))
def XU:SB:=λa b=>some (.bool (!strEq a b))
def XV:SB:=λa b=>some (.bool (uy a b))
def sLe:SB:=λa b=>some (.bool (uy a b||strEq a b))
def sGt:SB:=λa b=>some (.bool (!(uy a b||strEq a b)))
def sGe:SB:=λa b=>some (.bool (!uy a b))
def wz:SB:=λ_ _=>none
def Mh:BinOp->IB
 | .add=>Gd | .sub=>GJ | .mul=>GK | .quo=>JO | .rem=>Ap | .and=>GL | .or=>iOr | .xor=>JQ | .andNot=>mW
 | .shl=>iNo | .shr=>iNo | .eql=>Dz | .neq=>XR | .lss=>Xy | .leq=>Xz | .gtr=>XT | .geq=>XA
def Mi:BinOp->SB
 | .add=>gy | .eql=>DF | .neq=>XU | .lss=>XV | .leq=>sLe | .gtr=>sGt | .geq=>sGe
 | _=>wz
def BK (f:IB)(g:SB)(x y:d9):Option d9:=match x with
 | .int k a=>vT y λk' b=>bi (kEq k k') (f k a b) none
 | .str a=>wm y λb=>g a b
 | _=>none
def adV (x y:d9):Option d9:=vT x λk a=>iR y λm=>some (.int k (iY k (a*2^(min m k.bits))))
def Rt (x y:d9):Option d9:=vT x λk a=>iR y λm=>some (.int k (a.fdiv (2^(min m k.bits))))
def GN (a b:Bool):Bool:=bi a b (bi b false true)
def fU (x y:d9):Option Bool:=vT x λk a=>vT y λk' b=>bi (kEq k k') (some (qK a b)) none
def kS (x y:d9):Option Bool:=pI x λa=>pI y λb=>some (GN a b)
def eqStr (x y:d9):Option Bool:=wm x λa=>wm y λb=>some (strEq a b)
def OC (k:PK):d9->d9->Option Bool:=match k with
 | .i=>fU
 | .b=>kS
 | .s=>eqStr
def dX (ks:List PK):List d9->List d9->Option Bool:=
 List.rec (λ_ _=>some true) (λk _ ih a b=>List.rec none (λx xs _=>List.rec none (λy ys _=>ob (OC k x y) λr=>bi r (ih xs ys) (some false)) b) a) ks
def dw (ks:List PK)(x y:d9):Option Bool:=Ao x λa=>Ao y λb=>dX ks a b
def qL (x y:d9):Option Bool:=match x,y with
 | .nilPtr,.nilPtr=>some true
 | .nilPtr,.ptr _ _=>some false
 | .ptr _ _,.nilPtr=>some false
 | _,_=>none
def bR (x y:d9):Option Bool:=match x,y with
 | .nilSlice,.nilSlice=>some true
 | .nilSlice,.slice .. | .nilSlice,.sliceU ..=>some false
 | .slice ..,.nilSlice | .sliceU ..,.nilSlice=>some false
 | _,_=>none
def OD (x y:d9):Option Bool:=match x,y with
 | .nilMap,.nilMap=>some true
 | .nilMap,.map _ | .map _,.nilMap=>some false
 | _,_=>none
def GQ (x y:d9):Option Bool:=match x,y with
 | .nilFunc,.nilFunc=>some true
 | .nilFunc,.func .. | .func ..,.nilFunc=>some false
 | _,_=>none
def fC (x y:d9):Option Bool:=match x,y with
 | .nilIface,.nilIface=>some true
 | .nilIface,.iface .. | .iface ..,.nilIface=>some false
 | _,_=>none
abbrev GR:=d9->d9->Option Bool
def vU:Gs->GR
 | .prim .i=>fU | .prim .b=>kS | .prim .s=>eqStr | .flat ks=>dw ks | .ptr=>qL | .slice=>bR | .map=>OD | .func=>GQ | .iface=>fC
abbrev PF:=List d9->T d9->Option d9
def dG (x:OF):PF:=λls env=>some (x ls env)
def aB (c a b:OF):PF:=λls env=>pI (c ls env) λt=>some (bi t (a ls env) (b ls env))
def lay (ps:List (Nat×Nat×OF))(ls:List d9)(env:T d9):List d9->Option (List d9):=
 List.rec (λcs=>some cs) (λp _ ih cs=>
  bi (Nat.beq (len' (p.2.2 ls env).cells) p.2.1) (bi (Nat.ble (Nat.add p.1 p.2.1) (len' cs)) (ih (nI p.1 (p.2.2 ls env).cells cs)) none) none) ps
def mD (zero:List d9)(ps:List (Nat×Nat×OF)):PF:=λls env=>ob (lay ps ls env zero) λl=>some (.agg l)
def DZ (v:d9):Option d9:=match v with
 | .nilPtr | .nilIface | .nilFunc=>none
 | .func (.func f) a b=>some (.func (.func f) a b)
 | .func ..=>none
 | v=>some v
def gB (x:OF):PF:=λls env=>DZ (x ls env)
def BL (f:IB)(g:SB)(x y:OF):PF:=λls env=>BK f g (x ls env) (y ls env)
def GU (x y:OF):PF:=λls env=>adV (x ls env) (y ls env)
def GV (x y:OF):PF:=λls env=>Rt (x ls env) (y ls env)
def EZ (f:GR)(x y:OF):PF:=λls env=>ob (f (x ls env) (y ls env)) λb=>some (.bool b)
def Uz (f:GR)(x y:OF):PF:=λls env=>ob (f (x ls env) (y ls env)) λb=>some (.bool (!b))
def Ea (x:OF):PF:=λls env=>pI (x ls env) λb=>some (.bool (!b))
def GX (x:OF):PF:=λls env=>vT (x ls env) λk n=>some (.int k (iY k (0-n)))
def wB (k:IntKind)(x:OF):PF:=λls env=>vT (x ls env) λ_ n=>some (.int k (iY k n))
def pK (t:TypeId)(x:OF):PF:=λls env=>some (.iface t (x ls env))
def zT (fn:Fn)(a b:List OF):PF:=λls env=>some (.func fn (evs a ls env) (evs b ls env))
def iA (o:Option OF)(d:Nat)(ls:List d9)(env:T d9)(k:Nat->Option β):Option β:=
 Option.rec (k d) (λx=>iR (x ls env) k) o
def nT (x:OF)(lo hi:Option OF):PF:=λls env=>wm (x ls env) λs=>iA lo 0 ls env λl=>iA hi (len' s) ls env λh=>bi (Nat.ble l h) (bi (Nat.ble h (len' s)) (ob (takeN (Nat.sub h l) (gZ l s)) λr=>some (.str r)) none) none
def rM (es n:Nat)(x:OF)(lo hi:Option OF):PF:=λls env=>mo (x ls env) λid off=>iA lo 0 ls env λl=>iA hi n ls env λh=>bi (Nat.ble l h) (bi (Nat.ble h n) (some (.slice id (bi (Nat.beq l n) off (Nat.add off (Nat.mul l es))) (Nat.sub h l) (Nat.sub n l))) none) none
def G8 (o:Nat)(x:OF):PF:=λls env=>mo (x ls env) λid off=>some (.ptr id (Nat.add off o))
def wC (off:Nat)(x:OF):PF:=λls env=>Ao (x ls env) λcs=>uw off cs
def wD (off k:Nat)(x:OF):PF:=λls env=>Ao (x ls env) λcs=>ob (takeN k (gZ off cs)) λl=>some (.agg l)
def idx (len:Nat)(v:d9)(k:Nat->Option β):Option β:=iR v λi=>bi (Nat.blt i len) (k i) none
def nU (es:Nat)(x i:OF):PF:=λls env=>
 ze (x ls env) none (λid off len _=>idx len (i ls env) λk=>some (.ptr id (Nat.add off (Nat.mul k es))))
  (λid off len _=>idx len (i ls env) λk=>some (.ptr id (Nat.add off (Nat.mul k es))))
def gD (es n:Nat)(x i:OF):PF:=λls env=>mo (x ls env) λid off=>idx n (i ls env) λk=>some (.ptr id (Nat.add off (Nat.mul k es)))
def XW (es n:Nat)(x i:OF):PF:=λls env=>Ao (x ls env) λcs=>idx n (i ls env) λk=>uw (Nat.mul k es) cs
def rO (es n sz:Nat)(x i:OF):PF:=λls env=>Ao (x ls env) λcs=>idx n (i ls env) λk=>ob (takeN sz (gZ (Nat.mul k es) cs)) λl=>some (.agg l)
def vI (x i:OF):PF:=λls env=>wm (x ls env) λs=>iR (i ls env) λk=>ob (uw k s) λb=>some (.int .u8 b.toNat)
def pExt (x:OF)(i:Nat):PF:=λls env=>Ow (x ls env) λl=>uw i l
def lenOf (v:d9):Option Nat:=match v with
 | .nilSlice=>some 0
 | .slice _ _ n _=>some n
 | .sliceU _ _ n _=>some n
 | .str s=>some (len' s)
 | _=>none
def Gf (x:OF):PF:=λls env=>ze (x ls env) (some (.int .i64 0)) (λ_ _ n _=>some (.int .i64 (.ofNat n))) (λ_ _ n _=>some (.int .i64 (.ofNat n)))
def wE (x:OF):PF:=λls env=>wm (x ls env) λs=>some (.int .i64 (.ofNat (len' s)))
def GY (x:OF):PF:=λls env=>ze (x ls env) (some (.int .i64 0)) (λ_ _ _ c=>some (.int .i64 (.ofNat c))) (λ_ _ _ _=>none)
def mm2 (mx:Bool)(x y:d9):Option d9:=vT x λk a=>vT y λ_ b=>some (.int k (bi mx (bi (nJ a b) b a) (bi (nJ b a) b a)))
def OE (mx:Bool)(ys:List d9):d9->Option d9:=List.rec (λx=>some x) (λy _ ih x=>ob (mm2 mx x y) ih) ys
def XB (mx:Bool)(x:OF)(xs:List OF):PF:=λls env=>OE mx (evs xs ls env) (x ls env)
def UA (t:TypeId)(zero:d9)(ok:Bool)(v:d9):Option d9:=match v with
 | .iface u y=>bi (Nat.beq u t) (some (bi ok (.tuple [y,.bool true]) y)) (bi ok (some (.tuple [zero,.bool false])) none)
 | .nilIface=>bi ok (some (.tuple [zero,.bool false])) none
 | _=>none
def iZ (t:TypeId)(zero:d9)(ok:Bool)(x:OF):PF:=λls env=>UA t zero ok (x ls env)
def Eb:List (Nat×Nat×V9)->List (Nat×Nat×OF)
 | []=>[]
 | p::l=>(p.1,p.2.1,H9 p.2.2)::Eb l
def oQ:XQ->PF
 | .mov x=>dG (H9 x)
 | .pick c a b=>aB (H9 c) (H9 a) (H9 b)
 | .build z ps=>mD z (Eb ps)
 | .nilCheck x=>gB (H9 x)
 | .ib op x y=>match op with
  | .shl=>GU (H9 x) (H9 y)
  | .shr=>GV (H9 x) (H9 y)
  | op=>BL (Mh op) (Mi op) (H9 x) (H9 y)
 | .eq neg k x y=>match neg with
  | true=>Uz (vU k) (H9 x) (H9 y)
  | false=>EZ (vU k) (H9 x) (H9 y)
 | .not x=>Ea (H9 x)
 | .neg x=>GX (H9 x)
 | .conv k x=>wB k (H9 x)
 | .mkIface t x=>pK t (H9 x)
 | .mkFunc fn a b=>zT fn (iH a) (iH b)
 | .slStr x lo hi=>nT (H9 x) (mq lo) (mq hi)
 | .slArr es n x lo hi=>rM es n (H9 x) (mq lo) (mq hi)
 | .fAddr o x=>G8 o (H9 x)
 | .fld off size x=>match size with
  | none=>wC off (H9 x)
  | some k=>wD off k (H9 x)
 | .iAddr es x i=>nU es (H9 x) (H9 i)
 | .iAddrArr es n x i=>gD es n (H9 x) (H9 i)
 | .iArr es n size x i=>match size with
  | none=>XW es n (H9 x) (H9 i)
  | some k=>rO es n k (H9 x) (H9 i)
 | .iStr x i=>vI (H9 x) (H9 i)
 | .ext x i=>pExt (H9 x) i
 | .len x=>Gf (H9 x)
 | .lenS x=>wE (H9 x)
 | .cap x=>GY (H9 x)
 | .mm mx x xs=>XB mx (H9 x) (iH xs)
 | .assert t z ok x=>iZ t z ok (H9 x)
abbrev RF:=List d9->T d9->Mem->Option d9
def L9 (a:OF):RF:=λls env m=>mo (a ls env) λid off=>aO (m.get id) λrs n rows=>cell1 rs n rows off
def U3 (k:Nat)(a:OF):RF:=λls env m=>mo (a ls env) λid off=>aO (m.get id) λrs n rows=>ob (nR rs n rows off k) λl=>some (.agg l)
def findKey (f:GR)(k:d9)(es:List (d9×d9)):Nat->Option (Option (Nat×d9)):=
 List.rec (λ_=>some none) (λe _ ih i=>ob (f k e.1) λb=>bi b (some (some (i,e.2))) (ih (Nat.succ i))) es
def found (ok:Bool)(zero:d9)(o:Option (Nat×d9)):Option d9:=
 Option.rec (some (bi ok (.tuple [zero,.bool false]) zero)) (λp=>some (bi ok (.tuple [p.2,.bool true]) p.2)) o
def dY (f:GR)(n:Nat)(k:d9)(es:List (d9×d9)):Option (Option (Nat×d9)):=
 bi (Nat.beq (len' k.cells) n) (List.rec (ob (f k k) λ_=>some none) (λ_ _ _=>findKey f k es 0) es) none
def jF (f:GR)(n:Nat)(zero:d9)(ok:Bool)(mp k:OF):RF:=λls env m=>wo (mp ls env) (ob (dY f n (k ls env) []) λr=>found ok zero r) λid=>VP (m.get id) λes=>ob (dY f n (k ls env) es) λr=>found ok zero r
def agH (x:OF):RF:=λls env m=>wo (x ls env) (some (.int .i64 0)) λid=>VP (m.get id) λes=>some (.int .i64 (.ofNat (len' es)))
def bytesOf:List UInt8->List d9
 | []=>[]
 | b::l=>.int .u8 b.toNat::bytesOf l
def byteOf:List d9->Option (List UInt8)
 | []=>some []
 | .int .u8 (.ofNat n)::l=>match byteOf l with
  | some s=>some (UInt8.ofNat n::s)
  | none=>none
 | _ :: _=>none
def V4 (m:Mem)(id off n:Nat):Option (List d9):=
 Nat.rec (some []) (λ_ _=>aO (m.get id) λrs k rows=>J8 rs k rows n off) n
def bS (m:Mem)(es n:Nat)(v:d9):Option (List d9):=match v with
 | .nilSlice=>some []
 | .slice id off _ _=>V4 m id off (Nat.mul n es)
 | .sliceU id off _ _=>V4 m id off (Nat.mul n es)
 | .str s=>some (bytesOf (s.take n))
 | _=>none
def aN (x:OF):RF:=λls env m=>
 ze (x ls env) (some (.str [])) (λid off len _=>ob (V4 m id off len) λl=>ob (byteOf l) λs=>some (.str s))
  (λid off len _=>ob (V4 m id off len) λl=>ob (byteOf l) λs=>some (.str s))
def UC (b:Option U7)(nl:Option β)(k:Nat->Nat->List Nat->Option β):Option β:=match b with
 | some (.iter none _ _)=>nl
 | some (.iter (some mp) since seen)=>k mp since seen
 | _=>none
def rP (it:OF):RF:=λls env m=>mo (it ls env) λid off=>bi (Nat.beq off 0)
 (UC (m.get id) none λmp since seen=>List.rec none (λi _ _=>VP (m.get mp) λes=>bi (Nat.beq (len' es) since) (ob (uw i es) λe=>some (.tuple [e.1,e.2])) none) seen) none
def Mj:Gs->Nat
 | .flat ks=>ks.length
 | _=>1
def wF:Rs->RF
 | .load size a=>match size with
  | none=>L9 (H9 a)
  | some k=>U3 k (H9 a)
 | .look kk zero ok m k=>jF (vU kk) (Mj kk) zero ok (H9 m) (H9 k)
 | .lenM x=>agH (H9 x)
 | .bytesStr x=>aN (H9 x)
 | .entry it=>rP (H9 it)
abbrev LR:=Option (d9×Option U7)
abbrev LF:=List d9->T d9->Nat->LR
def l6 (cs:List d9):U7:=.cells (len' cs) 1 (.nd .e cs .e)
def kT (es n:Nat)(cells:List d9)(k:U7->Option β):Option β:=ob (rowsOf es n cells) λrows=>k (.cells es n (T.ofList rows))
def nV (zero:List d9):LF:=λ_ _ nid=>some (.ptr nid 0,some (l6 zero))
def pO (x:OF):LF:=λls env nid=>some (.ptr nid 0,some (l6 (x ls env).cells))
def P7 (zero:List d9)(n:Nat):List d9:=Nat.rec [] (λ_ ih=>bU zero ih) n
def U4 (es len:Nat)(zero:List d9)(ps:List (Nat×Nat×OF)):LF:=λls env nid=>ob (lay ps ls env (P7 zero len)) λcells=>kT es len cells λb=>some (.slice nid 0 len len,some b)
def rQ:LF:=λ_ _ nid=>some (.map nid,some (.map []))
def iI (es bytes:Nat)(zero:List d9)(len cap:OF):LF:=λls env nid=>
 iR (len ls env) λl=>iR (cap ls env) λc=>
  bi (Nat.ble l c) (bi (Nat.ble (Nat.mul bytes c) 281474976710656) (bi (Nat.blt c 9223372036854775808)
   (some (.slice nid 0 l c,some (.cells es c (T.rep zero c .e 0)))) none) none) none
def iO (x:OF):LF:=λls env nid=>wm (x ls env) λs=>kT 1 (len' s) (bytesOf s) λb=>some (.sliceU nid 0 (len' s) 1,some b)
def J5 (nid es:Nat)(x:d9)(lo:Nat)(hi:Option Nat):LR:=
 ze x (bi (Nat.beq lo 0) (Option.rec (some (.nilSlice,none)) (λh=>bi (Nat.beq h 0) (some (.nilSlice,none)) none) hi) none)
  (λid off len cap=>Option.rec (known id off cap len) (λh=>known id off cap h) hi)
  (λid off len es'=>Option.rec (unk id off len es' len) (λh=>unk id off len es' h) hi)
where
 known (id off cap h:Nat):LR:=bi (Nat.ble lo h) (bi (Nat.ble h cap)
  (some (.slice id (bi (Nat.beq lo cap) off (Nat.add off (Nat.mul lo es))) (Nat.sub h lo) (Nat.sub cap lo),none)) none) none
 unk (id off len es' h:Nat):LR:=bi (Nat.ble lo h) (bi (Nat.ble h len) (bi (Nat.beq es es')
  (bi (Nat.blt lo len) (some (.sliceU id (Nat.add off (Nat.mul lo es)) (Nat.sub h lo) es,none))
   (bi (Nat.beq lo 0) (some (.sliceU id off (Nat.sub h lo) es,none)) (some (.sliceU nid 0 0 es,some (.tail id))))) none) none) none
def Rn (es:Nat)(x:OF)(lo hi:Option OF):LF:=λls env nid=>iA lo 0 ls env λl=>Option.rec (J5 nid es (x ls env) l none) (λh=>iR (h ls env) λh=>J5 nid es (x ls env) l (some h)) hi
def Fa:VO->LF
 | .alloc zero=>nV zero
 | .box x=>pO (H9 x)
 | .buildSlice es len zero ps=>U4 es len zero (Eb ps)
 | .mkMap=>rQ
 | .mkSlice es bytes zero l c=>iI es bytes zero (H9 l) (H9 c)
 | .strBytes x=>iO (H9 x)
 | .sl es x lo hi=>Rn es (H9 x) (mq lo) (mq hi)
structure VM where
 v:d9
 m:Mem
abbrev oF:=Option (List VM)
abbrev H8:=Fn->List d9->Mem->oF
abbrev EF:=H8->List d9->T d9->Mem->oF
def one (v:d9)(m:Mem):oF:=some [⟨v,m⟩]
def gF (size:Nat)(a x:OF):EF:=λ_ ls env m=>mo (a ls env) λid off=>bi (Nat.beq (len' (x ls env).cells) size) (storeAt m id off (x ls env).cells λm'=>one .undef m') none
def kU (es:List (d9×d9))(k v:d9):Nat->List (d9×d9):=
 List.rec (λ_=>[]) (λe es ih i=>Nat.rec ((k,v)::es) (λj _=>e::ih j) i) es
def kV (f:GR)(n:Nat)(mp k x:OF):EF:=λ_ ls env m=>wo (mp ls env) none λid=>bi (Nat.blt id m.lim) none
 (VP (m.get id) λes=>ob (dY f n (k ls env) es) λr=>
  Option.rec (one .undef (m.set id (.map (bU es [(k ls env,x ls env)])))) (λp=>ob (uw p.1 es) λe=>
   bi (Nat.beq (len' e.1.cells) n) (one .undef (m.set id (.map (kU es (k ls env) (x ls env) p.1)))) none) r)
def rR (x:OF):EF:=λ_ ls env m=>wo (x ls env) (one (.ptr m.nx 0) (m.new (.iter none 0 [])))
 λid=>VP (m.get id) λes=>one (.ptr m.nx 0) (m.new (.iter (some id) (len' es) []))
def XY (n:Nat)(l:List Nat):Bool:=List.rec false (λx _ ih=>bi (Nat.beq x n) true ih) l
def nexts (m:Mem)(id mp since:Nat)(seen:List Nat)(es:List (d9×d9)):Nat->List VM:=
 List.rec (λ_=>[]) (λe _ ih i=>bi (XY i seen) (ih (Nat.succ i))
  (⟨.tuple [.bool true,e.1,e.2],m.set id (.iter (some mp) since (i::seen))⟩::ih (Nat.succ i))) es
def Ru (m:Mem)(l:List VM):List VM:=List.rec [⟨.tuple [.bool false],m⟩] (λx xs _=>x::xs) l
def zU (it:OF):EF:=λ_ ls env m=>mo (it ls env) λid off=>bi (Nat.beq off 0) (bi (Nat.blt id m.lim) none
 (UC (m.get id) (one (.tuple [.bool false]) m) λmp since seen=>VP (m.get mp) λes=>
  bi (Nat.beq (len' es) since) (some (Ru m (nexts m id mp since seen es 0))) none)) none
def big (n bytes es:Nat):Bool:=bi (Nat.ble (Nat.mul (Nat.add (Nat.mul 2 n) 2048) bytes) 281474976710656) (bi (Nat.ble 1 es) (Nat.ble 1 bytes) false) false
def grown (m:Mem)(es n:Nat)(cells:List d9):oF:=kT es n cells λb=>one (.sliceU m.nx 0 n es) (m.new b)
def Ml (m:Mem)(es bytes n:Nat)(new:List d9):oF:=
 Nat.rec (one .nilSlice m) (λ_ _=>bi (big n bytes es) (grown m es n new) none) n
def ji (m:Mem)(es bytes n:Nat)(new:List d9)(id off len cap:Nat):oF:=
 bi (Nat.ble (Nat.add len n) cap) (eY m id (Nat.add off (Nat.mul len es)) new λm'=>one (.slice id off (Nat.add len n) cap) m')
  (bi (big (Nat.add len n) bytes es) (ob (V4 m id off (Nat.mul len es)) λold=>grown m es (Nat.add len n) (bU old new)) none)
def wG (b:Option U7)(c:Nat->Nat->T (List d9)->Option β)(k:Nat->Option β):Option β:=match b with
 | some (.cells rs n rows)=>c rs n rows
 | some (.tail p)=>k p
 | _=>none
def pQ (m:Mem)(es bytes n:Nat)(new:List d9)(id off len es':Nat):oF:=
 Nat.rec (one (.sliceU id off len es') m) (λ_ _=>bi (Nat.beq es es') (bi (big (Nat.add len n) bytes es) (bi (Nat.ble m.lim id) (bi (I6 new)
  (wG (m.get id)
   (λrs k rows=>
    bi (bi (Nat.beq rs es) (bi (Nat.beq off 0) (bi (Nat.ble len k) (bi (Nat.beq n 1) (Nat.beq (len' new) es) false) false) false) false)
     (one (.sliceU m.nx 0 (Nat.succ len) es) ((m.set id .dead).new (.cells es (Nat.succ len) (rows.put len new))))
     (ob (J8 rs k rows (Nat.mul len es) off) λold=>grown (m.set id .dead) es (Nat.add len n) (bU old new)))
   (λp=>aO (m.get p) λ_ _ _=>bi (Nat.ble m.lim p) (bi (Nat.beq len 0) (grown (m.set p .dead) es n new) none) none)) none) none) none) none) n
def oz (m:Mem)(es bytes n:Nat)(new:List d9)(s:d9):oF:=
 ze s (Ml m es bytes n new) (λa b c d=>ji m es bytes n new a b c d) (λa b c d=>pQ m es bytes n new a b c d)
def sQ (es bytes:Nat)(s x:OF):EF:=λ_ ls env m=>ob (lenOf (x ls env)) λn=>ob (bS m es n (x ls env)) λnew=>oz m es bytes n new (s ls env)
def zV (es:Nat)(zero:List d9)(bytes:Nat)(s x:OF):EF:=λ_ ls env m=>iR (x ls env) λn=>bi (Nat.ble (Nat.mul n bytes) 281474976710656) (bi (Nat.blt n 9223372036854775808) (oz m es bytes n (P7 zero n) (s ls env)) none) none
def wH (es:Nat)(d s:OF):EF:=λ_ ls env m=>ob (lenOf (s ls env)) λn=>ze (d ls env) (one (.int .i64 0) m) (λid off len _=>go m n id off len (s ls env)) (λid off len _=>go m n id off len (s ls env))
where
 go (m:Mem) (n id off len:Nat) (s:d9):oF:=ob (bS m es (Nat.min n len) s) λcells=>eY m id off cells λm'=>one (.int .i64 (.ofNat (Nat.min n len))) m'
def pR (zero:List d9)(x:OF):EF:=λ_ ls env m=>
 ze (x ls env) (one (.tuple []) m) (λid off len _=>eY m id off (P7 zero len) λm'=>one (.tuple []) m')
  (λid off len _=>eY m id off (P7 zero len) λm'=>one (.tuple []) m')
def iJ (f:FuncId)(args:List OF):EF:=λcf ls env m=>cf (.func f) (evs args ls env) m
def XZ (cf:H8)(m:Mem)(args:List d9)(v:d9):oF:=Ox v λfn a b=>match fn with
 | .func f=>cf (.func f) (bU a (bU args b)) m
 | .yield l=>cf (.yield l) (bU a args) m
 | _=>none
def pU (f:OF)(args:List OF):EF:=λcf ls env m=>XZ cf m (evs args ls env) (f ls env)
def adW (v:d9)(m:Mem):oF:=match v with
 | .iface t x=>one (.dD (.iface t x)) m
 | _=>none
def mE (x:OF):EF:=λ_ ls env m=>adW (x ls env) m
def GZ:EF:=λ_ _ _ _=>none
def vJ:Xx->EF
 | .store size a x=>gF size (H9 a) (H9 x)
 | .mapSet kk m k x=>kV (vU kk) (Mj kk) (H9 m) (H9 k) (H9 x)
 | .range x=>rR (H9 x)
 | .next it=>zU (H9 it)
 | .app es zeros zero bytes s x=>match zeros with
  | true=>zV es zero bytes (H9 s) (H9 x)
  | false=>sQ es bytes (H9 s) (H9 x)
 | .copy es d s=>wH es (H9 d) (H9 s)
 | .clear zero x=>pR zero (H9 x)
 | .call f args=>iJ f (iH args)
 | .callv f args=>pU (H9 f) (iH args)
 | .panic x=>mE (H9 x)
 | .defer _ _=>GZ
 | .recover=>GZ
 | .bad=>GZ
def Ku (f:α->Option (List β))(l:List α):Option (List β):=
 List.rec (some []) (λa _ ih=>ob (f a) λx=>ob ih λy=>some (x++y)) l
def bnd (x:Option (List α))(f:α->Option (List β)):Option (List β):=
 Option.rec none (λl=>List.rec (some []) (λa t _=>List.rec (f a) (λ_ _ _=>Ku f l) t) l) x
structure EM where
 env:T d9
 m:Mem
 px:Option d9
 mks:List Mk
def fD (v:d9)(p:d9->β)(q:β):β:=match v with
 | .dD x=>p x
 | _=>q
abbrev RC:=H8->List d9->T d9->Mem->Option (List EM)
def aG:RC:=λ_ _ env m=>some [⟨env,m,none,[]⟩]
def uz (f:PF)(d:d9->T d9->T d9)(k:RC):RC:=λcf ls env m=>Option.rec none (λv=>k cf (v::ls) (d v env) m) (f ls env)
def J2 (f:PF)(k:RC):RC:=λcf ls env m=>Option.rec none (λv=>k cf (v::ls) env m) (f ls env)
def rcR (f:RF)(d:d9->T d9->T d9)(k:RC):RC:=λcf ls env m=>Option.rec none (λv=>k cf (v::ls) (d v env) m) (f ls env m)
def aH (f:RF)(k:RC):RC:=λcf ls env m=>Option.rec none (λv=>k cf (v::ls) env m) (f ls env m)
def JR (m:Mem)(b:Option U7):Mem:=Option.rec m (λb=>m.new b) b
def JL (f:LF)(d:d9->T d9->T d9)(k:RC):RC:=λcf ls env m=>ob (f ls env m.nx) λr=>k cf (r.1::ls) (d r.1 env) (JR m r.2)
def Gg (f:LF)(k:RC):RC:=λcf ls env m=>Option.rec none (λr=>k cf (r.1::ls) env (JR m r.2)) (f ls env m.nx)
def lT (f:EF)(k:RC):RC:=λcf ls env m=>bnd (f cf ls env m) λr=>fD r.v (λx=>some [⟨env,r.m,some x,[]⟩]) (k cf (r.v::ls) env r.m)
def rcE (f:EF)(d:d9->T d9->T d9)(k:RC):RC:=λcf ls env m=>bnd (f cf ls env m) λr=>fD r.v (λx=>some [⟨env,r.m,some x,[]⟩]) (k cf (r.v::ls) (d r.v env) r.m)
def sS (f:OF)(args:List OF):RC:=λ_ ls env m=>Ox (f ls env) λfn a b=>some [⟨env,m,none,[.d (.func fn a b) (evs args ls env)]⟩]
def qD (w:Bool)(v:d9):Bool:=match v with
 | .bool b=>GN b w
 | _=>false
def gP (x:OF)(w:Bool)(f:PF):PF:=λls env=>bi (qD w (x ls env)) (f ls env) (some .undef)
def jg (x:OF)(w:Bool)(f:RF):RF:=λls env m=>bi (qD w (x ls env)) (f ls env m) (some .undef)
def gLk (x:OF)(w:Bool)(f:LF):LF:=λls env i=>bi (qD w (x ls env)) (f ls env i) (some (.undef,none))
def gE (x:OF)(w:Bool)(f:EF):EF:=λcf ls env m=>bi (qD w (x ls env)) (f cf ls env m) (one .undef m)
def Gh (g:Option (V9×Bool))(f:PF):PF:=match g with
 | none=>f
 | some (x,w)=>gP (H9 x) w f
def BM (g:Option (V9×Bool))(f:RF):RF:=match g with
 | none=>f
 | some (x,w)=>jg (H9 x) w f
def Rv (g:Option (V9×Bool))(f:LF):LF:=match g with
 | none=>f
 | some (x,w)=>gLk (H9 x) w f
def Mq (g:Option (V9×Bool))(f:EF):EF:=match g with
 | none=>f
 | some (x,w)=>gE (H9 x) w f
def XC (o:BJ)(d:Option Nat)(g:Option (V9×Bool))(k:RC):RC:=match o with
 | .p o=>match d with
  | none=>J2 (Gh g (oQ o)) k
  | some j=>uz (Gh g (oQ o)) (iM (some j)) k
 | .r o=>match d with
  | none=>aH (BM g (wF o)) k
  | some j=>rcR (BM g (wF o)) (iM (some j)) k
 | .a o=>match d with
  | none=>Gg (Rv g (Fa o)) k
  | some j=>JL (Rv g (Fa o)) (iM (some j)) k
 | .e o=>match d with
  | none=>lT (Mq g (vJ o)) k
  | some j=>rcE (Mq g (vJ o)) (iM (some j)) k
def qM (i:Inst):Option (V9×List V9):=match i.op,i.guard,i.dst with
 | .e (.defer f as),none,none=>some (f,as)
 | _,_,_=>none
def He (i:Inst):RC:=match qM i with
 | some p=>sS (H9 p.1) (iH p.2)
 | none=>XC i.op i.dst i.guard aG
def iK:List Inst->RC
 | []=>aG
 | [i]=>He i
 | i::j::l=>XC i.op i.dst i.guard (iK (j::l))
def mF (f:V9->V9):XQ->XQ
 | .mov x=>.mov (f x)
 | .pick a b c=>.pick (f a) (f b) (f c)
 | .build z ps=>.build z (ps.map λp=>(p.1,p.2.1,f p.2.2))
 | .nilCheck x=>.nilCheck (f x)
 | .ib o x y=>.ib o (f x) (f y)
 | .eq n k x y=>.eq n k (f x) (f y)
 | .not x=>.not (f x)
 | .neg x=>.neg (f x)
 | .conv k x=>.conv k (f x)
 | .mkIface t x=>.mkIface t (f x)
 | .mkFunc g a b=>.mkFunc g (a.map f) (b.map f)
 | .slStr x a b=>.slStr (f x) (a.map f) (b.map f)
 | .slArr e n x a b=>.slArr e n (f x) (a.map f) (b.map f)
 | .fAddr o x=>.fAddr o (f x)
 | .fld o s x=>.fld o s (f x)
 | .iAddr e x i=>.iAddr e (f x) (f i)
 | .iAddrArr e n x i=>.iAddrArr e n (f x) (f i)
 | .iArr e n s x i=>.iArr e n s (f x) (f i)
 | .iStr x i=>.iStr (f x) (f i)
 | .ext x i=>.ext (f x) i
 | .len x=>.len (f x)
 | .lenS x=>.lenS (f x)
 | .cap x=>.cap (f x)
 | .mm m x xs=>.mm m (f x) (xs.map f)
 | .assert t z ok x=>.assert t z ok (f x)
def JU (f:V9->V9):Rs->Rs
 | .load s a=>.load s (f a)
 | .look k z o m x=>.look k z o (f m) (f x)
 | .lenM x=>.lenM (f x)
 | .bytesStr x=>.bytesStr (f x)
 | .entry x=>.entry (f x)
def OG (f:V9->V9):VO->VO
 | .alloc z=>.alloc z
 | .box x=>.box (f x)
 | .buildSlice e l z ps=>.buildSlice e l z (ps.map λp=>(p.1,p.2.1,f p.2.2))
 | .mkMap=>.mkMap
 | .mkSlice e b z l c=>.mkSlice e b z (f l) (f c)
 | .strBytes x=>.strBytes (f x)
 | .sl e x a b=>.sl e (f x) (a.map f) (b.map f)
def Ec (f:V9->V9):Xx->Xx
 | .store s a x=>.store s (f a) (f x)
 | .mapSet k a b c=>.mapSet k (f a) (f b) (f c)
 | .range x=>.range (f x)
 | .next x=>.next (f x)
 | .app e z zs b s x=>.app e z zs b (f s) (f x)
 | .copy e d s=>.copy e (f d) (f s)
 | .clear z x=>.clear z (f x)
 | .call g a=>.call g (a.map f)
 | .callv g a=>.callv (f g) (a.map f)
 | .defer g a=>.defer (f g) (a.map f)
 | .panic x=>.panic (f x)
 | .recover=>.recover
 | .bad=>.bad
def mapA (f:V9->V9):BJ->BJ
 | .p o=>.p (mF f o)
 | .r o=>.r (JU f o)
 | .a o=>.a (OG f o)
 | .e o=>.e (Ec f o)
def bump:V9->V9
 | .loc k=>.loc (k+1)
 | x=>x
def rn (r:List V9):V9->V9
 | .loc k=>r.getD k (.con .undef)
 | x=>x
def Aq (j:Nat):List Inst->Bool
 | []=>false
 | i::l=>i.dst==some j||Aq j l
def nW (r:List V9):List Inst->List Inst
 | []=>[]
 | i::l=>
  let keep:=⟨mapA (rn r) i.op,i.dst,i.guard.map λp=>(rn r p.1,p.2)⟩::nW (.loc 0::r.map bump) l
  match i.op,i.dst,i.guard with
  | .p (.mov x),none,none=>match rn r x with
   | .slot j=>bif Aq j l then keep else nW (.slot j::r) l
   | y=>nW (y::r) l
  | _,_,_=>keep
def uD (f:d9->d9->Bool)(a:List d9):List d9->Bool:=
 List.rec (λb=>List.rec true (λ_ _ _=>false) b) (λx _ ih b=>List.rec false (λy ys _=>bi (f x y) (ih ys) false) b) a
def bM (n:Nat):d9->d9->Bool:=Nat.rec (λ_ _=>false) (λ_ ih x y=>match x,y with
  | .bool a,.bool b=>GN a b
  | .int k a,.int k' b=>bi (kEq k k') (qK a b) false
  | .str a,.str b=>strEq a b
  | .nilPtr,.nilPtr=>true
  | .ptr a b,.ptr c d=>bi (Nat.beq a c) (Nat.beq b d) false
  | .nilSlice,.nilSlice=>true
  | .slice a b c d,.slice a' b' c' d'=>bi (Nat.beq a a') (bi (Nat.beq b b') (bi (Nat.beq c c') (Nat.beq d d') false) false) false
  | .sliceU a b c d,.sliceU a' b' c' d'=>bi (Nat.beq a a') (bi (Nat.beq b b') (bi (Nat.beq c c') (Nat.beq d d') false) false) false
  | .nilMap,.nilMap=>true
  | .map a,.map b=>Nat.beq a b
  | .nilFunc,.nilFunc=>true
  | .func (.func f) a b,.func (.func g) c d=>bi (Nat.beq f g) (bi (uD ih a c) (uD ih b d) false) false
  | .func (.yield f) a b,.func (.yield g) c d=>bi (Nat.beq f g) (bi (uD ih a c) (uD ih b d) false) false
  | .nilIface,.nilIface=>true
  | .iface t a,.iface u b=>bi (Nat.beq t u) (ih a b) false
  | .agg a,.agg b=>uD ih a b
  | .tuple a,.tuple b=>uD ih a b
  | .undef,.undef=>true
  | _,_=>false) n
abbrev DC:=H8->Nat->List d9->T d9->Mem->List Mem->Option (List EM)
def stable (f:RF)(ls:List d9)(env:T d9)(v:d9)(n:Nat):List Mem->Bool:=
 Nat.rec (λ_=>true) (λ_ ih gs=>List.rec false (λm ms _=>bi (Option.rec false (λu=>bM 100 u v) (f ls env m)) (ih ms) false) gs) n
def tl (l:List Mem):List Mem:=List.rec [] (λ_ t _=>t) l
def qN:DC:=λ_ _ _ env m _=>some [⟨env,m,none,[]⟩]
def jU (f:PF)(d:d9->T d9->T d9)(k:DC):DC:=λcf b ls env m gs=>ob (f ls env) λv=>k cf b (v::ls) (d v env) m gs
def hd (m:Mem)(gs:List Mem):Mem:=List.rec m (λg _ _=>g) gs
def isVoid (b:Option U7):Bool:=match b with
 | some .void=>true
 | _=>false
def qO (i:Nat)(gs:List Mem):Bool:=List.rec true (λg _ ih=>bi (isVoid (g.get i)) ih false) gs
def Rw (x:Option (List α))(f:α->Option β):Option β:=
 Option.rec none (λl=>List.rec none (λa t _=>List.rec (f a) (λ_ _ _=>none) t) l) x
def vV (f:RF)(c:Nat)(d:d9->T d9->T d9)(k:DC):DC:=λcf b ls env m gs=>ob (f ls env (hd m gs)) λv=>bi (stable f ls env v c (tl gs)) (k cf b (v::ls) (d v env) m gs) none
def isCells (b:Option U7):Bool:=match b with
 | some (.cells _ _ _)=>true
 | _=>false
def JV (x:OF)(c:Nat)(d:d9->T d9->T d9)(k:DC):DC:=λcf b ls env m gs=>match x ls env with
 | .slice id _ _ _=>bi (isVoid ((hd m gs).get id)) (bi (isCells (m.get id)) (ob (aN x ls env m) λv=>k cf b (v::ls) (d v env) m gs) none) (vV (aN x) c d k cf b ls env m gs)
 | _=>vV (aN x) c d k cf b ls env m gs
def ajA (c:Nat)(o:Rs)(d:Option Nat)(g:Option (V9×Bool))(k:DC):DC:=match o,g with
 | .bytesStr y,none=>JV (H9 y) c (iM d) k
 | o,g=>vV (BM g (wF o)) c (iM d) k
def VQ (m:Mem)(i:Nat)(b:Option U7):Mem:=Option.rec m (λb=>m.set i b) b
def dcL (f:LF)(c:Nat)(d:d9->T d9->T d9)(k:DC):DC:=λcf b ls env m gs=>ob (f ls env (Nat.add b c)) λr=>bi (isVoid (m.get (Nat.add b c))) (bi (qO (Nat.add b c) gs) (k cf b (r.1::ls) (d r.1 env) (VQ m (Nat.add b c) r.2) gs) none) none
abbrev GF:=List d9->T d9->Bool
def zW:GF:=λ_ _=>true
def Gt:GF:=λ_ _=>false
def XD (k:GF):GF:=λls env=>k (.undef::ls) env
def ghP (f:PF)(k:GF):GF:=λls env=>Option.rec false (λv=>k (v::ls) env) (f ls env)
def Ya (ds:List Bool):V9->Bool
 | .loc k=>ds.getD k false
 | _=>false
def Fb (ds:List Bool)(i:Inst):Bool:=(GI i.op).any (Ya ds)||(match i.guard with
 | some p=>Ya ds p.1
 | none=>false)
def BN:List (Nat×Inst)->List Bool->GF
 | [],_=>zW
 | x::l,ds=>match x.2.dst with
  | some _=>Gt
  | none=>match x.2.op with
   | .e _=>XD (BN l (true::ds))
   | .a _=>Gt
   | .r _=>bif Fb ds x.2 then XD (BN l (true::ds)) else Gt
   | .p o=>bif Fb ds x.2 then XD (BN l (true::ds)) else ghP (Gh x.2.guard (oQ o)) (BN l (false::ds))
def OH:List (Nat×Inst)->List Bool->Bool
 | [],_=>true
 | x::l,ds=>match x.2.dst with
  | some _=>false
  | none=>match x.2.op with
   | .e _=>OH l (true::ds)
   | .a _=>false
   | .r _=>bif Fb ds x.2 then OH l (true::ds) else false
   | .p _=>OH l (Fb ds x.2::ds)
def adY (o:BJ)(l:List (Nat×Inst)):GF:=match o with
 | .e (.call _ _)=>bif OH l [true] then BN l [true] else Gt
 | .e (.callv _ _)=>bif OH l [true] then BN l [true] else Gt
 | .e (.panic _)=>bif OH l [true] then BN l [true] else Gt
 | _=>Gt
def OI (f:EF)(gh:GF)(d:d9->T d9->T d9)(k:DC):DC:=λcf b ls env m gs=>Rw (f cf ls env m) λr=>fD r.v (λx=>bi (gh (.undef::ls) (d .undef env)) (some [⟨env,r.m,some x,[]⟩]) none) (k cf b (r.v::ls) (d r.v env) r.m (r.m::gs))
def ajB (c:Nat)(o:BJ)(d:Option Nat)(g:Option (V9×Bool))(gh:GF)(k:DC):DC:=match o with
 | .p o=>jU (Gh g (oQ o)) (iM d) k
 | .r o=>ajA c o d g k
 | .a o=>dcL (Rv g (Fa o)) c (iM d) k
 | .e o=>OI (Mq g (vJ o)) gh (iM d) k
def Ed:List (Nat×Inst)->DC
 | []=>qN
 | (c,i)::l=>ajB c i.op i.dst i.guard (adY i.op l) (Ed l)
def reserve (n:Nat)(m:Mem):Mem:=Nat.rec (λm=>m) (λ_ ih m=>ih (m.new .void)) n m
structure Out where
 x:bn
 env:T d9
 m:Mem
 marks:List Mk
 pv:Option d9
abbrev SC:=H8->Nat->Option Nat->T d9->Mem->List Mk->Option (List Out)
def rT (x:bn)(env:T d9)(m:Mem)(k:List Mk):Option (List Out):=some [⟨x,env,m,k,none⟩]
def jG:SC:=λ_ _ _ env m k=>rT .normal env m k
def mG (k:List Mk)(e:EM):Option (List Out):=
 Option.rec (rT .normal e.env e.m (bU e.mks k)) (λx=>some [⟨.ret,e.env,e.m,bU e.mks k,some x⟩]) e.px
def aI (r:RC):SC:=λcf _ _ env m k=>bnd (r cf [] env m) (mG k)
def nX (r:RC):SC:=λcf _ ir env m k=>Option.rec (bnd (r cf [] env m) (mG k)) (λ_=>none) ir
def jW:List Inst->Bool
 | []=>false
 | i::l=>(qM i).isSome||jW l
def kW (n:Nat)(r:DC):SC:=λcf _ _ env m k=>bnd (r cf m.nx [] env (reserve n m) [reserve n m]) (mG k)
def bE (a b:SC):SC:=λcf fuel ir env m k=>bnd (a cf fuel ir env m k) λo=>bn.rec (b cf fuel ir o.env o.m o.marks) (λ_=>some [o]) (some [o]) o.x
def mH (c:OF)(a b:SC):SC:=λcf fuel ir env m k=>pI (c [] env) λt=>bi t (a cf fuel ir env m k) (b cf fuel ir env m k)
def jv (id:Nat)(a:SC):SC:=λcf fuel ir env m k=>bnd (a cf fuel ir env m k) λo=>bn.rec (some [o]) (λid'=>bi (Nat.beq id id') (rT .normal o.env o.m o.marks) (some [o])) (some [o]) o.x
def T9 (body:T d9->Mem->List Mk->Option (List Out))(n:Nat):T d9->Mem->List Mk->Option (List Out):=
 Nat.rec (λ_ _ _=>none) (λ_ ih env m k=>bnd (body env m k) λo=>bn.rec (ih o.env o.m o.marks) (λ_=>some [o]) (some [o]) o.x) n
def nY (a:SC):SC:=λcf fuel ir env m k=>T9 (λenv m k=>a cf fuel ir env m k) fuel env m k
def pV (id:Nat):SC:=λ_ _ _ env m k=>rT (.exit id) env m k
def lW:SC:=λ_ _ _ env m k=>rT .ret env m k
def qP (b:Option U7)(f:LoopState->Option bn->T d9->List (Option Nat)->ay->ay->Option β):Option β:=match b with
 | some (.loop st pend env params assign body)=>f st pend env params assign body
 | _=>none
def Yb (cf:H8)(m:Mem)(args:List d9)(v:d9):oF:=Ox v λfn a b=>match fn with
 | .func f=>cf (.func f) (bU a (bU args b)) m
 | _=>none
def Rx (cf:H8)(f:d9)(params:List (Option Nat))(assign body:ay)(env:T d9)(m:Mem)(k:List Mk):Option (List Out):=
 bnd (Yb cf (m.new (.loop .ready none env params assign body)) [.func (.yield m.nx) [] []] f) λr=>fD r.v (λ_=>none) <|
  qP (r.m.get m.nx) λst pend _ _ _ _=>match st with
   | .busy=>none
   | _=>match pend with
    | none=>rT .normal env (r.m.set m.nx .dead) k
    | some x=>rT x env (r.m.set m.nx .dead) k
def mX (f:OF)(params:List (Option Nat))(assign body:ay):SC:=λcf _ ir env m k=>
 Option.rec (Rx cf (f [] env) params assign body env (m.new .deferred) (.c m.nx::k))
  (λl=>qP (m.get l) λ_ _ _ _ _ _=>Rx cf (f [] env) params assign body env m k) ir
def wI:ay->SC
 | .skip=>jG
 | .reg ops=>bif jW ops then nX (iK ops) else aI (iK (nW [] ops))
 | .dreg n ops=>kW n (Ed ops)
 | .seq a b=>bE (wI a) (wI b)
 | .cond c a b=>mH (H9 c) (wI a) (wI b)
 | .block id a=>jv id (wI a)
 | .loop a=>nY (wI a)
 | .exit id=>pV id
 | .ret=>lW
 | .rangeFunc f params assign body=>mX (H9 f) params assign body
def eZ (js:List (Option Nat)):List d9->T d9->Option (T d9):=
 List.rec (λvs env=>List.rec (some env) (λ_ _ _=>none) vs) (λj _ ih vs env=>List.rec none (λv vs _=>ih vs (iM j v env)) vs) js
def results (rs:List pF)(env:T d9)(m:Mem):Option (List d9):=
 List.rec (some []) (λr _ ih=>ob (match r with
  | .tmp j=>T.get env j
  | .cell j size=>ob (T.get env j) λp=>mo p λid off=>aO (m.get id) λrs n rows=>match size with
   | none=>cell1 rs n rows off
   | some k=>ob (nR rs n rows off k) λl=>some (.agg l)) λv=>ob ih λl=>some (v::l)) rs
def result (l:List d9):d9:=List.rec (.tuple l) (λv t _=>List.rec v (λ_ _ _=>.tuple l) t) l
def Yc (b:Option U7)(k:Option β):Option β:=match b with
 | some .deferred=>k
 | _=>none
abbrev kX:=FuncId->List d9->Option d9->Mem->Option (List (Mem×Option d9))
def Yd (dcf:kX)(v:d9)(args:List d9)(md:Option d9)(m:Mem):Option (List (Mem×Option d9)):=Ox v λfn a b=>match fn with
 | .func f=>dcf f (bU a (bU args b)) md m
 | _=>none
def Hf (dcf:kX)(fin:Option d9->Mem->oF):List Mk->Option d9->Mem->oF:=
 List.rec (λmd m=>fin md m) (λx _ ih md m=>match x with
  | .c id=>Yc (m.get id) (ih md (m.set id .dead))
  | .d v args=>bnd (Yd dcf v args md m) λr=>ih r.2 r.1)
def Au (rs:List pF)(env:T d9)(md:Option d9)(m:Mem):oF:=
 Option.rec (ob (results rs env m) λl=>one (result l) m) (λx=>one (.dD x) m) md
def leave (dcf:kX)(rs:List pF)(o:Out):oF:=bn.rec (Hf dcf (Au rs o.env) o.marks none o.m) (λ_=>none) (Hf dcf (Au rs o.env) o.marks o.pv o.m) o.x
def roundEnd (l:Nat)(o:Out):oF:=match o.marks,o.pv with
 | _ :: _,_=>none
 | _,some _=>none
 | [],none=>qP (o.m.get l) λst pend env params assign body=>match st,pend with
  | .busy,none=>match o.x with
   | .normal=>one (.bool true) (o.m.set l (.loop .ready none env params assign body))
   | x=>one (.bool false) (o.m.set l (.loop .done (some x) env params assign body))
  | _,_=>none
mutual
def JW (lo:Nat):d9->List Nat
 | .ptr i _ | .slice i _ _ _ | .sliceU i _ _ _ | .map i=>bi (Nat.ble lo i) [i] []
 | .func _ a b=>qE lo a++qE lo b
 | .iface _ v=>JW lo v
 | .agg l=>qE lo l
 | .tuple l=>qE lo l
 | _=>[]
def qE (lo:Nat):List d9->List Nat
 | []=>[]
 | v::l=>JW lo v++qE lo l
end
inductive NB where
 | cells (rs:Nat) (rows:List (List d9))
 | map (es:List (d9×d9))
 | tail (p:Nat)
 | dead
 deriving Inhabited
def zM (b:U7):Option NB:=match b with
 | .cells rs n rows=>ob (rows.slice n 0) λl=>some (.cells rs l)
 | .map es=>some (.map es)
 | .tail p=>some (.tail p)
 | .dead=>some .dead
 | _=>none
def OJ (lo:Nat):List (List d9)->List Nat
 | []=>[]
 | l::ls=>qE lo l++OJ lo ls
def Ye (lo:Nat):List (d9×d9)->List Nat
 | []=>[]
 | e::es=>JW lo e.1++(JW lo e.2++Ye lo es)
def OL (lo:Nat):NB->List Nat
 | .cells _ rows=>OJ lo rows
 | .map es=>Ye lo es
 | .tail p=>bi (Nat.ble lo p) [p] []
 | .dead=>[]
def Kv (n:Nat)(l:List (Nat×NB)):Bool:=List.rec false (λx _ ih=>bi (Nat.beq x.1 n) true ih) l
def reach (m:Mem)(lo n:Nat):List Nat->List (Nat×NB)->Option (List (Nat×NB)):=
 Nat.rec (λ_ _=>none) (λ_ ih work seen=>List.rec (some seen.reverse) (λw ws _=>
  bi (Kv w seen) (ih ws seen) (ob (m.get w) λb=>ob (zM b) λnb=>ih (OL lo nb++ws) ((w,nb)::seen))) work) n
def placeOf (i:Nat)(l:List Nat):Nat->Option Nat:=List.rec (λ_=>none) (λx _ ih k=>bi (Nat.beq x i) (some k) (ih (Nat.succ k))) l
mutual
def gG (r:Nat->Option Nat):d9->Option d9
 | .ptr i o=>ob (r i) λj=>some (.ptr j o)
 | .slice i o l c=>ob (r i) λj=>some (.slice j o l c)
 | .sliceU i o l c=>ob (r i) λj=>some (.sliceU j o l c)
 | .map i=>ob (r i) λj=>some (.map j)
 | .func fn a b=>match fn with
  | .yield _=>none
  | fn=>ob (nK r a) λx=>ob (nK r b) λy=>some (.func fn x y)
 | .iface t v=>ob (gG r v) λx=>some (.iface t x)
 | .agg l=>ob (nK r l) λx=>some (.agg x)
 | .tuple l=>ob (nK r l) λx=>some (.tuple x)
 | .dD _=>none
 | v=>some v
def nK (r:Nat->Option Nat):List d9->Option (List d9)
 | []=>some []
 | v::l=>ob (gG r v) λx=>ob (nK r l) λy=>some (x::y)
end
def lY (r:Nat->Option Nat):List (List d9)->Option (List (List d9))
 | []=>some []
 | l::ls=>ob (nK r l) λx=>ob (lY r ls) λy=>some (x::y)
def Gi (r:Nat->Option Nat):List (d9×d9)->Option (List (d9×d9))
 | []=>some []
 | e::es=>ob (gG r e.1) λx=>ob (gG r e.2) λy=>ob (Gi r es) λz=>some ((x,y)::z)
def qF (r:Nat->Option Nat):NB->Option NB
 | .cells rs rows=>ob (lY r rows) λx=>some (.cells rs x)
 | .map es=>ob (Gi r es) λx=>some (.map x)
 | .tail p=>ob (r p) λq=>some (.tail q)
 | .dead=>some .dead
def vK (r:Nat->Option Nat):List NB->Option (List NB)
 | []=>some []
 | p::l=>ob (qF r p) λx=>ob (vK r l) λy=>some (x::y)
structure CO where
 ids:List Nat
 vs:List d9
 bs:List NB
def rU (lo:Nat)(ids:List Nat)(i:Nat):Option Nat:=bi (Nat.ble lo i) (placeOf i ids lo) (some i)
def jw (lo:Nat)(vs:List d9)(m:Mem):Option CO:=
 ob (reach m lo 100000 (qE lo vs) []) λseen=>ob (nK (rU lo (seen.map (·.1))) vs) λxs=>ob (vK (rU lo (seen.map (·.1))) (seen.map (·.2))) λbs=>some ⟨seen.map (·.1),xs,bs⟩
def dH:NB->U7
 | .cells rs rows=>.cells rs (len' rows) (T.ofList rows)
 | .map es=>.map es
 | .tail p=>.tail p
 | .dead=>.dead
def layAll (bs:List NB):Mem->Mem:=List.rec (λm=>m) (λb _ ih m=>ih (m.new (dH b))) bs
def Ee:List (List d9)->List (List d9)->Bool
 | [],[]=>true
 | a::x,b::y=>bi (uD (bM 100) a b) (Ee x y) false
 | _,_=>false
def Kw:List (d9×d9)->List (d9×d9)->Bool
 | [],[]=>true
 | a::x,b::y=>bi (bM 100 a.1 b.1) (bi (bM 100 a.2 b.2) (Kw x y) false) false
 | _,_=>false
def aL:NB->NB->Bool
 | .cells r a,.cells s b=>bi (Nat.beq r s) (Ee a b) false
 | .map a,.map b=>Kw a b
 | .tail p,.tail q=>Nat.beq p q
 | .dead,.dead=>true
 | _,_=>false
def mI:List NB->List NB->Bool
 | [],[]=>true
 | a::x,b::y=>bi (aL a b) (mI x y) false
 | _,_=>false
structure DI where
 v:d9
 bs:List NB
def zX (lo:Nat)(r:VM):Option DI:=ob (jw lo [r.v] r.m) λc=>List.rec none (λv _ _=>some ⟨v,c.bs⟩) c.vs
def Mr (lo:Nat)(l:List VM):Option DI:=
 List.rec none (λr rs ih=>ob (zX lo r) λa=>List.rec (some a) (λ_ _ _=>ob ih λb=>bi (bM 100 a.v b.v) (bi (mI a.bs b.bs) (some a) none) none) rs) l
structure K3 where
 pure:Bool
 args:List (Option Nat)
 nslots:Nat
 results:List pF
 code:SC
 rcode:Option ay
structure Known where
 fns:FuncId->Option K3
 base:Mem
 sum:FuncId->List d9->List NB->Option DI
def oC (cf:H8)(dcf:kX)(fuel:Nat)(f:K3)(args:List d9)(m:Mem):oF:=
 ob (eZ f.args args (T.rep .undef f.nslots .e 0)) λenv=>bnd (f.code cf fuel none env m []) (leave dcf f.results)
structure Ry where
 o:Out
 md:Option d9
def isRec (i:Inst):Bool:=match i.op,i.guard with
 | .e .recover,none=>true
 | _,_=>false
def Hg:List Inst->Bool
 | []=>false
 | i::l=>isRec i||Hg l
def wJ:List Inst->H8->List d9->T d9->Mem->Option d9->Option (List (EM×Option d9))
 | [],_,_,env,m,md=>some [(⟨env,m,none,[]⟩,md)]
 | i::l,cf,ls,env,m,md=>match isRec i with
  | true=>match md with
   | some x=>wJ l cf (x::ls) (iM i.dst x env) m none
   | none=>wJ l cf (.nilIface::ls) (iM i.dst .nilIface env) m none
  | false=>match i.op with
   | .p o=>ob (Gh i.guard (oQ o) ls env) λv=>wJ l cf (v::ls) (iM i.dst v env) m md
   | .r o=>ob (BM i.guard (wF o) ls env m) λv=>wJ l cf (v::ls) (iM i.dst v env) m md
   | _=>none
def zY:ay->H8->Nat->T d9->Mem->Option d9->Option (List Ry)
 | .seq a b,cf,fuel,env,m,md=>bnd (zY a cf fuel env m md) λr=>match r.o.x with
  | .normal=>match r.o.marks with
   | []=>zY b cf fuel r.o.env r.o.m r.md
   | _=>none
  | _=>some [r]
 | .cond c a b,cf,fuel,env,m,md=>pI (H9 c [] env) λt=>bi t (zY a cf fuel env m md) (zY b cf fuel env m md)
 | .reg ops,cf,fuel,env,m,md=>match Hg ops with
  | true=>bnd (wJ ops cf [] env m md) λr=>some [⟨⟨.normal,r.1.env,r.1.m,[],none⟩,r.2⟩]
  | false=>bnd (wI (.reg ops) cf fuel none env m []) λo=>some [⟨o,md⟩]
 | c,cf,fuel,env,m,md=>bnd (wI c cf fuel none env m []) λo=>some [⟨o,md⟩]
def Rz (rs:List pF)(r:Ry):Option (List (Mem×Option d9)):=match r.o.x,r.o.marks,r.o.pv with
 | .exit _,_,_=>none
 | _,[],none=>ob (results rs r.o.env r.o.m) λ_=>some [(r.o.m,r.md)]
 | _,_,_=>none
def adZ (cf:H8)(fuel:Nat)(f:K3)(args:List d9)(md:Option d9)(m:Mem):Option (List (Mem×Option d9)):=
 ob f.rcode λc=>ob (eZ f.args args (T.rep .undef f.nslots .e 0)) λenv=>bnd (zY c cf fuel env m md) (Rz f.results)
def Mem.shut (m:Mem):Mem:=⟨m.t,m.nx,m.nx⟩
def Fe (K:Known)(cf:H8)(fuel:Nat):kX:=λf args md m=>ob (K.fns f) λsf=>adZ cf fuel sf args md m
def Fg (K:Known)(cf:H8)(fuel:Nat)(f:FuncId)(sf:K3)(args:List d9)(bs:List NB):Option DI:=
 Option.rec (ob (oC cf (Fe K cf fuel) fuel sf args (layAll bs K.base).shut) λl=>Mr (layAll bs K.base).nx l) (λa=>some a) (K.sum f args bs)
def gI (g:Nat)(ids:List Nat)(next i:Nat):Option Nat:=
 bi (Nat.blt i g) (some i) (bi (Nat.blt (Nat.sub i g) (len' ids)) (uw (Nat.sub i g) ids) (some (Nat.add next (Nat.sub (Nat.sub i g) (len' ids)))))
def wK (K:Known)(cf:H8)(fuel:Nat)(f:FuncId)(sf:K3)(args:List d9)(m:Mem):oF:=
 ob (jw K.base.nx args m) λc=>ob (Fg K cf fuel f sf c.vs c.bs) λa=>ob (gG (gI K.base.nx c.ids m.nx) a.v) λv=>ob (vK (gI K.base.nx c.ids m.nx) a.bs) λbs=>one v (layAll bs m)
def Ms (cf:H8)(fuel l:Nat)(args:List d9)(m:Mem):oF:=
 bi (Nat.blt l m.lim) none (qP (m.get l) λst pend env params assign body=>match st,pend with
  | .ready,none=>ob (eZ params args env) λenv1=>bnd (wI assign cf fuel (some l) env1 m []) λo=>match o.x,o.marks with
   | .normal,[]=>qP (o.m.get l) λst2 pend2 env2 params2 assign2 body2=>match st2,pend2 with
    | .ready,none=>bnd (wI body cf fuel (some l) o.env (o.m.set l (.loop .busy none env2 params2 assign2 body2)) []) (roundEnd l)
    | _,_=>none
   | _,_=>none
  | _,_=>none)
def l8 (K:Known)(fuel n:Nat):H8:=
 Nat.rec (λ_ _ _=>none) (λ_ ih fn args m=>match fn with
  | .func f=>ob (K.fns f) λsf=>bi sf.pure (wK K ih fuel f sf args m) (oC ih (Fe K ih fuel) fuel sf args m)
  | .yield l=>Ms ih fuel l args m
  | _=>none) n
mutual
def ofValue:Value->Option d9
 | .bool b=>some (.bool b)
 | .int k n=>some (.int k n)
 | .string s=>some (.str s.data.toList)
 | .pointer none=>some .nilPtr
 | .slice none 0 0=>some .nilSlice
 | .map none=>some .nilMap
 | .func (.func f) ⟨[]⟩ ⟨[]⟩=>some (.func (.func f) [] [])
 | .nilFunc=>some .nilFunc
 | .nilIface=>some .nilIface
 | .agg ⟨l⟩=>match ofValues l with
  | some x=>some (.agg x)
  | none=>none
 | .tuple ⟨[]⟩=>some (.tuple [])
 | _=>none
def ofValues:List Value->Option (List d9)
 | []=>some []
 | v::l=>match ofValue v,ofValues l with
  | some x,some y=>some (x::y)
  | _,_=>none
end
section
variable (P:Program)
def eX (t:TypeId):Option Nat:=(P.info? t).map (·.size)
def jK (t:TypeId):Option Nat:=(P.info? t).map (·.bytes)
def zN (t:TypeId):Option Bool:=match P.underlying t with
 | some (.struct _) | some (.array _ _)=>some true
 | some _=>some false
 | none=>none
def partT (t:TypeId):Option (Option Nat):=match zN P t,eX P t with
 | some true,some n=>some (some n)
 | some false,some _=>some none
 | _,_=>none
def sU (t:TypeId):Option (List d9):=match (P.info? t).bind (·.zero) with
 | some z=>match ofValue z with
  | some a=>some a.cells
  | none=>none
 | none=>none
def zeroV (t:TypeId):Option d9:=match (P.info? t).bind (·.zero) with
 | some z=>ofValue z
 | none=>none
def pX (f:TypeId->Option (List PK)):List Field->Nat->Option (List PK)
 | [],_=>some []
 | fd::l,off=>if fd.name≠ "_"∧fd.offset=off then match f fd.type with
   | some ks=>match pX f l (off+ks.length) with
    | some r=>some (ks++r)
    | none=>none
   | none=>none
  else none
def iB:Nat->TypeId->Option (List PK)
 | 0,_=>none
 | d+1,t=>match P.underlying t with
  | some .bool=>if eX P t=some 1 then some [.b] else none
  | some (.int _)=>if eX P t=some 1 then some [.i] else none
  | some .string=>if eX P t=some 1 then some [.s] else none
  | some (.struct fs)=>match pX (iB d) fs.toList 0 with
   | some ks=>if P.stoodInHeld t=false∧eX P t=some ks.length then some ks else none
   | none=>none
  | _=>none
def Yf (cst:Bool)(t:TypeId):Option Gs:=match P.underlying t with
 | some .bool=>some (.prim .b)
 | some (.int _)=>some (.prim .i)
 | some .string=>some (.prim .s)
 | some (.struct _)=>match iB P 10 t with
  | some k=>if P.eqGuardType P.depth t=false then some (.flat k) else none
  | none=>none
 | some (.pointer _)=>some .ptr
 | some (.slice _)=>some .slice
 | some (.map _ _)=>some .map
 | some (.func ..)=>some .func
 | some (.interface _)=>if cst then some .iface else none
 | _=>none
def ae0 (t:TypeId):Option Gs:=match P.underlying t with
 | some (.array n e)=>match P.underlying e with
  | some (.int _)=>if eX P e=some 1∧P.eqGuardType P.depth t=false then some (.flat (List.replicate n .i)) else none
  | _=>none
 | _=>none
def Yg (cst:Bool)(t:TypeId):Option Gs:=match Yf P cst t with
 | some k=>some k
 | none=>ae0 P t
def OM (t:TypeId):Option (List d9):=match sU P t,eX P t with
 | some z,some k=>if z.length=k then some z else none
 | _,_=>none
def BO (t:TypeId):Option Gs:=match Yf P false t with
 | some (.prim j)=>some (.prim j)
 | some (.flat ks)=>some (.flat ks)
 | _=>none
end
def idxOf (t:Nat):List Nat->Nat->Option Nat
 | [],_=>none
 | x::l,i=>bif Nat.beq x t then some i else idxOf t l (i+1)
def jH (t:Nat):List (Option Nat)->Nat->Option Nat
 | [],_=>none
 | some x::l,i=>bif Nat.beq x t then some i else jH t l (i+1)
 | none::l,i=>jH t l (i+1)
section
variable (P:Program)(slots:List Nat)(done:List (Option Nat))
def V5:Operand->Option V9
 | .tmp t=>match jH t done 0 with
  | some k=>some (.loc k)
  | none=>match idxOf t slots 0 with
   | some j=>some (.slot j)
   | none=>none
 | .const v=>match ofValue v with
  | some a=>some (.con a)
  | none=>none
 | .global g=>if g<P.globals.size then some (.con (.ptr g 0)) else none
 | .func f=>some (.con (.func (.func f) [] []))
def kI:List Operand->Option (List V9)
 | []=>some []
 | x::l=>match V5 P slots done x,kI l with
  | some a,some b=>some (a::b)
  | _,_=>none
def cOpt:Option Operand->Option (Option V9)
 | none=>some none
 | some x=>match V5 P slots done x with
  | some a=>some (some a)
  | none=>none
def zZ:Operand->Bool
 | .const _=>true
 | _=>false
def wL (place:Nat->Option (Nat×Nat)):List (Nat×Operand)->Option (List (Nat×Nat×V9))
 | []=>some []
 | p::l=>match place p.1,V5 P slots done p.2,wL place l with
  | some (o,s),some x,some r=>some ((o,s,x)::r)
  | _,_,_=>none
def placesOf:List Field->Option (List (Nat×Nat))
 | []=>some []
 | f::l=>match eX P f.type,placesOf l with
  | some s,some r=>some ((f.offset,s)::r)
  | _,_=>none
def Av (t:TypeId)(parts:List (Nat×Operand)):Option BJ:=
 match sU P t,P.underlying t with
 | some zero,some (.struct fields)=>match placesOf P fields.toList with
  | some pl=>match wL P slots done (λi=>pl[i]?) parts with
   | some ps=>some (.p (.build zero ps))
   | none=>none
  | none=>none
 | some zero,some (.array _ elem)=>match eX P elem with
  | some s=>match wL P slots done (λi=>some (i*s,s)) parts with
   | some ps=>some (.p (.build zero ps))
   | none=>none
  | none=>none
 | _,_=>none
def wM (b:Builtin)(ts:List TypeId)(args:List Operand):Option BJ:=do
 match b,ts,args with
 | .len,[t],[x]=>match ← P.underlying t with
  | .string=>do pure (.p (.lenS (← V5 P slots done x)))
  | .slice _=>do pure (.p (.len (← V5 P slots done x)))
  | .array n _=>pure (.p (.mov (.con (.int .i64 n))))
  | .map _ _=>do pure (.r (.lenM (← V5 P slots done x)))
  | _=>none
 | .cap,[t],[x]=>match ← P.underlying t with
  | .slice _=>do pure (.p (.cap (← V5 P slots done x)))
  | _=>none
 | .append,[t,u],[s,x]=>match ← P.underlying t with
  | .slice e=>do
   let d ← P.underlying u
   let zs:=match d with | .int _=>true | _=>false
   pure (.e (.app (← eX P e) zs (← OM P e) (← jK P e) (← V5 P slots done s) (← V5 P slots done x)))
  | _=>none
 | .copy,[t,_],[d,s]=>match ← P.underlying t with
  | .slice e=>do pure (.e (.copy (← eX P e) (← V5 P slots done d) (← V5 P slots done s)))
  | _=>none
 | .clear,[t],[x]=>match ← P.underlying t with
  | .slice e=>do pure (.e (.clear (← sU P e) (← V5 P slots done x)))
  | _=>none
 | .max,_,x::xs=>do pure (.p (.mm true (← V5 P slots done x) (← kI P slots done xs)))
 | .min,_,x::xs=>do pure (.p (.mm false (← V5 P slots done x) (← kI P slots done xs)))
 | .recover,[],[]=>pure (.e .recover)
 | _,_,_=>none
def jc (o:Op):Option BJ:=do
 let r:=V5 P slots done
 match o with
 | .move x | .assign x=>pure (.p (.mov (← r x)))
 | .pick c a b=>pure (.p (.pick (← r c) (← r a) (← r b)))
 | .alloc t=>pure (.a (.alloc (← sU P t)))
 | .box _ x=>pure (.a (.box (← r x)))
 | .build t parts=>Av P slots done t parts.toList
 | .buildSlice t len parts=>match ← P.underlying t with
  | .slice e=>do
   let es ← eX P e
   let ps ← wL P slots done (λi=>some (i*es,es)) parts.toList
   if len*es<=16777216 then pure (.a (.buildSlice es len (← sU P e) ps)) else none
  | _=>none
 | .load t a=>pure (.r (.load (← partT P t) (← r a)))
 | .store t a x=>pure (.e (.store (← eX P t) (← r a) (← r x)))
 | .nilCheck x=>pure (.p (.nilCheck (← r x)))
 | .binOp op t x y _=>match op with
  | .eql | .neq=>do
   let k ← Yg P (zZ x||zZ y) t
   let neg:=match op with | .neq=>true | _=>false
   match k with
   | .prim .i=>pure (.p (.ib op (← r x) (← r y)))
   | .prim .s=>pure (.p (.ib op (← r x) (← r y)))
   | k=>pure (.p (.eq neg k (← r x) (← r y)))
  | _=>pure (.p (.ib op (← r x) (← r y)))
 | .unOp op _ x=>match op with
  | .not=>do pure (.p (.not (← r x)))
  | .neg=>do pure (.p (.neg (← r x)))
  | _=>none
 | .convert s d x=>match ← P.underlying s,← P.underlying d with
  | .int _,.int k=>do pure (.p (.conv k (← r x)))
  | .string,.slice e=>match ← P.underlying e with
   | .int .u8=>do pure (.a (.strBytes (← r x)))
   | _=>none
  | .slice e,.string=>match ← P.underlying e with
   | .int .u8=>do pure (.r (.bytesStr (← r x)))
   | _=>none
  | _,_=>none
 | .makeInterface t x=>match ← P.underlying t with
  | .interface _=>none
  | _=>do pure (.p (.mkIface t (← r x)))
 | .makeFunc fn a b=>match fn with
  | .func f=>do pure (.p (.mkFunc (.func f) (← kI P slots done a.toList) (← kI P slots done b.toList)))
  | _=>none
 | .makeMap t res=>match res with
  | none=>pure (.a .mkMap)
  | some (.const (.int _ _))=>match P.underlying t with
   | some (.map _ _)=>pure (.a .mkMap)
   | _=>none
  | _=>none
 | .makeSlice t l c=>match ← P.underlying t with
  | .slice e=>do pure (.a (.mkSlice (← eX P e) (← jK P e) (← OM P e) (← r l) (← r c)))
  | _=>none
 | .slice t x lo hi none=>match ← P.underlying t with
  | .string=>do pure (.p (.slStr (← r x) (← cOpt P slots done lo) (← cOpt P slots done hi)))
  | .slice e=>do pure (.a (.sl (← eX P e) (← r x) (← cOpt P slots done lo) (← cOpt P slots done hi)))
  | .array n e=>do pure (.p (.slArr (← eX P e) n (← r x) (← cOpt P slots done lo) (← cOpt P slots done hi)))
  | _=>none
 | .fieldAddr s x f=>match ← P.underlying s with
  | .struct fs=>do
   let fd ← fs[f]?
   let sz ← eX P fd.type
   if sz=0 then none else pure (.p (.fAddr fd.offset (← r x)))
  | _=>none
 | .field s x f=>match ← P.underlying s with
  | .struct fs=>do
   let fd ← fs[f]?
   pure (.p (.fld fd.offset (← partT P fd.type) (← r x)))
  | _=>none
 | .indexAddr t x i=>match ← P.underlying t with
  | .slice e=>do pure (.p (.iAddr (← eX P e) (← r x) (← r i)))
  | .array n e=>do pure (.p (.iAddrArr (← eX P e) n (← r x) (← r i)))
  | _=>none
 | .index t x i=>match ← P.underlying t with
  | .string=>do pure (.p (.iStr (← r x) (← r i)))
  | .array n e=>do pure (.p (.iArr (← eX P e) n (← partT P e) (← r x) (← r i)))
  | _=>none
 | .lookup t x k ok=>match ← P.underlying t with
  | .map kt e=>do pure (.r (.look (← BO P kt) (← zeroV P e) ok (← r x) (← r k)))
  | _=>none
 | .mapUpdate t m k x | .insert t m k x=>match ← P.underlying t with
  | .map kt _=>do pure (.e (.mapSet (← BO P kt) (← r m) (← r k) (← r x)))
  | _=>none
 | .range t x=>match ← P.underlying t with
  | .map _ _=>do pure (.e (.range (← r x)))
  | _=>none
 | .next it false=>pure (.e (.next (← r it)))
 | .entry it=>pure (.r (.entry (← r it)))
 | .extract x i=>pure (.p (.ext (← r x) i))
 | .typeAssert x _ t ok=>match ← P.underlying t with
  | .interface _=>none
  | _=>do pure (.p (.assert t (← zeroV P t) ok (← r x)))
 | .panic x=>pure (.e (.panic (← r x)))
 | .defer c=>match c.callee with
  | .value f=>do pure (.e (.defer (← r f) (← kI P slots done c.args.toList)))
  | _=>none
 | .call c=>match c.callee with
  | .builtin b=>wM P slots done b c.argTypes.toList c.args.toList
  | .value (.func f)=>do
   let fn ← P.funcs[f]?
   if fn.body.isSome&&fn.name != "runtime.NumGoroutine" then pure (.e (.call f (← kI P slots done c.args.toList))) else none
  | .value f=>do pure (.e (.callv (← r f) (← kI P slots done c.args.toList)))
  | _=>none
 | _=>none
def OO:Option Tmp->Option Nat
 | none=>none
 | some t=>idxOf t slots 0
def pY (o:Op):BJ:=match jc P slots done o with
 | some a=>a
 | none=>.e .bad
def OP (ops:Array Oper)(i:Nat):Option (Inst×Option Nat):=do
 let o ← ops[i]?
 let a:=pY P slots done o.op
 let g ← match o.guard with
  | none=>pure none
  | some (j,w)=>do
   let og ← ops[j]?
   let d ← og.dst
   let k ← jH d done 0
   pure (some (V9.loc k,w))
 pure (⟨a,OO slots o.dst,g⟩,o.dst)
end
def kY (P:Program)(slots:List Nat)(ops:Array Oper):List (Option Nat)->List Nat->Option (List Inst)
 | _,[]=>some []
 | done,i::rest=>match OP P slots done ops i with
  | some (x,d)=>match kY P slots ops (d::done) rest with
   | some l=>some (x::l)
   | none=>none
  | none=>none
def bitsOf (e:Array Edge)(acc:List Nat):Nat:=
 e.toList.foldl (λs x=>if Region.binds .any x then s ||| (1 <<< x.on) ||| (acc.getD x.on 0) else s) 0
def masks (ops:List Oper):List Nat:=ops.foldl (λacc o=>acc ++ [bitsOf o.after acc]) []
def mOf (ms:List Nat)(i j:Nat):Bool:=Nat.testBit (ms.getD i 0) j
def amX:Op->Bool
 | .store .. | .mapUpdate .. | .insert .. | .range .. | .next .. | .mapEntry .. | .entryStore .. | .panic _ | .defer _ | .typeAssert ..=>true
 | .call {callee:=.builtin b,..}=>match b with
  | .append | .copy | .clear | .delete=>true
  | _=>false
 | .call _=>true
 | _=>false
def Hl (ops:Array Oper)(i:Nat):Bool:=
 match ops[i]? with
 | some o=>amX o.op
 | none=>false
def canon (eff:Nat->Bool)(ms:List Nat)(n:Nat):List Nat:=
 let effs:=(List.range n).filter eff
 let step (acc:List Nat) (e:Nat):List Nat:=acc++(List.range n).filter (λi=>!acc.contains i&&mOf ms e i) ++ [e]
 let acc:=effs.foldl (λacc e=>if acc.contains e then acc else step acc e) []
 acc++(List.range n).filter (λi=>!acc.contains i)
def J7 (x:Inst):Bool:=match x.op with
 | .e _=>true
 | _=>false
def isA (x:Inst):Bool:=match x.op with
 | .a _=>true
 | _=>false
def isR (x:Inst):Bool:=match x.op with
 | .r _=>true
 | _=>false
def ajC (ms:List Nat)(i:Nat)(x:Inst)(effs:List Nat)(nal:Nat):Nat:=
 if isR x then (effs.takeWhile λe=>!mOf ms i e).length else nal
def numbered (ms:List Nat):List (Nat×Inst)->List Nat->Nat->List (Nat×Inst)
 | [],_,_=>[]
 | (i,x)::rest,effs,nal=>(ajC ms i x effs nal,x)::numbered ms rest (if J7 x then i::effs else effs) (if isA x then nal+1 else nal)
def Aw (ops:Array Oper)(o:Oper):List Nat:=
 (o.op.operands.toList.filterMap fun | .tmp t=>some t | _=>none) ++
 (match o.guard with
  | some (g,_)=>((ops[g]?).bind (·.dst)).toList
  | none=>[])
def OQ:List Nat->Bool
 | []=>true
 | x::l=>!l.contains x&&OQ l
def Mt:List Inst->Nat
 | []=>0
 | x::l=>(if isA x then 1 else 0)+Mt l
def UD (ms:List Nat)(i:Nat)(before:List (Nat×Inst)):V9->Bool
 | .loc k=>match before[k]? with
  | some y=>mOf ms i y.1
  | none=>false
 | .slot j=>before.all λy=>y.2.dst != some j
 | .con _=>true
def wN (ms:List Nat)(ops:Array Oper)(i:Nat)(x:Inst)(before:List (Nat×Inst)):Bool:=
 (match x.op with
  | .e _=>before.all λy=>mOf ms i y.1
  | _=>true) &&
 (match ops[i]? with
  | some o=>(o.after.toList.all λe=>!Region.binds .any e||before.any λy=>y.1==e.on) &&
   ((Aw ops o).all λt=>(List.range ops.size).all λq=>q==i||(match ops[q]? with
    | some oq=>oq.dst != some t
    | none=>true)||mOf ms i q||mOf ms q i)
  | none=>false) &&
 ((GI x.op).all λy=>UD ms i before y) &&
 (match x.guard with
  | some (y,_)=>UD ms i before y
  | none=>true)
def zf (ms:List Nat)(ops:Array Oper):List (Nat×Inst)->List (Nat×Inst)->Bool
 | [],_=>true
 | y::rest,before=>wN ms ops y.1 y.2 before&&zf ms ops rest (y::before)
def Yh (ms:List Nat)(ops:Array Oper)(ord:List Nat)(insts:List Inst):Bool:=
 OQ ord&&(ord.all λi=>Nat.blt i ops.size)&&((List.range ops.size).all λi=>ord.contains i)&&OQ (ops.toList.filterMap (·.dst))&&zf ms ops (ord.zip insts) []
def Fh (P:Program)(slots:List Nat)(ops:Array Oper):Option ay:=
 match kY P slots ops [] (canon (Hl ops) (masks ops.toList) ops.size) with
 | none=>none
 | some insts=>
  if Yh (masks ops.toList) ops (canon (Hl ops) (masks ops.toList) ops.size) insts then
   some (.dreg (Mt insts) (numbered (masks ops.toList) ((canon (Hl ops) (masks ops.toList) ops.size).zip insts) [] 0))
  else none
def X9 (P:Program)(slots:List Nat):Code->Option ay
 | .skip=>some .skip
 | .region _ ops false=>match kY P slots ops [] (List.range ops.size) with
  | some l=>some (.reg l)
  | none=>none
 | .region _ ops true=>Fh P slots ops
 | .seq a b=>match X9 P slots a,X9 P slots b with
  | some x,some y=>some (.seq x y)
  | _,_=>none
 | .cond c a b=>match V5 P slots [] c,X9 P slots a,X9 P slots b with
  | some z,some x,some y=>some (.cond z x y)
  | _,_,_=>none
 | .block id a=>match X9 P slots a with
  | some x=>some (.block id x)
  | none=>none
 | .loop a=>match X9 P slots a with
  | some x=>some (.loop x)
  | none=>none
 | .exit id=>some (.exit id)
 | .ret=>some .ret
 | .rangeFunc f ps a b=>match V5 P slots [] f,X9 P slots a,X9 P slots b with
  | some z,some x,some y=>some (.rangeFunc z (ps.toList.map λt=>idxOf t slots 0) x y)
  | _,_,_=>none
 | _=>none
def tmpsIn (nt:Nat):Code->Bool
 | .region _ ops _=>ops.toList.all λo=>match o.dst with
  | some t=>Nat.blt t nt
  | none=>true
 | .seq a b=>tmpsIn nt a&&tmpsIn nt b
 | .cond _ a b=>tmpsIn nt a&&tmpsIn nt b
 | .block _ a=>tmpsIn nt a
 | .loop a=>tmpsIn nt a
 | .rangeFunc _ _ a b=>tmpsIn nt a&&tmpsIn nt b
 | _=>true
def Gj (P:Program)(slots:List Nat):List ResultVar->Option (List pF)
 | []=>some []
 | .tmp t::l=>match idxOf t slots 0,Gj P slots l with
  | some j,some r=>some (.tmp j::r)
  | _,_=>none
 | .cell t ty::l=>match idxOf t slots 0,partT P ty,Gj P slots l with
  | some j,some s,some r=>some (.cell j s::r)
  | _,_,_=>none
def XE (P:Program)(slots:List Nat)(f:FuncId):Option AFn:=
 match P.funcs[f]? with
 | none=>none
 | some fn=>match fn.body with
  | none=>none
  | some c=>match X9 P slots c,Gj P slots fn.results.toList with
   | some b,some r=>
    if tmpsIn fn.ntmps c&&(slots.all λt=>Nat.blt t fn.ntmps)&&Nat.blt slots.length 1152921504606846976&&fn.name != "runtime.NumGoroutine" then
     some ⟨fn.params.size+fn.nfree,(List.range (fn.params.size+fn.nfree)).map λt=>idxOf t slots 0,slots.length,r,b⟩
    else none
   | _,_=>none
section
variable {α β γ:Type}
@[simp] theorem I7 (a:α)(k:α->Option β):ob (some a) k=k a:=rfl
@[simp] theorem ayK (k:α->Option β):ob none k=none:=rfl
theorem D7 {o:Option α}{k:α->Option β}{b:β}(h:ob o k=some b):∃a,o=some a∧k a=some b:=by
 cases o with
 | none=>simp at h
 | some a=>exact⟨a,rfl,h⟩
@[simp] theorem Z6 (x y:α):bi true x y=x:=rfl
@[simp] theorem aJ (x y:α):bi false x y=y:=rfl
theorem I8 {b:Bool}{x:Option α}{a:α}(h:bi b x none=some a):b=true∧x=some a:=by
 cases b with
 | true=>exact⟨rfl,h⟩
 | false=>simp at h
theorem BP {b:Bool}{x:Option α}{a:α}(h:bi b none x=some a):b=false∧x=some a:=by
 cases b with
 | true=>simp at h
 | false=>exact⟨rfl,h⟩
end
namespace T
variable {α:Type}
@[simp] theorem aEO (i:Nat):(T.e:T α).get i=none:=rfl
@[simp] theorem amY (l:T α)(x:α)(r:T α):(T.nd l x r).get 0=some x:=rfl
theorem fF (l:T α)(x:α)(r:T α)(i:Nat):(T.nd l x r).get (i+1)=if i%2=0 then l.get (i / 2) else r.get (i / 2):=by show (Nat.rec (l.get (Nat.div i 2)) (λ_ _=>r.get (Nat.div i 2)) (Nat.mod i 2):Option α)=_;have h:Nat.mod i 2=i%2:=rfl;rcases adu i with h0 | h1;rw [h,h0];rfl;rw [h,h1];rfl
@[simp] theorem amZ (i:Nat)(x:α):(T.e:T α).put i x=.nd .e x .e:=rfl
@[simp] theorem OT (l:T α)(y:α)(r:T α)(x:α):(T.nd l y r).put 0 x=.nd l x r:=rfl
theorem aQ (l:T α)(y:α)(r:T α)(i:Nat)(x:α):(T.nd l y r).put (i+1) x=if i%2=0 then .nd (l.put (i / 2) x) y r else .nd l y (r.put (i / 2) x):=by show (Nat.rec (T.nd (l.put (Nat.div i 2) x) y r) (λ_ _=>T.nd l y (r.put (Nat.div i 2) x)) (Nat.mod i 2):T α)=_;have h:Nat.mod i 2=i%2:=rfl;rcases adu i with h0 | h1;rw [h,h0];rfl;rw [h,h1];rfl
inductive Ok:T α->Nat->Prop
 | e:Ok .e 0
 | nd {l r:T α} {x:α} {n:Nat} (hl:Ok l ((n+1) / 2)) (hr:Ok r (n / 2)):Ok (.nd l x r) (n+1)
theorem Ok.get {t:T α}{n:Nat}(h:Ok t n):∀i,(∃x,t.get i=some x)↔i<n:=by
 induction h with
 | e=>intro i;simp
 | @nd l r x n hl hr ihl ihr=>
  intro i;cases i with
  | zero=>simp
  | succ i=>rw [fF];split;rw [ihl];omega;rw [ihr];omega
theorem Ok.put {t:T α}{n:Nat}(h:Ok t n):∀i (x:α),i<n->Ok (t.put i x) n:=by
 induction h with
 | e=>intro i x a;omega
 | @nd l r y n hl hr ihl ihr=>
  intro i x a;cases i with
  | zero=>exact .nd hl hr
  | succ i=>rw [aQ];split;exact .nd (ihl _ _ (by omega)) hr;exact .nd hl (ihr _ _ (by omega))
theorem Ok.push {t:T α}{n:Nat}(h:Ok t n):∀(x:α),Ok (t.put n x) (n+1):=by
 induction h with
 | e=>intro x;exact .nd .e .e
 | @nd l r y n hl hr ihl ihr=>intro x;rw [aQ];split;rename_i a;refine .nd ?_ ?_;have:=ihl x;rw [show (n+1) / 2=n / 2 from by omega] at this;rw [show (n+1+1) / 2=n / 2+1 from by omega];exact this;rw [show (n+1) / 2=n / 2 from by omega];exact hr;rename_i a;refine .nd ?_ ?_;rw [show (n+1+1) / 2=(n+1) / 2 from by omega];exact hl;have:=ihr x;rw [show (n+1) / 2=n / 2+1 from by omega];exact this
theorem Z7 {t:T α}{n:Nat}(h:Ok t n):∀i (x:α),i<=n->(t.put i x).get i=some x:=by
 induction h with
 | e=>intro i x b;obtain rfl:i=0:=by omega
      rfl
 | @nd l r y n hl hr ihl ihr=>
  intro i x b;cases i with
  | zero=>rfl
  | succ i=>rw [aQ];split;rename_i a;rw [fF,if_pos a];exact ihl _ _ (by omega);rename_i a;rw [fF,if_neg a];exact ihr _ _ (by omega)
theorem aU {t:T α}{n:Nat}(h:Ok t n):∀i j (x:α),i<=n->i≠j->(t.put i x).get j=t.get j:=by
 induction h with
 | e=>
  intro i j x b d;obtain rfl:i=0:=by omega
  cases j with
  | zero=>omega
  | succ j=>rw [amZ,fF];simp
 | @nd l r y n hl hr ihl ihr=>
  intro i j x b c;cases i with
  | zero=>
   cases j with
   | zero=>omega
   | succ j=>rw [OT,fF,fF]
  | succ i=>
   rw [aQ];cases j with
   | zero=>split<;>rfl
   | succ j=>split;rename_i a;rw [fF,fF];split;exact ihl _ _ _ (by omega) (by omega);rfl;rename_i a;rw [fF,fF];split;rfl;exact ihr _ _ _ (by omega) (by omega)
theorem vL (x:α)(l:List α)(t:T α)(i:Nat):pG (x::l) t i=pG l (t.put i x) (i+1):=rfl
theorem JX (l:List α):∀(t:T α) (i:Nat),Ok t i->Ok (pG l t i) (i+l.length):=by
 induction l with
 | nil=>intro t i h;exact h
 | cons x l ih=>intro t i h;rw [vL,adk,show i+(l.length+1)=i+1+l.length from by omega];exact ih _ _ (h.push x)
theorem Ho (l:List α):∀(t:T α) (i:Nat),Ok t i->∀j,(pG l t i).get j=if j<i then t.get j else l[j-i]?:=by
 induction l with
 | nil=>
  intro t i h j;show t.get j=_;split;rfl;rename_i a;cases hg:t.get j with
  | none=>simp
  | some x=>exact absurd ((h.get j).1 ⟨x,hg⟩) a
 | cons x l ih=>intro t i h j;rw [vL,ih _ _ (h.push x)];by_cases h1:j<i;rw [if_pos (by omega),if_pos h1,aU h _ _ _ (aA _) (by omega)];by_cases h2:j=i;subst h2;rw [if_pos (by omega),Z7 h _ _ (aA _)];simp;rw [if_neg (by omega),if_neg h1,show j-i=(j-(i+1))+1 from by omega];simp
theorem aV (l:List α)(j:Nat):(ofList l).get j=l[j]?:=by have:=Ho l .e 0 .e j;simpa [ofList] using this
theorem jy (l:List α):Ok (ofList l) l.length:=by have:=JX l .e 0 .e;simpa [ofList] using this
theorem Hq (x:α)(n:Nat)(t:T α)(i:Nat):rep x (n+1) t i=rep x n (t.put i x) (i+1):=rfl
theorem RA (x:α)(n:Nat):∀(t:T α) (i:Nat),Ok t i->Ok (rep x n t i) (i+n):=by
 induction n with
 | zero=>intro t i h;exact h
 | succ n ih=>intro t i h;rw [Hq,show i+(n+1)=i+1+n from by omega];exact ih _ _ (h.push x)
theorem Mw (x:α)(n:Nat):∀(t:T α) (i:Nat),Ok t i->∀j,(rep x n t i).get j=if j<i then t.get j else if j<i+n then some x else none:=by
 induction n with
 | zero=>
  intro t i h j;show t.get j=_;split;rfl;rename_i a;rw [if_neg (by omega)];cases hg:t.get j with
  | none=>rfl
  | some y=>exact absurd ((h.get j).1 ⟨y,hg⟩) a
 | succ n ih=>intro t i h j;rw [Hq,ih _ _ (h.push x)];by_cases h1:j<i;rw [if_pos (by omega),if_pos h1,aU h _ _ _ (aA _) (by omega)];by_cases h2:j=i;subst h2;rw [if_pos (by omega),Z7 h _ _ (aA _),if_neg h1,if_pos (by omega)];rw [if_neg (by omega),if_neg h1];by_cases h3:j<i+1+n;rw [if_pos h3,if_pos (by omega)];rw [if_neg h3,if_neg (by omega)]
theorem Hr (t:T α)(i:Nat):t.slice 0 i=some []:=rfl
theorem Ay (t:T α)(n i:Nat):t.slice (n+1) i=ob (t.get i) λx=>ob (t.slice n (i+1)) λxs=>some (x::xs):=rfl
theorem RB (t:T α)(n:Nat):∀i l,t.slice n i=some l->l.length=n∧∀j,j<n->t.get (i+j)=l[j]?:=by
 induction n with
 | zero=>intro i l h;rw [Hr] at h;cases h;simp
 | succ n ih=>
  intro i l h;rw [Ay] at h;obtain⟨x,d,h⟩:=D7 h;obtain⟨f,a,h⟩:=D7 h;cases h;obtain⟨c,b⟩:=ih _ _ a;refine⟨by simp [c],λj e=>?_⟩;cases j with
  | zero=>simpa using d
  | succ j=>rw [show i+(j+1)=i+1+j from by omega,b j (by omega)];simp
end T
section
variable {α:Type}
@[simp] theorem K4 (l:List α):len' l=l.length:=by
 induction l with
 | nil=>rfl
 | cons x l ih=>show Nat.succ (len' l)=_;rw [ih];rfl
@[simp] theorem U9 (l m:List α):bU l m=l++m:=by
 induction l with
 | nil=>rfl
 | cons x l ih=>show x::bU l m=_;rw [ih];rfl
@[simp] theorem gJ (n:Nat):∀l:List α,gZ n l=l.drop n:=by
 induction n with
 | zero=>intro l;rfl
 | succ n ih=>
  intro l;cases l with
  | nil=>rfl
  | cons x l=>exact ih l
@[simp] theorem kZ (n:Nat):∀l:List α,uw n l=l[n]?:=by
 induction n with
 | zero=>intro l;cases l<;>rfl
 | succ n ih=>
  intro l;cases l with
  | nil=>rfl
  | cons x l=>show uw n l=_;rw [ih];rfl
@[simp] theorem Yi (n:Nat):∀l:List d9,nth n l=l[n]?.getD .undef:=by
 induction n with
 | zero=>intro l;cases l<;>rfl
 | succ n ih=>
  intro l;cases l with
  | nil=>rfl
  | cons x l=>show nth n l=_;rw [ih];rfl
theorem mJ (n:Nat):∀(l r:List α),takeN n l=some r->r=l.take n∧n<=l.length:=by
 induction n with
 | zero=>intro l r h;cases h;simp
 | succ n ih=>
  intro l r h;cases l with
  | nil=>cases h
  | cons x l=>
   change ob (takeN n l) (λr=>some (x::r))=some r at h
   obtain⟨d,b,h⟩:=D7 h;cases h;obtain⟨a,c⟩:=ih _ _ b;exact⟨by simp [a],by simp;omega⟩
theorem jX (n:Nat):∀(l:List α),n<=l.length->takeN n l=some (l.take n):=by
 induction n with
 | zero=>intro l _;rfl
 | succ n ih=>
  intro l h;cases l with
  | nil=>simp at h
  | cons x l=>
   change ob (takeN n l) (λr=>some (x::r))=_
   rw [ih l (by simpa using h)];rfl
theorem nL (n:Nat)(vs:List α):∀(l:List α),n<=l.length->nI n vs l=l.take n++(vs++l.drop (n+vs.length)):=by
 induction n with
 | zero=>intro l _;show bU vs (gZ (len' vs) l)=_;simp
 | succ n ih=>
  intro l h;cases l with
  | nil=>simp at h
  | cons x l=>show x::nI n vs l=_;rw [ih l (by simpa using h),show n+1+vs.length=(n+vs.length)+1 from by omega];simp
theorem BQ (n:Nat)(vs l:List α)(h:n+vs.length<=l.length):(nI n vs l).length=l.length:=by rw [nL n vs l (by omega)];simp;omega
theorem VR (n:Nat)(vs l:List α)(h:n+vs.length<=l.length)(j:Nat):
  (nI n vs l)[j]?=if n<=j∧j<n+vs.length then vs[j-n]? else l[j]?:=by
 rw [nL n vs l (by omega)];rw [List.getElem?_append];simp only [akY,show min n l.length=n from by omega];split;rw [if_neg (by omega),adT,if_pos (by omega)];rw [List.getElem?_append];split;rw [if_pos (by omega)];rw [if_neg (by omega),adQ];congr 1;omega
end
structure Loc where
 b:Nat
 base:Nat
 cap:Nat
 spot:Option Nat
abbrev K7:=Nat->Loc
def K7.at (ι:K7)(i o:Nat):Addr:=⟨(ι i).b,(ι i).base+o,if o=0 then (ι i).spot else none⟩
theorem K7.BR {ι:K7}{i:Nat}(h:(ι i).spot=none)(o:Nat):ι.at i o=⟨(ι i).b,(ι i).base+o,none⟩:=by simp [K7.at,h]
def jY (ι:K7):Fn->Fn
 | .yield l=>.yield (ι l).b
 | f=>f
mutual
def o8 (ι:K7):d9->Value
 | .undef=>.tuple #[]
 | .bool b=>.bool b
 | .int k n=>.int k n
 | .str s=>.string ⟨s.toArray⟩
 | .nilPtr=>.pointer none
 | .ptr i o=>.pointer (some (ι.at i o))
 | .nilSlice=>.slice none 0 0
 | .slice i o l c=>.slice (some (ι.at i o)) l c
 | .sliceU i o l es=>.slice (some (ι.at i o)) l (((ι i).cap-o) / es)
 | .nilMap=>.map none
 | .map i=>.map (some (ι i).b)
 | .nilFunc=>.nilFunc
 | .func fn a b=>.func (jY ι fn) (A8 ι a).toArray (A8 ι b).toArray
 | .nilIface=>.nilIface
 | .iface t v=>.iface t (o8 ι v)
 | .agg l=>.agg (A8 ι l).toArray
 | .tuple l=>.tuple (A8 ι l).toArray
 | .dD v=>.tuple #[o8 ι v]
def A8 (ι:K7):List d9->List Value
 | []=>[]
 | v::l=>o8 ι v::A8 ι l
end
structure Nm where
 has:Nat->Prop
 cap:Nat->Nat
instance:CoeFun Nm (λ_=>Nat->Prop):=⟨Nm.has⟩
def Nm.le (n m:Nm):Prop:=∀i,n i->m i∧m.cap i=n.cap i
theorem Nm.le_refl (n:Nm):n.le n:=λ_ h=>⟨h,rfl⟩
theorem Nm.le_trans {a b c:Nm}(h:a.le b)(k:b.le c):a.le c:=λi d=>⟨(k i (h i d).1).1,(k i (h i d).1).2.trans (h i d).2⟩
def ae1 (n:Nm):Fn->Prop
 | .yield l=>n l
 | _=>True
mutual
def d9.lt (n:Nm):d9->Prop
 | .ptr i _=>n i
 | .slice i _ _ _=>n i
 | .sliceU i o l es=>n i∧1<=es∧o+l*es<=n.cap i
 | .map i=>n i
 | .func fn a b=>ae1 n fn∧dI n a∧dI n b
 | .iface _ v=>v.lt n
 | .agg l=>dI n l
 | .tuple l=>dI n l
 | .dD _=>False
 | _=>True
def dI (n:Nm):List d9->Prop
 | []=>True
 | v::l=>v.lt n∧dI n l
end
theorem dJ (ι:K7)(l:List d9):A8 ι l=l.map (o8 ι):=by
 induction l with
 | nil=>simp [A8]
 | cons v l ih=>simp [A8,ih]
theorem eH {n:Nm}{l:List d9}:dI n l↔∀v∈l,v.lt n:=by
 induction l with
 | nil=>simp [dI]
 | cons v l ih=>simp [dI,ih]
@[simp] theorem bF (ι:K7)(l:List d9):(A8 ι l).length=l.length:=by simp [dJ]
theorem dB (ι:K7)(l:List d9)(i:Nat):(A8 ι l)[i]?=l[i]?.map (o8 ι):=by simp [dJ]
mutual
theorem Z5 {n:Nm}{ι ι':K7}(h:∀i,n i->ι' i=ι i):∀v:d9,v.lt n->o8 ι' v=o8 ι v
 | .undef,_ | .bool _,_ | .int _ _,_ | .str _,_ | .nilPtr,_ | .nilSlice,_ | .nilMap,_ | .nilFunc,_ | .nilIface,_=>by simp [o8]
 | .ptr i o,hv=>by simp only [d9.lt] at hv;simp [o8,K7.at,h i hv]
 | .slice i o l c,hv=>by simp only [d9.lt] at hv;simp [o8,K7.at,h i hv]
 | .sliceU i o l c,hv=>by simp only [d9.lt] at hv;simp [o8,K7.at,h i hv.1]
 | .map i,hv=>by simp only [d9.lt] at hv;simp [o8,h i hv]
 | .func fn a b,hv=>by
  simp only [d9.lt] at hv;obtain⟨hf,ha,hb⟩:=hv;have e:jY ι' fn=jY ι fn:=by cases fn<;>simp_all [jY,ae1]
  simp [o8,e,iq h a ha,iq h b hb]
 | .iface t v,hv=>by simp only [d9.lt] at hv;simp [o8,Z5 h v hv]
 | .agg l,hv=>by simp only [d9.lt] at hv;simp [o8,iq h l hv]
 | .tuple l,hv=>by simp only [d9.lt] at hv;simp [o8,iq h l hv]
 | .dD v,hv=>by simp only [d9.lt] at hv
theorem iq {n:Nm}{ι ι':K7}(h:∀i,n i->ι' i=ι i):∀l:List d9,dI n l->A8 ι' l=A8 ι l
 | [],_=>by simp [A8]
 | v::l,hl=>by simp only [dI] at hl;simp [A8,Z5 h v hl.1,iq h l hl.2]
end
mutual
theorem d9.Y0 {n m:Nm}(h:n.le m):∀v:d9,v.lt n->v.lt m
 | .undef,_ | .bool _,_ | .int _ _,_ | .str _,_ | .nilPtr,_ | .nilSlice,_ | .nilMap,_ | .nilFunc,_ | .nilIface,_=>by simp [d9.lt]
 | .ptr i o,hv=>by simp only [d9.lt] at *;exact (h _ hv).1
 | .slice i o l c,hv=>by simp only [d9.lt] at *;exact (h _ hv).1
 | .sliceU i o l c,hv=>by simp only [d9.lt] at *;exact⟨(h _ hv.1).1,hv.2.1,by rw [(h _ hv.1).2];exact hv.2.2⟩
 | .map i,hv=>by simp only [d9.lt] at *;exact (h _ hv).1
 | .func fn a b,hv=>by simp only [d9.lt] at *;exact⟨by cases fn<;>first | trivial | exact (h _ hv.1).1,gK h a hv.2.1,gK h b hv.2.2⟩
 | .iface t v,hv=>by simp only [d9.lt] at *;exact d9.Y0 h v hv
 | .agg l,hv=>by simp only [d9.lt] at *;exact gK h l hv
 | .tuple l,hv=>by simp only [d9.lt] at *;exact gK h l hv
 | .dD v,hv=>by simp only [d9.lt] at hv
theorem gK {n m:Nm}(h:n.le m):∀l:List d9,dI n l->dI m l
 | [],_=>by simp [dI]
 | v::l,hl=>by simp only [dI] at *;exact⟨d9.Y0 h v hl.1,gK h l hl.2⟩
end
theorem qc (ι:K7)(v:d9):(o8 ι v).cells=(A8 ι v.cells).toArray:=by cases v<;>simp [o8,Value.cells,d9.cells,A8]
theorem BS {n:Nm}{v:d9}(h:v.lt n):dI n v.cells:=by cases v<;>simp_all [d9.lt,d9.cells,dI]
mutual
theorem oG (ι:K7):∀(v:Value) (a:d9),ofValue v=some a->o8 ι a=v∧∀n,a.lt n
 | .bool b,a,h=>by simp only [ofValue,l7] at h;subst h;simp [o8,d9.lt]
 | .int k n,a,h=>by simp only [ofValue,l7] at h;subst h;simp [o8,d9.lt]
 | .string s,a,h=>by simp only [ofValue,l7] at h;subst h;simp [o8,d9.lt]
 | .pointer none,a,h=>by simp only [ofValue,l7] at h;subst h;simp [o8,d9.lt]
 | .pointer (some _),a,h=>by simp [ofValue] at h
 | .slice none 0 0,a,h=>by simp only [ofValue,l7] at h;subst h;simp [o8,d9.lt]
 | .slice (some _) _ _,a,h=>by simp [ofValue] at h
 | .slice none (_+1) _,a,h=>by simp [ofValue] at h
 | .slice none 0 (_+1),a,h=>by simp [ofValue] at h
 | .map none,a,h=>by simp only [ofValue,l7] at h;subst h;simp [o8,d9.lt]
 | .map (some _),a,h=>by simp [ofValue] at h
 | .nilFunc,a,h=>by simp only [ofValue,l7] at h;subst h;simp [o8,d9.lt]
 | .nilIface,a,h=>by simp only [ofValue,l7] at h;subst h;simp [o8,d9.lt]
 | .func (.func f) ⟨[]⟩ ⟨[]⟩,a,h=>by simp only [ofValue,l7] at h;subst h;simp [o8,d9.lt,jY,A8,ae1,dI]
 | .func (.func f) ⟨_ :: _⟩ _,a,h=>by simp [ofValue] at h
 | .func (.func f) ⟨[]⟩ ⟨_ :: _⟩,a,h=>by simp [ofValue] at h
 | .func (.method _) _ _,a,h=>by simp [ofValue] at h
 | .func (.methodOf _ _) _ _,a,h=>by simp [ofValue] at h
 | .func (.via _ _ _ _) _ _,a,h=>by simp [ofValue] at h
 | .func (.yield _) _ _,a,h=>by simp [ofValue] at h
 | .agg ⟨l⟩,a,h=>by
  simp only [ofValue] at h;cases hx:ofValues l with
  | none=>simp [hx] at h
  | some x=>simp only [hx,l7] at h;subst h;obtain⟨h1,h2⟩:=wO ι l x hx;simp [o8,d9.lt,h1];exact h2
 | .tuple ⟨[]⟩,a,h=>by simp only [ofValue,l7] at h;subst h;simp [o8,d9.lt,A8,dI]
 | .tuple ⟨_ :: _⟩,a,h=>by simp [ofValue] at h
 | .float _ _,a,h=>by simp [ofValue] at h
 | .complex _ _ _,a,h=>by simp [ofValue] at h
 | .chan _,a,h=>by simp [ofValue] at h
 | .iface _ _,a,h=>by simp [ofValue] at h
theorem wO (ι:K7):∀(l:List Value) (x:List d9),ofValues l=some x->A8 ι x=l∧∀n,dI n x
 | [],x,h=>by simp only [ofValues,l7] at h;subst h;simp [A8,dI]
 | v::l,x,h=>by
  simp only [ofValues] at h;cases hv:ofValue v with
  | none=>simp [hv] at h
  | some a=>
   cases hl:ofValues l with
   | none=>simp [hv,hl] at h
   | some y=>simp only [hv,hl,l7] at h;subst h;obtain⟨h1,h2⟩:=oG ι v a hv;obtain⟨h3,h4⟩:=wO ι l y hl;simp [A8,dI,h1,h3];exact λn=>⟨h2 n,h4 n⟩
end
theorem ajD:∀(n j:Nat) (t:T d9),j+1<2^n->way n j t=(t.get j).getD .undef:=by
 intro n;induction n with
 | zero=>intro j t h;simp at h
 | succ n ih=>
  intro j t h;cases j with
  | zero=>cases t<;>rfl
  | succ j=>
   have a:j / 2+1<2^n:=by rw [azz] at h;omega
   rcases adu j with h0 | h0;simp only [way,h0];cases t with
   | e=>rfl
   | nd l x r=>rw [T.fF,if_pos h0];exact ih _ l a
   simp only [way,h0];cases t with
   | e=>rfl
   | nd l x r=>rw [T.fF,if_neg (by omega)];exact ih _ r a
theorem ae2 (v:d9):∀(n j:Nat) (t:T d9) (x:d9),j+1<2^n->t.get j=some x->pJ n j v t=t.put j v:=by
 intro n;induction n with
 | zero=>intro j t x h;simp at h
 | succ n ih=>
  intro j t x h a;cases t with
  | e=>simp at a
  | nd l y r=>
   cases j with
   | zero=>rfl
   | succ j=>have b:j / 2+1<2^n:=(by rw [azz] at h;omega);rw [T.fF] at a;rcases adu j with h0 | h0;rw [if_pos h0] at a;simp only [pJ,h0];rw [T.aQ,if_pos h0];show T.nd (pJ n (j / 2) v l) y r=_;rw [ih _ l x b a];rw [if_neg (by omega)] at a;simp only [pJ,h0];rw [T.aQ,if_neg (by omega)];show T.nd l y (pJ n (j / 2) v r)=_;rw [ih _ r x b a]
theorem wP {t:Nat}{l:List Nat}{i j:Nat}(h:idxOf t l i=some j):i<=j∧j<i+l.length∧l[j-i]?=some t:=by
 induction l generalizing i with
 | nil=>simp [idxOf] at h
 | cons x l ih=>
  simp only [idxOf] at h;cases hx:Nat.beq x t with
  | true=>simp only [hx,cond_true,l7] at h;subst h;have:=rW hx;simp [this]
  | false=>simp only [hx,cond_false] at h;obtain⟨b,c,a⟩:=ih h;refine⟨by omega,by simp;omega,?_⟩;rw [show j-i=(j-(i+1))+1 from by omega];simpa using a
theorem VT {t u:Nat}{l:List Nat}{i j:Nat}(h:idxOf t l i=some j)(h':idxOf u l i=some j):t=u:=by have a:=(wP h).2.2;have b:=(wP h').2.2;rw [a] at b;exact LA b
structure aW (ι:K7)(n:Nm)(slots:List Nat)(env:T d9)(tmps:Array Value):Prop where
 ok:T.Ok env slots.length
 small:slots.length<2^60
 val:∀t j,idxOf t slots 0=some j->t<tmps.size∧∃v,env.get j=some v∧v.lt n∧tmps.getD t undef=o8 ι v
theorem aW.mono {ι ι':K7}{n c:Nm}{a:List Nat}{env:T d9}{tmps:Array Value}(h:aW ι n a env tmps)
  (hi:∀i,n i->ι' i=ι i) (g:n.le c):aW ι' c a env tmps:=
 ⟨h.ok,h.small,λt j k=>by
  obtain⟨d,v,e,b,f⟩:=h.val t j k;exact⟨d,v,e,v.Y0 g b,by rw [f,Z5 hi v b]⟩⟩
theorem bY (a:Array Value)(i j:Nat)(v:Value)(hi:i<a.size):
  (a.setIfInBounds i v).getD j undef=if i=j then v else a.getD j undef:=by
 rw [M9,M9];by_cases h:i=j;subst h;rw [if_pos rfl,O8 hi];rfl;rw [if_neg h,O7 h]
theorem aW.put {ι:K7}{n:Nm}{a:List Nat}{env:T d9}{tmps:Array Value}(h:aW ι n a env tmps)(d:Option Tmp){v:d9}(w:v.lt n):
  aW ι n a (iM (OO a d) v env) (match d with | some t=>tmps.setIfInBounds t (o8 ι v) | none=>tmps):=by
 cases d with
 | none=>exact h
 | some t=>
  simp only [OO];cases ht:idxOf t a 0 with
  | none=>
   refine⟨h.ok,h.small,λu j b=>?_⟩;obtain⟨f,l,g,s,m⟩:=h.val u j b;refine⟨by simpa using f,l,g,s,?_⟩;have i:t≠u:=λe=>by subst e;rw [ht] at b;cases b
   by_cases hts:t<tmps.size;rw [bY _ _ _ _ hts,if_neg i];exact m;rw [show tmps.setIfInBounds t (o8 ι v)=tmps from azJ (aq8 hts)];exact m
  | some k=>
   obtain⟨f,x,g,_,_⟩:=h.val t k ht;have y:=(wP ht).2.1
   have c:iM (some k) v env=env.put k v:=ae2 v 64 k env x (by have:=h.small;have:(2:Nat)^60<2^64:=by decide
                                                              omega) g
   rw [c];refine⟨h.ok.put _ _ (by omega),h.small,λu j b=>?_⟩;obtain⟨o,l,p,q,r⟩:=h.val u j b;refine⟨by simpa using o,?_⟩;rw [bY _ _ _ _ f];by_cases he:t=u;subst he;rw [ht] at b;cases b;exact⟨v,T.Z7 h.ok _ _ (by omega),w,by simp⟩;refine⟨l,?_,q,by rw [if_neg he];exact r⟩;rw [T.aU h.ok _ _ _ (by omega) (λe=>he (by subst e;exact VT ht b))];exact p
def aC:U7->Bool
 | .cells .. | .map _ | .iter .. | .loop .. | .deferred=>true
 | _=>false
def exitCode:bn->Code
 | .normal=>.skip
 | .exit id=>.exit id
 | .ret=>.ret
section
variable (P:Program)
structure Az (ι:K7)(n:Nm)(L:Loop)(st:LoopState)(pend:Option bn)(env:T d9)(params:List (Option Nat))(assign body:ay):Prop where
 state:L.state=st
 pending:L.pending=pend.map exitCode
 code:∃slots,aW ι n slots env L.tmps∧params=L.params.toList.map (λt=>idxOf t slots 0)∧X9 P slots L.assign=some assign∧X9 P slots L.body=some body∧
  ∃nt,nt<=L.tmps.size∧tmpsIn nt L.assign=true∧tmpsIn nt L.body=true
def J6 (ι:K7):List (d9×d9)->Nat->List MapEntry
 | [],_=>[]
 | e::es,i=>{key:=o8 ι e.1,val:=o8 ι e.2,born:=i}::J6 ι es (i+1)
def fG (ι:K7)(n:Nm)(h:Array Obj)(l:Loc):U7->Prop
 | .void=>True
 | .dead=>True
 | .cells rs k rows=>∃c e fz,h[l.b]?=some (.cells c e fz)∧l.base+l.cap<=c.size∧(k*rs<=l.cap∧∃N,k<=N∧T.Ok rows N)∧
   ∀i,i<k->∃row,rows.get i=some row∧row.length=rs∧dI n row∧∀j,j<rs->c[l.base+(i*rs+j)]?=(row[j]?).map (o8 ι)
 | .map es=>h[l.b]?=some (.map (J6 ι es 0).toArray es.length)∧∀e∈es,e.1.lt n∧e.2.lt n
 | .iter mp since seen=>l.base=0∧(∀x,mp=some x->n x)∧∃sn st,h[l.b]?=some (.mapIter (mp.map λx=>(ι x).b) since sn st)∧sn.toList.reverse=seen∧(mp≠none->st=since)
 | .tail p=>n p∧(l.cap=0∨(l.b=(ι p).b∧l.base+l.cap<=(ι p).base+(ι p).cap∧((ι p).spot=none->l.spot=none)))
 | .loop st pend env params assign body=>∃L,h[l.b]?=some (.loop L)∧Az P ι n L st pend env params assign body
 | .deferred=>h[l.b]?=some (.deferred (some []))
structure aAl (ι:K7)(m:Mem)(h:Array Obj)(i:Nat):Prop where
 alone:∀j b,j≠i->m.get j=some b->aC b=true->(ι j).b≠(ι i).b
 free:∀c e fz,h[(ι i).b]?=some (.cells c e fz)->∀k,k<c.size->¬ (fz.1<=k∧k<fz.2)
def jd:U7->Bool
 | .void=>true
 | _=>false
def Mem.has (m:Mem)(i:Nat):Prop:=∃b,m.get i=some b∧jd b=false
def Mem.nm (m:Mem)(ι:K7):Nm:=⟨m.has,λi=>(ι i).cap⟩
theorem Mem.bA {m b:Mem}{ι ι':K7}(h:∀i,m.has i->b.has i)(hi:∀i,m.has i->ι' i=ι i):(m.nm ι).le (b.nm ι'):=
 λi a=>⟨h i a,congrArg Loc.cap (hi i a)⟩
def GSz (P:Program)(G:Mem)(h:Array Obj):Prop:=∀i rs k rows,i<P.globals.size->G.get i=some (.cells rs k rows)->∃c e fz,h[i]?=some (.cells c e fz)∧c.size=k*rs
structure RM (G:Mem)(ι:K7)(m:Mem)(h:Array Obj):Prop where
 ok:T.Ok m.t m.nx
 blk:∀i b,m.get i=some b->fG P ι (m.nm ι) h (ι i) b
 own:∀i b,m.lim<=i->m.get i=some b->aC b=true->aAl ι m h i
 glim:G.nx<=m.lim
 limn:m.lim<=m.nx
 gle:P.globals.size<=G.nx
 base:∀i,i<G.nx->m.get i=G.get i
 ghas:∀i,i<P.globals.size->m.has i
 glob:∀i,i<P.globals.size->(ι i).b=i∧(ι i).base=0∧(ι i).spot=none
 spot:∀i b,m.get i=some b->aC b=true->(ι i).spot=none
 gsz:GSz P G h
end
def OU (ι:K7)(m:Mem)(b:Nat):Prop:=∃i x,m.lim<=i∧m.get i=some x∧aC x=true∧(ι i).b=b
theorem RM.OV {P:Program}{G:Mem}{ι:K7}{m:Mem}{h h':Array Obj}(d:RM P G ι m h)(u:∀b,b<h.size->¬ OU ι m b->h'[b]?=h[b]?):GSz P G h':=by
 intro i r k a g q;obtain⟨c,e,s,p,t⟩:=d.gsz i r k a g q;have l:i<h.size:=(L6.1 p).1;have f:i<G.nx:=nA g d.gle;have n:m.get i=some (.cells r k a):=(d.base i f).trans q;refine⟨c,e,s,?_,t⟩;rw [u i l];exact p;rintro⟨j,x,hj,hx,hlx,hb⟩;have o:i≠j:=by have:=d.glim;omega
 exact (d.own j x hj hx hlx).alone i _ o n rfl (by rw [(d.glob i g).1,hb])
structure Step (P:Program)(G:Mem)(ι:K7)(m:Mem)(w:World)(ι':K7)(m':Mem)(w':World):Prop where
 rm:RM P G ι' m' w'.heap
 ext:∀i,m.has i->ι' i=ι i
 has:∀i,m.has i->m'.has i
 nx:m.nx<=m'.nx
 lim:m'.lim=m.lim
 old:∀i,i<m.lim->m'.get i=m.get i
 size:w.heap.size<=w'.heap.size
 frame:∀b,b<w.heap.size->¬ OU ι m b->w'.heap[b]?=w.heap[b]?
 own:∀b,OU ι' m' b->OU ι m b∨w.heap.size<=b
 os:w'.os=w.os
 out:w'.output=w.output
 tape:w'.tape=w.tape
theorem Step.refl {P:Program}{G:Mem}{ι:K7}{m:Mem}{w:World}(h:RM P G ι m w.heap):Step P G ι m w ι m w:=
 ⟨h,λ_ _=>rfl,λ_ h=>h,aA _,rfl,λ_ _=>rfl,aA _,λ_ _ _=>rfl,λ_ h=>.inl h,rfl,rfl,rfl⟩
theorem Step.drew {P:Program}{G:Mem}{ι:K7}{m:Mem}{w:World}(h:RM P G ι m w.heap)(n:Nat):Step P G ι m w ι m {w with drawn:=n}:=
 ⟨h,λ_ _=>rfl,λ_ h=>h,aA _,rfl,λ_ _=>rfl,aA _,λ_ _ _=>rfl,λ_ h=>.inl h,rfl,rfl,rfl⟩
theorem Step.trans {P:Program}{G:Mem}{c d e:K7}{f g j:Mem}{k l m:World}(a:Step P G c f k d g l)(b:Step P G d g l e j m):
  Step P G c f k e j m where
 rm:=b.rm
 ext i hi:=(b.ext i (a.has i hi)).trans (a.ext i hi)
 has i hi:=b.has i (a.has i hi)
 nx:=zu a.nx b.nx
 lim:=b.lim.trans a.lim
 old i hi:=(b.old i (by rw [a.lim];exact hi)).trans (a.old i hi)
 size:=zu a.size b.size
 frame x hx ho:=by refine (b.frame x (nA hx a.size) λh=>?_).trans (a.frame x hx ho);rcases a.own x h with h | h;exact ho h;omega
 own x h:=by rcases b.own x h with h | h;exact a.own x h;exact .inr (zu a.size h)
 os:=b.os.trans a.os
 out:=b.out.trans a.out
 tape:=b.tape.trans a.tape
theorem Step.o8 {P:Program}{G:Mem}{ι ι':K7}{m b:Mem}{w w':World}(a:Step P G ι m w ι' b w'){v:d9}(h:v.lt (m.nm ι)):AM.o8 ι' v=AM.o8 ι v:=
 Z5 (n:=m.nm ι) a.ext v h
theorem Step.env {P:Program}{G:Mem}{ι ι':K7}{m c:Mem}{w w':World}(a:Step P G ι m w ι' c w'){b:List Nat}{env:T d9}{tmps:Array Value}
  (h:aW ι (m.nm ι) b env tmps):aW ι' (c.nm ι') b env tmps:=h.mono (n:=m.nm ι) a.ext (Mem.bA a.has a.ext)
theorem Az.mono {P:Program}{ι ι':K7}{n e:Nm}{L:Loop}{f:LoopState}{c:Option bn}{env:T d9}{b:List (Option Nat)}{a body:ay}
  (h:Az P ι n L f c env b a body) (hi:∀i,n i->ι' i=ι i) (m:n.le e):Az P ι' e L f c env b a body:=by
 obtain⟨g,j,d,k,l⟩:=h;exact⟨g,j,d,k.mono hi m,l⟩
theorem Aa {ι ι':K7}{n:Nm}(hi:∀i,n i->ι' i=ι i):∀(es:List (d9×d9)) (i:Nat),(∀e∈es,e.1.lt n∧e.2.lt n)->J6 ι' es i=J6 ι es i
 | [],_,_=>rfl
 | e::es,i,h=>by simp only [J6];rw [Z5 hi _ (h e (by simp)).1,Z5 hi _ (h e (by simp)).2,Aa hi es (i+1) (λe he=>h e (by simp [he]))]
@[simp] theorem Ht (ι:K7):∀(es:List (d9×d9)) (i:Nat),(J6 ι es i).length=es.length
 | [],_=>rfl
 | e::es,i=>by simp [J6,Ht ι es]
theorem nM (ι:K7):∀(es:List (d9×d9)) (i j:Nat),(J6 ι es i)[j]?=(es[j]?).map λe=>{key:=o8 ι e.1,val:=o8 ι e.2,born:=i+j}
 | [],_,_=>by simp [J6]
 | e::es,i,0=>by simp [J6]
 | e::es,i,j+1=>by simp [J6,nM ι es,show i+1+j=i+(j+1) from by omega]
theorem fG.mono {P:Program}{ι ι':K7}{n t:Nm}{h h':Array Obj}{l:Loc}{b:U7}(hb:fG P ι n h l b)
  (hi:∀i,n i->ι' i=ι i) (g:n.le t) (m:aC b=true->h'[l.b]?=h[l.b]?):fG P ι' t h' l b:=by
 cases b with
 | void=>trivial
 | dead=>trivial
 | cells rs k rows=>
  obtain⟨c,e,w,a,d,o,q⟩:=hb;refine⟨c,e,w,by rw [m rfl];exact a,d,o,λi D=>?_⟩;obtain⟨f,y,z,r,A⟩:=q i D;refine⟨f,y,z,gK g f r,λj C=>?_⟩;rw [A j C];cases hr:f[j]? with
  | none=>rfl
  | some v=>simp [Z5 hi v (eH.1 r v (O0 hr))]
 | map es=>obtain⟨a,d⟩:=hb;refine⟨?_,λe s=>⟨e.1.Y0 g (d e s).1,e.2.Y0 g (d e s).2⟩⟩;rw [m rfl,a,Aa hi es 0 d]
 | iter mp since seen=>
  obtain⟨B,a,F,u,d,o,q⟩:=hb;refine⟨B,λx E=>(g x (a x E)).1,F,u,?_,o,q⟩;rw [m rfl,d];cases mp with
  | none=>rfl
  | some x=>simp [hi x (a x rfl)]
 | tail p=>obtain⟨a,d⟩:=hb;exact⟨(g p a).1,by rw [hi p a];exact d⟩
 | loop u pend env params assign body=>obtain⟨L,a,d⟩:=hb;exact⟨L,by rw [m rfl];exact a,d.mono hi g⟩
 | deferred=>exact (m rfl).trans hb
theorem Mem.Q5 {m:Mem}(h:T.Ok m.t m.nx)(b:U7)(i:Nat):(m.new b).get i=if i=m.nx then some b else m.get i:=by show (m.t.put m.nx b).get i=_;split;rename_i e;subst e;exact T.Z7 h _ _ (aA _);rename_i e;exact T.aU h _ _ _ (aA _) (λh=>e h.symm)
theorem Mem.U6 {m:Mem}(h:T.Ok m.t m.nx){j:Nat}(a:j<m.nx)(b:U7)(i:Nat):(m.set j b).get i=if i=j then some b else m.get i:=by show (m.t.put j b).get i=_;split;rename_i e;subst e;exact T.Z7 h _ _ (agI a);rename_i e;exact T.aU h _ _ _ (agI a) (λh=>e h.symm)
theorem Mem.N9 {m:Mem}(h:T.Ok m.t m.nx){i:Nat}{b:U7}(hi:m.get i=some b):i<m.nx:=(h.get i).1 ⟨b,hi⟩
@[simp] theorem Mem.OW (m:Mem)(b:U7):(m.new b).nx=m.nx+1:=rfl
@[simp] theorem Mem.ae3 (m:Mem)(b:U7):(m.new b).lim=m.lim:=rfl
@[simp] theorem Mem.an0 (m:Mem)(i:Nat)(b:U7):(m.set i b).nx=m.nx:=rfl
@[simp] theorem Mem.ayL (m:Mem)(i:Nat)(b:U7):(m.set i b).lim=m.lim:=rfl
def K7.upd (ι:K7)(i:Nat)(l:Loc):K7:=λj=>if j=i then l else ι j
@[simp] theorem K7.V7 (ι:K7)(i:Nat)(l:Loc):ι.upd i l i=l:=by simp [K7.upd]
theorem K7.upd_ne (ι:K7){i j:Nat}(l:Loc)(h:j≠i):ι.upd i l j=ι j:=by simp [K7.upd,h]
theorem fH {P:Program}{ι:K7}{n:Nm}{h:Array Obj}{l:Loc}{b:U7}(hb:fG P ι n h l b)(d:aC b=true):l.b<h.size:=by
 cases b with
 | void=>cases d
 | dead=>cases d
 | tail=>cases d
 | cells rs k rows=>obtain⟨c,e,f,a,_⟩:=hb;exact (L6.1 a).1
 | map es=>obtain⟨a,_⟩:=hb;exact (L6.1 a).1
 | iter mp since seen=>obtain⟨_,_,g,i,a,_⟩:=hb;exact (L6.1 a).1
 | loop=>obtain⟨L,a,_⟩:=hb;exact (L6.1 a).1
 | deferred=>exact (L6.1 hb).1
structure Laid (m m':Mem)(nid:Nat)(b:U7):Prop where
 ok:T.Ok m'.t m'.nx
 get:∀i,m'.get i=if i=nid then some b else m.get i
 lim:m'.lim=m.lim
 nx:m.nx<=m'.nx
 le:m.lim<=nid
 free:¬ m.has nid
 live:jd b=false
theorem Laid.new {m:Mem}(h:T.Ok m.t m.nx)(a:m.lim<=m.nx)(b:U7)(hb:jd b=false):Laid m (m.new b) m.nx b:=
 ⟨h.push b,Mem.Q5 h b,rfl,Nat.le_succ _,a,λ⟨_,h1,_⟩=>amQ _ (Mem.N9 h h1),hb⟩
theorem Laid.set {m:Mem}(h:T.Ok m.t m.nx){i:Nat}(hi:m.get i=some .void)(a:m.lim<=i)(b:U7)(hb:jd b=false):Laid m (m.set i b) i b:=
 ⟨h.put i b (Mem.N9 h hi),Mem.U6 h (Mem.N9 h hi) b,rfl,aA _,a,λ⟨_,h1,h2⟩=>(by rw [hi] at h1;cases h1;cases h2),hb⟩
theorem Laid.has {m c:Mem}{nid:Nat}{b:U7}(h:Laid m c nid b)(i:Nat)(hi:m.has i):c.has i:=by have a:i≠nid:=λe=>h.free (e▸hi);obtain⟨x,d,f⟩:=hi;exact⟨x,by rw [h.get,if_neg a];exact d,f⟩
theorem Laid.self {m a:Mem}{nid:Nat}{b:U7}(h:Laid m a nid b):a.has nid:=⟨b,by rw [h.get,if_pos rfl],h.live⟩
theorem sV {m:Mem}{i:Nat}{b:U7}(h:m.get i=some b)(a:aC b=true):m.has i:=⟨b,h,by cases b<;>first | rfl | cases a⟩
structure Yj (w w':World)(o:Obj):Prop where
 heap:w'.heap=w.heap.push o
 os:w'.os=w.os
 out:w'.output=w.output
 tape:w'.tape=w.tape
theorem Step.lay {P:Program}{G:Mem}{ι:K7}{m E:Mem}{w w':World}(h:RM P G ι m w.heap){nid:Nat}{b:U7}(a:Laid m E nid b){o:Obj}(v:Yj w w' o){l:Loc}
  (C:l.b=w.heap.size) (hs:l.spot=none)
  (hb:fG P (ι.upd nid l) (E.nm (ι.upd nid l)) (w.heap.push o) l b)
  (J:∀c e fz,o=.cells c e fz->∀k,k<c.size->¬ (fz.1<=k∧k<fz.2)):
  Step P G ι m w (ι.upd nid l) E w':=by
 have r:∀i x,m.get i=some x->aC x=true->(ι i).b<w.heap.size:=λi x f d=>fH (h.blk i x f) d;have g:∀k,k<w.heap.size->w'.heap[k]?=w.heap[k]?:=λk B=>by rw [v.heap];exact azK B |>.trans (ads B).symm
 have p:∀j,m.has j->ι.upd nid l j=ι j:=λj A=>ι.upd_ne l λe=>a.free (e▸A);refine⟨⟨a.ok,?_,?_,by rw [a.lim];exact h.glim,by rw [a.lim];exact zu h.limn a.nx,h.gle,λi q=>by rw [a.get,if_neg (by have:=a.le;have:=h.glim;omega)];exact h.base i q,λi q=>a.has i (h.ghas i q),?_,?_,h.OV λk B _=>g k B⟩,p,a.has,a.nx,a.lim,?_,by rw [v.heap];simp,?_,?_,v.os,v.out,v.tape⟩;intro i x f;rw [a.get] at f;split at f;rename_i e;subst e;cases f;rw [v.heap];simpa using hb;rename_i e;rw [ι.upd_ne l e];exact (h.blk i x f).mono (n:=m.nm ι) p (Mem.bA a.has p) (λd=>g _ (r i x f d));intro i x q f d;rw [a.lim] at q;rw [a.get] at f;split at f;rename_i e;subst e;cases f;refine⟨λj y A z u=>?_,λc e fz t=>?_⟩;rw [a.get,if_neg A] at z;rw [ι.upd_ne l A,ι.V7,C];have:=r j y z u;omega;rw [ι.V7,C,v.heap] at t;simp at t;exact J c e fz t;rename_i e;have H:=h.own i x q f d;have s:=r i x f d;refine⟨λj y A z u=>?_,λc I fz t=>?_⟩;rw [ι.upd_ne l e];rw [a.get] at z;split at z;rename_i D;subst D;cases z;rw [ι.V7,C];omega;rename_i D;rw [ι.upd_ne l D];exact H.alone j y A z u;rw [ι.upd_ne l e] at t;rw [g _ s] at t;exact H.free c I fz t;intro i q;rw [p i (h.ghas i q)];exact h.glob i q;intro i x f d;rw [a.get] at f;split at f;rename_i e;subst e;rw [ι.V7];exact hs;rename_i e;rw [ι.upd_ne l e];exact h.spot i x f d;intro i q;rw [a.get,if_neg (by have:=a.le;omega)];intro F s _;exact g F s;rintro F ⟨i,x,q,f,d,rfl⟩;rw [a.lim] at q;rw [a.get] at f;split at f;rename_i e;subst e;right;rw [ι.V7,C];exact aA _;rename_i e;left;rw [ι.upd_ne l e];exact⟨i,x,q,f,d,rfl⟩
theorem Step.name {P:Program}{G:Mem}{ι:K7}{m s:Mem}{w:World}(h:RM P G ι m w.heap){nid:Nat}{b:U7}(d:Laid m s nid b)(D:aC b=false){l:Loc}
  (hb:fG P (ι.upd nid l) (s.nm (ι.upd nid l)) w.heap l b):Step P G ι m w (ι.upd nid l) s w:=by
 have g:∀j,m.has j->ι.upd nid l j=ι j:=λj t=>ι.upd_ne l λe=>d.free (e▸t);have o:∀i x,s.get i=some x->aC x=true->i≠nid∧m.get i=some x:=λi x f a=>by rw [d.get] at f;split at f;cases f;rw [D] at a;cases a;exact⟨by assumption,f⟩
 refine⟨⟨d.ok,?_,?_,by rw [d.lim];exact h.glim,by rw [d.lim];exact zu h.limn d.nx,h.gle,λi k=>by rw [d.get,if_neg (by have:=d.le;have:=h.glim;omega)];exact h.base i k,λi k=>d.has i (h.ghas i k),?_,?_,h.gsz⟩,g,d.has,d.nx,d.lim,?_,aA _,λ_ _ _=>rfl,?_,rfl,rfl,rfl⟩;intro i x f;rw [d.get] at f;split at f;rename_i e;subst e;cases f;simpa using hb;rename_i e;rw [ι.upd_ne l e];exact (h.blk i x f).mono (n:=m.nm ι) g (Mem.bA d.has g) (λ_=>rfl);intro i x k f a;rw [d.lim] at k;obtain⟨p,q⟩:=o i x f a;have v:=h.own i x k q a;refine⟨λj y t E r=>?_,λc z A u=>?_⟩;obtain⟨B,C⟩:=o j y E r;rw [ι.upd_ne l p,ι.upd_ne l B];exact v.alone j y t C r;rw [ι.upd_ne l p] at u;exact v.free c z A u;intro i k;rw [g i (h.ghas i k)];exact h.glob i k;intro i x f a;obtain⟨p,q⟩:=o i x f a;rw [ι.upd_ne l p];exact h.spot i x q a;intro i k;rw [d.get,if_neg (by have:=d.le;omega)];rintro b' ⟨i,x,k,f,a,rfl⟩;rw [d.lim] at k;obtain⟨p,q⟩:=o i x f a;rw [ι.upd_ne l p];exact .inl ⟨i,x,k,q,a,rfl⟩
def aAm (ι:K7)(n:Nm)(done:List (Option Nat))(ls:List d9)(tmps:Array Value):Prop:=
 ∀t k,jH t done 0=some k->∃v,ls[k]?=some v∧v.lt n∧tmps.getD t undef=o8 ι v
structure St (P:Program)(ι:K7)(n:Nm)(slots:List Nat)(done:List (Option Nat))(ls:List d9)(env:T d9)(tmps:Array Value):Prop where
 ls:aAm ι n done ls tmps
 env:aW ι n slots env tmps
 glob:∀i,i<P.globals.size->(ι i).b=i∧(ι i).base=0∧(ι i).spot=none
 gn:∀g,g<P.globals.size->n g
section
variable {P:Program}{G:Mem}{ι:K7}{n:Nm}{slots:List Nat}{done:List (Option Nat)}{ls:List d9}{env:T d9}{a:Act}
theorem Hu (k:Nat):∀(ls:List d9) (env:T d9),H9 (.loc k) ls env=ls[k]?.getD .undef:=by
 intro ls env;match k with
 | 0=>cases ls<;>rfl
 | 1=>match ls with | [] | [_] | _ :: _ :: _=>rfl
 | 2=>match ls with | [] | [_] | [_,_] | _ :: _ :: _ :: _=>rfl
 | 3=>match ls with | [] | [_] | [_,_] | [_,_,_] | _ :: _ :: _ :: _ :: _=>rfl
 | k+4=>show nth (k+4) ls=_;exact Yi _ _
theorem Yk (j:Nat)(h:j<2^60)(ls:List d9)(env:T d9):H9 (.slot j) ls env=(env.get j).getD .undef:=by
 show way 64 j env=_
 exact ajD 64 j env (by have:(2:Nat)^60+1<2^64:=by decide
                        omega)
theorem D9 (s:St P ι n slots done ls env a.tmps){x:Operand}{o:V9}(h:V5 P slots done x=some o):
  a.eval x=o8 ι (H9 o ls env)∧(H9 o ls env).lt n:=by
 cases x with
 | tmp t=>
  simp only [V5] at h;cases hk:jH t done 0 with
  | some k=>simp only [hk,l7] at h;subst h;obtain⟨v,b,d,e⟩:=s.ls t k hk;rw [Hu,b];exact⟨e,d⟩
  | none=>
   simp only [hk] at h;cases hj:idxOf t slots 0 with
   | none=>simp [hj] at h
   | some j=>simp only [hj,l7] at h;subst h;obtain⟨_,v,b,d,e⟩:=s.env.val t j hj;rw [Yk j (by have:=(wP hj).2.1;have:=s.env.small;omega),b];exact⟨e,d⟩
 | const v=>
  simp only [V5] at h;cases hv:ofValue v with
  | none=>simp [hv] at h
  | some c=>simp only [hv,l7] at h;subst h;obtain⟨b,d⟩:=oG ι v c hv;exact⟨b.symm,d n⟩
 | global g=>simp only [V5] at h;split at h;rename_i i;cases h;obtain⟨b,d,e⟩:=s.glob g i;refine⟨?_,?_⟩;show Value.pointer (some ⟨g,0,none⟩)=.pointer (some (ι.at g 0));rw [K7.BR e,b,d];exact s.gn g i;cases h
 | func f=>simp only [V5,l7] at h;subst h;exact⟨by simp [Act.eval,H9,au,o8,jY,A8],by simp [H9,au,d9.lt,ae1,dI]⟩
theorem mK (s:St P ι n slots done ls env a.tmps):∀{l:List Operand} {os:List V9},kI P slots done l=some os->
  l.map a.eval=A8 ι (evs (iH os) ls env)∧dI n (evs (iH os) ls env)
 | [],os,h=>by simp only [kI,l7] at h;subst h;simp [iH,evs,A8,dI]
 | x::l,os,h=>by
  simp only [kI] at h;cases hx:V5 P slots done x with
  | none=>simp [hx] at h
  | some o=>
   cases hl:kI P slots done l with
   | none=>simp [hx,hl] at h
   | some r=>simp only [hx,hl,l7] at h;subst h;obtain⟨h1,h2⟩:=D9 s hx;obtain⟨h3,h4⟩:=mK s hl;refine⟨?_,?_⟩;show a.eval x::l.map a.eval=o8 ι (H9 o ls env)::A8 ι (evs (iH r) ls env);rw [h1,h3];exact⟨h2,h4⟩
end
section
variable {P:Program}{G:Mem}{w:World}
theorem run_underlying {t:TypeId}{d:TypeDesc}(h:P.underlying t=some d):(underlying t).run P w=.ok d w:=by simp [underlying,h]
theorem run_sizeOf {t:TypeId}{k:Nat}(h:eX P t=some k):(sizeOf t).run P w=.ok k w:=by simp only [eX,ahr] at h;obtain⟨i,a,b⟩:=h;simp [sizeOf,typeInfo,a,b]
theorem zi {t:TypeId}{k:Nat}(h:jK P t=some k):∃i,(typeInfo t).run P w=.ok i w∧i.bytes=k:=by simp only [jK,ahr] at h;obtain⟨i,a,b⟩:=h;exact⟨i,by simp [typeInfo,a],b⟩
theorem sW {t:TypeId}{b:Bool}(h:zN P t=some b):(isAgg t).run P w=.ok b w:=by
 simp only [zN] at h;cases hu:P.underlying t with
 | none=>simp [hu] at h
 | some d=>simp only [isAgg,M0,run_underlying hu,su];cases d<;>simp_all
theorem Hw {t:TypeId}{s:Option Nat}(h:partT P t=some s):(s=none∧zN P t=some false∧∃k,eX P t=some k)∨(∃k,s=some k∧zN P t=some true∧eX P t=some k):=by simp only [partT] at h;split at h;rename_i k a b;cases h;exact .inr ⟨k,rfl,a,b⟩;rename_i k a b;cases h;exact .inl ⟨rfl,a,k,b⟩;cases h
theorem gM {t:TypeId}{z:List d9}(h:sU P t=some z)(ι:K7):∃v,(zeroValue t).run P w=.ok v w∧v.cells=(A8 ι z).toArray∧∀n,dI n z:=by
 simp only [sU] at h;cases hi:P.info? t with
 | none=>simp [hi] at h
 | some i=>
  cases hz:i.zero with
  | none=>simp [hi,hz] at h
  | some v=>
   cases ha:ofValue v with
   | none=>simp [hi,hz,ha] at h
   | some a=>simp only [hi,hz,ha,W9,l7] at h;subst h;obtain⟨b,c⟩:=oG ι v a ha;exact⟨v,by simp [zeroValue,typeInfo,hi,hz],by rw [← b,qc],λn=>BS (c n)⟩
theorem sZ {t:TypeId}{z:d9}(h:zeroV P t=some z)(ι:K7):(zeroValue t).run P w=.ok (o8 ι z) w∧∀n,z.lt n:=by
 simp only [zeroV] at h;cases hi:P.info? t with
 | none=>simp [hi] at h
 | some i=>
  cases hz:i.zero with
  | none=>simp [hi,hz] at h
  | some v=>simp only [hi,hz,W9] at h;obtain⟨a,b⟩:=oG ι v z h;exact⟨by simp [zeroValue,typeInfo,hi,hz,a],b⟩
end
theorem BU (n:Int)(h:-9223372036854775808<=n∧n<9223372036854775808):IntKind.i64.wrap n=n:=by
 have a:((2:Int)^IntKind.i64.bits)=18446744073709551616:=rfl;have b:((2:Int)^(IntKind.i64.bits-1))=9223372036854775808:=rfl;unfold IntKind.wrap;rw [a,b];show (if (true&&decide (n%18446744073709551616≥9223372036854775808))=true then n%18446744073709551616-18446744073709551616 else n%18446744073709551616)=n;obtain⟨c,d⟩:=h;by_cases hn:0<=n;have:n%18446744073709551616=n:=Int.emod_eq_of_lt hn (by omega);rw [this,if_neg (by simp only [amP,decide_eq_true_eq];omega)];have:n%18446744073709551616=n+18446744073709551616:=by rw [← Int.add_emod_right];exact Int.emod_eq_of_lt (by omega) (by omega)
 rw [this,if_pos (by simp only [amP,decide_eq_true_eq];omega)];omega
theorem ajE (n:Int):sP n=IntKind.i64.wrap n:=by
 cases n with
 | ofNat m=>
  simp only [sP];cases h:Nat.blt m 9223372036854775808 with
  | true=>
   have:m<9223372036854775808:=(Eq.mp O6 h)
   have a:=BU (Int.ofNat m) ⟨by have:(0:Int)<=Int.ofNat m:=Int.natCast_nonneg m
                                omega,by have:Int.ofNat m=(m:Int):=rfl
                                         omega⟩
   exact (Z6 _ _).trans a.symm
  | false=>exact aJ _ _
 | negSucc m=>
  simp only [sP];cases h:Nat.blt m 9223372036854775808 with
  | true=>have:m<9223372036854775808:=(Eq.mp O6 h);have e:=azA m;have a:=BU (Int.negSucc m) ⟨by omega,by omega⟩;exact (Z6 _ _).trans a.symm
  | false=>exact aJ _ _
theorem wQ (k:IntKind)(n:Int):iY k n=k.wrap n:=by cases k<;>first | exact ajE n | rfl
theorem lu (a b:Int):qK a b=(a==b):=by
 cases a with
 | ofNat a=>
  cases b with
  | ofNat b=>show Nat.beq a b=_;by_cases h:a=b;subst h;simp [adH];rw [show Nat.beq a b=false from adj.2 λe=>h (rW e)];exact (beq_eq_false_iff_ne.2 (λe=>h (Int.ofNat.inj e))).symm
  | negSucc b=>exact (beq_eq_false_iff_ne.2 (λe=>by cases e)).symm
 | negSucc a=>
  cases b with
  | ofNat b=>exact (beq_eq_false_iff_ne.2 (λe=>by cases e)).symm
  | negSucc b=>show Nat.beq a b=_;by_cases h:a=b;subst h;simp [adH];rw [show Nat.beq a b=false from adj.2 λe=>h (rW e)];exact (beq_eq_false_iff_ne.2 (λe=>h (Int.negSucc.inj e))).symm
theorem blt_eq (a b:Nat):Nat.blt a b=decide (a<b):=by by_cases h:a<b;rw [decide_eq_true h];exact (Eq.mpr O6 h);rw [decide_eq_false h];exact adj.2 λe=>h (Eq.mp O6 e)
theorem iL (a b:Int):nJ a b=decide (a<b):=by
 cases a with
 | ofNat a=>
  cases b with
  | ofNat b=>exact (blt_eq a b).trans (decide_eq_decide.2 (by show a<b↔(a:Int)<(b:Int);omega))
  | negSucc b=>exact (decide_eq_false (by rw [azA];show ¬ (a:Int) < _;omega)).symm
 | negSucc a=>
  cases b with
  | ofNat b=>exact (decide_eq_true (by rw [azA];show _<(b:Int);omega)).symm
  | negSucc b=>exact (blt_eq b a).trans (decide_eq_decide.2 (by rw [azA,azA];omega))
theorem RD (a b:IntKind):kEq a b=decide (a=b):=by cases a<;>cases b<;>rfl
theorem BX:∀a b:List UInt8,strEq a b=(a==b)
 | [],[]=>rfl
 | [],_ :: _=>rfl
 | _ :: _,[]=>rfl
 | x::a,y::b=>by
  show bi (Nat.beq x.toNat y.toNat) (strEq a b) false=_;rw [BX a b];by_cases h:x=y;subst h;simp [adH];have:Nat.beq x.toNat y.toNat=false:=by rw [adj];intro e;exact h (azW.1 (rW e))
  rw [this];simp [h]
theorem Hy:∀a b:List UInt8,uy a b=Op.bytesLess a b
 | _,[]=>by cases ‹List UInt8› <;> rfl
 | [],_ :: _=>rfl
 | x::a,y::b=>by simp [uy,Op.bytesLess,Hy a b]
theorem K7.qd (ι:K7)(i o k:Nat):(ι.at i o).add k=ι.at i (o+k):=by
 unfold Addr.add K7.at
 split;rename_i h;subst h;rfl;rename_i h;have:¬ (o+k=0):=by omega
 simp [ada,this];intro _ a;exact absurd a h
section
variable {β:Type}{v:d9}{r:β}
theorem jV {k:Nat->Nat->Option β}(h:mo v k=some r):∃i o,v=.ptr i o∧k i o=some r:=by cases v<;>first | exact⟨_,_,rfl,h⟩ | (simp [mo] at h)
theorem mY {k:IntKind->Int->Option β}(h:vT v k=some r):∃i n,v=.int i n∧k i n=some r:=by cases v<;>first | exact⟨_,_,rfl,h⟩ | (simp [vT] at h)
theorem tq {k:Bool->Option β}(h:pI v k=some r):∃b,v=.bool b∧k b=some r:=by cases v<;>first | exact⟨_,rfl,h⟩ | (simp [pI] at h)
theorem qQ {k:List UInt8->Option β}(h:wm v k=some r):∃s,v=.str s∧k s=some r:=by cases v<;>first | exact⟨_,rfl,h⟩ | (simp [wm] at h)
theorem je {k:List d9->Option β}(h:Ao v k=some r):∃l,v=.agg l∧k l=some r:=by cases v<;>first | exact⟨_,rfl,h⟩ | (simp [Ao] at h)
theorem ae4 {k:List d9->Option β}(h:Ow v k=some r):∃l,v=.tuple l∧k l=some r:=by cases v<;>first | exact⟨_,rfl,h⟩ | (simp [Ow] at h)
theorem zk {a:Option β}{k:Nat->Option β}(h:wo v a k=some r):(v=.nilMap∧a=some r)∨∃i,v=.map i∧k i=some r:=by cases v<;>first | exact .inl ⟨rfl,h⟩ | exact .inr ⟨_,rfl,h⟩ | (simp [wo] at h)
theorem wR {e:Option β}{k u:Nat->Nat->Nat->Nat->Option β}(h:ze v e k u=some r):
  (v=.nilSlice∧e=some r)∨(∃a b c d,v=.slice a b c d∧k a b c d=some r)∨∃a b c d,v=.sliceU a b c d∧u a b c d=some r:=by
 cases v<;>first | exact .inl ⟨rfl,h⟩ | exact .inr (.inl ⟨_,_,_,_,rfl,h⟩) | exact .inr (.inr ⟨_,_,_,_,rfl,h⟩) | (simp [ze] at h)
theorem Mx {k:Fn->List d9->List d9->Option β}(h:Ox v k=some r):∃f a b,v=.func f a b∧k f a b=some r:=by cases v<;>first | exact⟨_,_,_,rfl,h⟩ | (simp [Ox] at h)
theorem ae5 {n:Int}{k:Nat->Option β}(h:Oy n k=some r):∃m:Nat,n=(m:Int)∧k m=some r:=by
 cases n with
 | ofNat m=>exact⟨m,rfl,h⟩
 | negSucc m=>simp [Oy] at h
theorem iC {k:Nat->Option β}(h:iR v k=some r):∃i,∃m:Nat,v=.int i (m:Int)∧k m=some r:=by obtain⟨i,n,rfl,h⟩:=mY h;obtain⟨m,rfl,h⟩:=ae5 h;exact⟨i,m,rfl,h⟩
theorem idx_eq {len:Nat}{k:Nat->Option β}(h:idx len v k=some r):∃i,∃m:Nat,v=.int i (m:Int)∧m<len∧k m=some r:=by obtain⟨i,m,rfl,h⟩:=iC h;obtain⟨a,b⟩:=I8 h;exact⟨i,m,rfl,Eq.mp O6 a,b⟩
end
section
variable {P:Program}{G:Mem}{ι:K7}{n:Nm}
theorem uE {c:BinOp}{t:TypeId}{x y:Operand}{a b:Value}{w:World}
  (h:∀p q,a≠.agg p∨b≠.agg q) (h':a≠.nilIface∨b≠.nilIface∨zZ x=true∨zZ y=true):(eqGuard c t x y a b).run P w=.ok () w:=by
 unfold eqGuard;cases c<;>simp<;>(
  split;rename_i d e;rcases h' with h' | h' | h' | h';exact absurd rfl h';exact absurd rfl h';cases x<;>simp_all [zZ]
  cases y<;>simp_all [zZ]
  rename_i p q;rcases h p q with h | h<;>exact absurd rfl h
  rfl)
theorem MB {c:BinOp}(e:c≠.shl)(f:c≠.shr){k:IntKind}{a b:Int}{v:d9}(h:Mh c k a b=some v)(t:TypeId)(w:World):
  (binOp c t (.int k a) (.int k b)).run P w=.ok (o8 ι v) w∧v.lt n:=by
 cases c<;>first
  | exact absurd rfl e
  | exact absurd rfl f
  | (simp only [Mh,Gd,GJ,GK,Dz,XR,Xy,Xz,XT,XA,GL,iOr,JQ,mW,l7] at h
     subst h;simp [binOp,Op.intArith,Op.intCmp,Op.intBits,o8,d9.lt,wQ,lu,iL,Oz,bne]
     done)
  | (simp only [Mh,JO,Ap,ajz] at h
     have d:b≠0:=(by rintro rfl;simp at h);split at h;exact absurd rfl d;cases h;simp [binOp,Op.intDiv,d,o8,d9.lt,wQ])
  | (simp only [Mh,Xz,XA,l7] at h
     subst h;simp [binOp,Op.intCmp,o8,d9.lt,iL];rw [adE];simp)
theorem tu (s:List UInt8):(⟨s.toArray⟩:ByteArray).size=s.length:=by simp [ByteArray.size]
theorem MC {c:BinOp}{a b:List UInt8}{v:d9}(h:Mi c a b=some v)(t:TypeId)(w:World):
  (binOp c t (.string ⟨a.toArray⟩) (.string ⟨b.toArray⟩)).run P w=.ok (o8 ι v) w∧v.lt n:=by
 cases c<;>first
  | (simp only [Mi,wz] at h;cases h;done)
  | (simp only [Mi,DF,XU,XV,sLe,sGt,sGe,l7] at h
     subst h;simp [binOp,Op.stringOp,o8,d9.lt,BX,Hy]
     done)
  | (simp only [Mi,gy] at h
     obtain⟨d,e⟩:=I8 h;cases e;have f:len' a+len' b<9223372036854775808:=Eq.mp O6 d;simp only [K4] at f;simp [binOp,Op.stringOp,tu,o8,d9.lt];rw [if_neg (by omega)];congr 3)
theorem uF {c:BinOp}(e:c≠.shl)(f:c≠.shr){x y v:d9}(h:BK (Mh c) (Mi c) x y=some v)(t:TypeId)(w:World):
  (binOp c t (o8 ι x) (o8 ι y)).run P w=.ok (o8 ι v) w∧v.lt n:=by
 cases x<;>try (simp [BK] at h;done)
 rename_i k a;simp only [BK] at h;obtain⟨i,b,rfl,h⟩:=mY h;obtain⟨d,g⟩:=I8 h;rw [RD,decide_eq_true_eq] at d;subst d;exact MB e f g t w;rename_i a;simp only [BK] at h;obtain⟨b,rfl,h⟩:=qQ h;exact MC h t w
theorem VU {b:BinOp}{x y v:d9}(h:BK (Mh b) (Mi b) x y=some v):
  (∃k a,x=.int k a)∨∃a,x=.str a:=by
 cases x<;>first | exact .inl ⟨_,_,rfl⟩ | exact .inr ⟨_,rfl⟩ | (simp [BK] at h;done)
theorem Ky {x y v:d9}(h:adV x y=some v)(t:TypeId)(w:World):(binOp .shl t (o8 ι x) (o8 ι y)).run P w=.ok (o8 ι v) w∧v.lt n:=by simp only [adV] at h;obtain⟨k,a,rfl,h⟩:=mY h;obtain⟨i,m,rfl,h⟩:=iC h;cases h;simp [binOp,Op.shift,o8,d9.lt,wQ,show ¬ ((m:Int)<0) from by omega]
theorem Kz {x y v:d9}(h:Rt x y=some v)(t:TypeId)(w:World):(binOp .shr t (o8 ι x) (o8 ι y)).run P w=.ok (o8 ι v) w∧v.lt n:=by simp only [Rt] at h;obtain⟨k,a,rfl,h⟩:=mY h;obtain⟨i,m,rfl,h⟩:=iC h;cases h;simp [binOp,Op.shift,o8,d9.lt,show ¬ ((m:Int)<0) from by omega]
theorem Ef (a b:Bool):GN a b=(a==b):=by cases a<;>cases b<;>rfl
theorem uG {x y:d9}{r:Bool}(h:fU x y=some r):∃k a b,x=.int k a∧y=.int k b∧r=(a==b):=by obtain⟨k,a,d,e⟩:=mY h;obtain⟨j,b,f,g⟩:=mY e;obtain⟨c,i⟩:=I8 g;rw [RD,decide_eq_true_eq] at c;subst c;cases i;exact⟨_,_,_,d,f,lu _ _⟩
theorem kJ {x y:d9}{r:Bool}(h:kS x y=some r):∃a b,x=.bool a∧y=.bool b∧r=(a==b):=by obtain⟨a,c,d⟩:=tq h;obtain⟨b,e,f⟩:=tq d;cases f;exact⟨_,_,c,e,Ef _ _⟩
theorem uH {x y:d9}{r:Bool}(h:eqStr x y=some r):∃a b,x=.str a∧y=.str b∧r=(a==b):=by obtain⟨a,c,d⟩:=qQ h;obtain⟨b,e,f⟩:=qQ d;cases f;exact⟨_,_,c,e,BX _ _⟩
end
section
variable {P:Program}{G:Mem}{ι:K7}{n:Nm}
theorem mM (a b:List d9):dX [] a b=some true:=rfl
theorem kK (k:PK)(c:List PK)(x y:d9)(a b:List d9):dX (k::c) (x::a) (y::b)=ob (OC k x y) λr=>bi r (dX c a b) (some false):=rfl
theorem kL {k:PK}{c:List PK}{a b:List d9}{r:Bool}(h:dX (k::c) a b=some r):
  ∃x xs y ys s,a=x::xs∧b=y::ys∧OC k x y=some s∧bi s (dX c xs ys) (some false)=some r:=by
 cases a with
 | nil=>cases h
 | cons x xs=>
  cases b with
  | nil=>cases h
  | cons y ys=>rw [kK] at h;obtain⟨s,d,e⟩:=D7 h;exact⟨x,xs,y,ys,s,rfl,rfl,d,e⟩
theorem RG (c e:List PK):∀(a b:List d9) (r:Bool),dX (c++e) a b=some r->
  (dX c a b=some false∧r=false)∨(dX c a b=some true∧dX e (a.drop c.length) (b.drop c.length)=some r):=by
 induction c with
 | nil=>intro a b r h;right;exact⟨rfl,by simpa using h⟩
 | cons k c ih=>
  intro a b r h;obtain⟨x,g,y,i,s,rfl,rfl,f,d⟩:=kL h;rw [kK,f];cases s with
  | false=>left;cases d;exact⟨rfl,rfl⟩
  | true=>simpa using ih g i r d
theorem Fj (c:List PK):∀(m:Nat) (a b:List d9),c.length<=m->dX c (a.take m) (b.take m)=dX c a b:=by
 induction c with
 | nil=>intro m a b _;rfl
 | cons k c ih=>
  intro m a b h;obtain⟨m,rfl⟩:∃m',m=m'+1:=⟨m-1,by simp at h;omega⟩;cases a with
  | nil=>rfl
  | cons x xs=>
   cases b with
   | nil=>rfl
   | cons y ys=>rw [asc,asc,kK,kK,ih m xs ys (by simpa using h)]
def mkV (ι:K7)(agg:Bool)(l:List d9):Value:=if agg then .agg (A8 ι l).toArray else o8 ι (l.headD .undef)
theorem ME (ι:K7)(l:List d9)(o k:Nat):((A8 ι l).toArray.extract o (o+k))=(A8 ι ((l.drop o).take k)).toArray:=by rw [List.extract_toArray];congr 1;rw [dJ,dJ,as4,aCH];simp [amO,aAh]
theorem wS {t:TypeId}{a:Bool}{k:Nat}(b:zN P t=some a)(hs:eX P t=some k)(l:List d9)(o:Nat)(c:a=false->o<l.length∧k=1)(w:World):
  (part t (A8 ι l).toArray o).run P w=.ok (mkV ι a ((l.drop o).take k)) w:=by
 simp only [part,M0,sW b,su];cases a with
 | true=>simp only [if_true,M0,run_sizeOf hs,su,adg,ME];rfl
 | false=>
  obtain⟨h,rfl⟩:=c rfl;have:(A8 ι l).toArray[o]?=some (o8 ι l[o]):=by simp [dB,aP h]
  simp only [ady,if_false,this,mkV,adg];congr 2;rw [Q6 h];rfl
theorem Hz {t:TypeId}{k:IntKind}(h:P.underlying t=some (.int k)):zN P t=some false:=by simp [zN,h]
theorem VW {t:TypeId}(h:P.underlying t=some .bool):zN P t=some false:=by simp [zN,h]
theorem OX {t:TypeId}(h:P.underlying t=some .string):zN P t=some false:=by simp [zN,h]
theorem qR {t:TypeId}{a:Array Field}(h:P.underlying t=some (.struct a)):zN P t=some true:=by simp [zN,h]
theorem wT {t:TypeId}{k:IntKind}(h:P.underlying t=some (.int k)){x y:d9}{r:Bool}(c:fU x y=some r)(d:Nat)(w:World):
  (Op.equalIn (d+1) t (o8 ι x) (o8 ι y)).run P w=.ok r w:=by
 obtain⟨k,a,b,rfl,rfl,rfl⟩:=uG c;simp [Op.equalIn,run_underlying h,o8]
theorem BZ {t:TypeId}(h:P.underlying t=some .bool){x y:d9}{r:Bool}(c:kS x y=some r)(d:Nat)(w:World):
  (Op.equalIn (d+1) t (o8 ι x) (o8 ι y)).run P w=.ok r w:=by
 obtain⟨a,b,rfl,rfl,rfl⟩:=kJ c;simp [Op.equalIn,run_underlying h,o8]
theorem rV (a b:List UInt8):((⟨a.toArray⟩:ByteArray)==⟨b.toArray⟩)=(a==b):=by show ByteArray.beq _ _=_;simp [ByteArray.beq]
theorem Fp {t:TypeId}(h:P.underlying t=some .string){x y:d9}{r:Bool}(c:eqStr x y=some r)(d:Nat)(w:World):
  (Op.equalIn (d+1) t (o8 ι x) (o8 ι y)).run P w=.ok r w:=by
 obtain⟨a,b,rfl,rfl,rfl⟩:=uH c;simp [Op.equalIn,run_underlying h,o8,rV]
def kM (d:Nat)(X Y:Array Value):List Field->Sem Bool
 | []=>pure true
 | f::l=>do
  if f.name≠ "_" then
   if !(← Op.equalIn d f.type (← part f.type X f.offset) (← part f.type Y f.offset)) then return false
  kM d X Y l
theorem MF (d:Nat)(X Y:Array Value)(l:List Field):
  (do
   let s ← forIn l ((none,()):Option Bool×Unit) λf _=>
    if f.name≠ "_" then do
     let a ← part f.type X f.offset
     let b ← part f.type Y f.offset
     let e ← Op.equalIn d f.type a b
     if (!e)=true then pure (ForInStep.done (some false,())) else pure (ForInStep.yield (none,()))
    else pure (ForInStep.yield (none,()))
   match s.fst with
   | some r=>pure r
   | none=>pure true:Sem Bool)=kM d X Y l:=by
 induction l with
 | nil=>simp [kM]
 | cons f l ih=>rw [azV];simp only [kM];rw [← ih];by_cases hf:f.name= "_";simp [hf];simp only [ne_eq,hf,not_false_eq_true,if_true,bind_assoc];congr 1;funext a;congr 1;funext b;congr 1;funext e;cases e<;>simp
theorem HV {t:TypeId}{b:Array Field}(h:P.underlying t=some (.struct b))(hs:P.stoodInHeld t=false)(X Y:Array Value)(d:Nat)(w:World):
  (Op.equalIn (d+1) t (.agg X) (.agg Y)).run P w=(kM d X Y b.toList).run P w:=by
 simp only [Op.equalIn,M0,run_underlying h,su,run_program,hs];rw [← aAa,← MF];simp;congr 1;funext a w';obtain⟨o,u⟩:=a;cases o<;>rfl
theorem KA:∀(d:Nat) (t:TypeId) (ks:List PK),iB P d t=some ks->∃agg,zN P t=some agg∧eX P t=some ks.length∧(agg=false->ks.length=1)∧
  ∀D,d<=D->∀(a b:List d9) (r:Bool),dX ks a b=some r->∀w,(Op.equalIn D t (mkV ι agg a) (mkV ι agg b)).run P w=.ok r w:=by
 intro d;induction d with
 | zero=>intro t ks h;simp [iB] at h
 | succ d ih=>
  intro t ks h;simp only [iB] at h;cases hu:P.underlying t with
  | none=>simp [hu] at h
  | some u=>
   rw [hu] at h;cases u<;>try (simp at h;done)
   ·
    simp only at h;split at h;rename_i k;cases h;refine⟨false,VW hu,k,λ_=>rfl,λD F a b r n w=>?_⟩;obtain⟨x,I,y,J,s,rfl,rfl,m,q⟩:=kL n;obtain⟨D,rfl⟩:∃D',D=D'+1:=⟨D-1,by omega⟩;have:s=r:=by cases s<;>simpa [mM] using q
    subst this;exact BZ hu m D w;cases h
   simp only at h;split at h;rename_i k;cases h;refine⟨false,Hz hu,k,λ_=>rfl,λD F a b r n w=>?_⟩;obtain⟨x,I,y,J,s,rfl,rfl,m,q⟩:=kL n;obtain⟨D,rfl⟩:∃D',D=D'+1:=⟨D-1,by omega⟩;have:s=r:=by cases s<;>simpa [mM] using q
   subst this;exact wT hu m D w;cases h;simp only at h;split at h;rename_i k;cases h;refine⟨false,OX hu,k,λ_=>rfl,λD F a b r n w=>?_⟩;obtain⟨x,I,y,J,s,rfl,rfl,m,q⟩:=kL n;obtain⟨D,rfl⟩:∃D',D=D'+1:=⟨D-1,by omega⟩;have:s=r:=by cases s<;>simpa [mM] using q
   subst this;exact Fp hu m D w;cases h;rename_i K;simp only at h;cases hf:pX (iB P d) K.toList 0 with
   | none=>simp [hf] at h
   | some ks'=>
    simp only [hf] at h;split at h;rename_i k;cases h;refine⟨true,qR hu,k.2,(λh=>by cases h),λD F a b r n w=>?_⟩;obtain⟨D,rfl⟩:∃D',D=D'+1:=⟨D-1,by omega⟩;simp only [mkV,if_true];rw [HV hu k.1];have H:∀(l:List Field) (g:Nat) (e:List PK) (j:List PK),ks=j++e->j.length=g->pX (iB P d) l g=some e->
      ∀r,dX e (a.drop g) (b.drop g)=some r->(kM D (A8 ι a).toArray (A8 ι b).toArray l).run P w=.ok r w:=by
     intro l;induction l with
     | nil=>intro g e j _ _ i r B;simp only [pX,l7] at i;subst i;rw [mM] at B;cases B;simp [kM]
     | cons f l ihl=>
      intro g e j G A i r B;simp only [pX] at i;split at i;rename_i N;cases hk:iB P d f.type with
      | none=>simp [hk] at i
      | some kf=>
       simp only [hk] at i;cases hrest:pX (iB P d) l (g+kf.length) with
       | none=>simp [hrest] at i
       | some kr=>
        simp only [hrest,l7] at i;subst i;obtain⟨agg,M,C,m,L⟩:=ih f.type kf hk;have z:∀(c:List d9),(a=c∨b=c)->agg=false->g<c.length∧kf.length=1:=by
         intro c O v;have p:=m v;refine⟨?_,p⟩;cases kf with
         | nil=>simp at p
         | cons k0 kf=>obtain⟨x,I,y,J,s,o,E,_,_⟩:=kL B;rcases O with rfl | rfl;have:=congrArg List.length o;simp at this;omega;have:=congrArg List.length E;simp at this;omega
        simp only [kM,if_pos N.1,M0];rw [N.2,wS M C _ _ (z a (.inl rfl)),su,wS M C _ _ (z b (.inr rfl)),su];rcases RG kf kr _ _ r B with⟨o,rfl⟩ | ⟨o,E⟩;rw [L D (by omega) _ _ _ ((Fj kf _ _ _ (aA _)).trans o) w];simp;rw [L D (by omega) _ _ _ ((Fj kf _ _ _ (aA _)).trans o) w];simp only [su,aAj,ady,if_false];refine ihl (g+kf.length) kr (j++kf) (by rw [G];simp) (by simp [A]) hrest r ?_;simpa [am2] using E
      cases i
    exact H K.toList 0 ks [] rfl rfl hf r (by simpa using n);cases h
end
section
variable {P:Program}{G:Mem}{ι:K7}{n:Nm}
theorem Yl {t:TypeId}{x y:d9}{r:Bool}(d:(∀k a,x≠.int k a)∧∀s,x≠.str s)(h:∀w,(Op.equal t (o8 ι x) (o8 ι y)).run P w=.ok r w)(w:World):
  (binOp .eql t (o8 ι x) (o8 ι y)).run P w=.ok (.bool r) w∧(binOp .neq t (o8 ι x) (o8 ι y)).run P w=.ok (.bool (!r)) w:=by
 have b:binOp .eql t (o8 ι x) (o8 ι y)=(do pure (.bool (← Op.equal t (o8 ι x) (o8 ι y)))):=by cases x<;>simp_all [o8,binOp]
 have c:binOp .neq t (o8 ι x) (o8 ι y)=(do pure (.bool (!(← Op.equal t (o8 ι x) (o8 ι y))))):=by cases x<;>simp_all [o8,binOp]
 rw [b,c];simp [h]
theorem OY {t e:TypeId}(b:P.underlying t=some (.pointer e)){x y:d9}{r:Bool}(a:qL x y=some r)(d:Nat)(w:World):
  (Op.equalIn (d+1) t (o8 ι x) (o8 ι y)).run P w=.ok r w:=by
 cases x<;>cases y<;>simp only [qL,l7,reduceCtorEq] at a<;>subst a<;>simp [Op.equalIn,run_underlying b,o8]
theorem JY {t e:TypeId}(b:P.underlying t=some (.slice e)){x y:d9}{r:Bool}(a:bR x y=some r)(d:Nat)(w:World):
  (Op.equalIn (d+1) t (o8 ι x) (o8 ι y)).run P w=.ok r w:=by
 cases x<;>cases y<;>simp only [bR,l7,reduceCtorEq] at a<;>subst a<;>simp [Op.equalIn,run_underlying b,o8]
theorem OZ {t k e:TypeId}(b:P.underlying t=some (.map k e)){x y:d9}{r:Bool}(a:OD x y=some r)(d:Nat)(w:World):
  (Op.equalIn (d+1) t (o8 ι x) (o8 ι y)).run P w=.ok r w:=by
 cases x<;>cases y<;>simp only [OD,l7,reduceCtorEq] at a<;>subst a<;>simp [Op.equalIn,run_underlying b,o8]
theorem MG {t:TypeId}{a b:Array TypeId}{c:Bool}(f:P.underlying t=some (.func a b c)){x y:d9}{r:Bool}(e:GQ x y=some r)(d:Nat)(w:World):
  (Op.equalIn (d+1) t (o8 ι x) (o8 ι y)).run P w=.ok r w:=by
 cases x<;>cases y<;>simp only [GQ,l7,reduceCtorEq] at e<;>subst e<;>simp [Op.equalIn,run_underlying f,o8]
theorem JZ {t:TypeId}{c:Array (String×TypeId)}(b:P.underlying t=some (.interface c)){x y:d9}{r:Bool}(a:fC x y=some r)(d:Nat)(w:World):
  (Op.equalIn (d+1) t (o8 ι x) (o8 ι y)).run P w=.ok r w:=by
 cases x<;>cases y<;>simp only [fC,l7,reduceCtorEq] at a<;>subst a<;>simp [Op.equalIn,run_underlying b,o8]
theorem MH {c:Bool}{t:TypeId}{k:Gs}(a:Yf P c t=some k){x y:d9}{r:Bool}(b:vU k x y=some r)(d:Nat)(j:10<=d+1)(w:World):
  (Op.equalIn (d+1) t (o8 ι x) (o8 ι y)).run P w=.ok r w:=by
 simp only [Yf] at a;cases hu:P.underlying t with
 | none=>simp [hu] at a
 | some u=>
  rw [hu] at a;cases u<;>try (simp at a;done)
  simp only [l7] at a;subst a;exact BZ hu b d w;simp only [l7] at a;subst a;exact wT hu b d w;simp only [l7] at a;subst a;exact Fp hu b d w;simp only [l7] at a;subst a;exact OY hu b d w;simp only [l7] at a;subst a;exact JY hu b d w;simp only [l7] at a;subst a;exact OZ hu b d w;rename_i o;simp only at a;cases hf:iB P 10 t with
  | none=>simp [hf] at a
  | some ks=>simp only [hf] at a;split at a;cases a;obtain⟨l,rfl,g⟩:=je b;obtain⟨m,rfl,h⟩:=je g;obtain⟨f,e,n,p,i⟩:=KA (P:=P) (ι:=ι) 10 t ks hf;rw [qR hu] at e;cases e;have:=i (d+1) j l m r h w;simpa [mkV,o8] using this;cases a
  simp only [l7] at a;subst a;exact MG hu b d w;simp only at a;split at a;cases a;exact JZ hu b d w;cases a
theorem Fq {c:Bool}{t:TypeId}{k:Gs}(b:Yf P c t=some k){x y:d9}{r:Bool}(a:vU k x y=some r)(w:World):
  (Op.equal t (o8 ι x) (o8 ι y)).run P w=.ok r w:=MH b a 9999 (by omega) w
theorem Ym {c:Bool}{t:TypeId}{k:Gs}(g:Yf P c t=some k)(e:k≠.prim .i)(f:k≠.prim .s){x y:d9}{r:Bool}(d:vU k x y=some r)(w:World):
  (binOp .eql t (o8 ι x) (o8 ι y)).run P w=.ok (.bool r) w∧(binOp .neq t (o8 ι x) (o8 ι y)).run P w=.ok (.bool (!r)) w:=by
 refine Yl ?_ (λw=>Fq g d w) w;cases k<;>first
  | (rename_i p;cases p<;>first
    | exact absurd rfl e
    | exact absurd rfl f
    | (obtain⟨a,b,rfl,rfl,rfl⟩:=kJ d;simp))
  | (obtain⟨l,rfl,_⟩:=je d;simp)
  | (cases x<;>cases y<;>simp [vU,qL,bR,OD,GQ,fC] at d ⊢)
def qU (d:Nat)(e:TypeId)(X Y:Array Value):List Nat->Sem Bool
 | []=>pure true
 | i::l=>do
  if !(← Op.equalIn d e (← part e X (i*1)) (← part e Y (i*1))) then return false
  qU d e X Y l
theorem RH (d:Nat)(e:TypeId)(X Y:Array Value)(l:List Nat):
  (do
   let s ← forIn l ((none,()):Option Bool×Unit) λi _=>do
       let a ← part e X (i*1)
       let b ← part e Y (i*1)
       let r ← Op.equalIn d e a b
       if (!r)=true then pure (ForInStep.done (some false,())) else pure (ForInStep.yield (none,()))
   match s.fst with
   | some r=>pure r
   | none=>pure true:Sem Bool)=qU d e X Y l:=by
 induction l with
 | nil=>simp [qU]
 | cons f l ih=>rw [azV];simp only [qU];rw [← ih];simp only [bind_assoc];congr 1;funext a;congr 1;funext b;congr 1;funext r;cases r<;>simp
theorem Ka {t e:TypeId}{k:Nat}(h:P.underlying t=some (.array k e))(hs:eX P e=some 1)(X Y:Array Value)(d:Nat)(w:World):
  (Op.equalIn (d+1) t (.agg X) (.agg Y)).run P w=(qU d e X Y (List.range k)).run P w:=by
 simp only [Op.equalIn,M0,run_underlying h,su,run_sizeOf hs];rw [Std.Legacy.Range.forIn_eq_forIn_range'];rw [← RH,azQ];simp;congr 1;funext a w';obtain⟨o,u⟩:=a;cases o<;>rfl
theorem VX {e:TypeId}{kk:IntKind}(m:P.underlying e=some (.int kk))(hs:eX P e=some 1)(a b:List d9)(d:Nat)(w:World):∀(j off:Nat) (r:Bool),
  dX (List.replicate j .i) (a.drop off) (b.drop off)=some r->(qU (d+1) e (A8 ι a).toArray (A8 ι b).toArray (List.range' off j)).run P w=.ok r w:=by
 intro j;induction j with
 | zero=>intro off r h;rw [List.replicate_zero,mM] at h;cases h;simp [qU]
 | succ j ih=>
  intro off r h;rw [List.replicate_succ] at h;obtain⟨x,xs,y,ys,s,k,l,p,c⟩:=kL h;have t:off<a.length:=by have:=congrArg List.length k;simp at this;omega
  have u:off<b.length:=by have:=congrArg List.length l;simp at this;omega
  have f:=wS (P:=P) (ι:=ι) (Hz m) hs a off (λ_=>⟨t,rfl⟩) w;have g:=wS (P:=P) (ι:=ι) (Hz m) hs b off (λ_=>⟨u,rfl⟩) w;rw [k] at f;rw [l] at g;have f:(part e (A8 ι a).toArray off).run P w=.ok (o8 ι x) w:=f;have g:(part e (A8 ι b).toArray off).run P w=.ok (o8 ι y) w:=g;have q:=wT (ι:=ι) m p d w;rw [List.range'_succ];simp only [qU,aeN,M0,f,g,q,su];cases s with
  | false=>have c:some false=some r:=c;cases c;simp
  | true=>
   have c:dX (List.replicate j .i) xs ys=some r:=c;simp only [aAj,ady,if_false];refine ih (off+1) r ?_;have n:a.drop (off+1)=xs:=by rw [← am2,k];rfl
   have o:b.drop (off+1)=ys:=by rw [← am2,l];rfl
   rw [n,o];exact c
theorem Eh {t:TypeId}{k:Gs}(h:ae0 P t=some k):∃n e kk,P.underlying t=some (.array n e)∧P.underlying e=some (.int kk)∧eX P e=some 1∧P.eqGuardType P.depth t=false∧k=.flat (List.replicate n .i):=by unfold ae0 at h;split at h;rename_i n e c;split at h;rename_i kk b;split at h;rename_i a;cases h;exact⟨n,e,kk,c,b,a.1,a.2,rfl⟩;cases h;cases h;cases h
theorem AA {c:Bool}{t:TypeId}{k:Gs}(h:Yg P c t=some k):Yf P c t=some k∨ae0 P t=some k:=by unfold Yg at h;split at h;rename_i b a;cases h;exact .inl a;exact .inr h
theorem VY {c:Bool}{t:TypeId}{k:Gs}(a:Yg P c t=some k)(b:k≠.prim .i)(d:k≠.prim .s){x y:d9}{r:Bool}(g:vU k x y=some r)(w:World):
  (binOp .eql t (o8 ι x) (o8 ι y)).run P w=.ok (.bool r) w∧(binOp .neq t (o8 ι x) (o8 ι y)).run P w=.ok (.bool (!r)) w:=by
 rcases AA a with a | a;exact Ym a b d g w;obtain⟨n,e,q,p,f,h,_,rfl⟩:=Eh a;obtain⟨l,rfl,j⟩:=je g;obtain⟨m,rfl,o⟩:=je j;refine Yl (by simp) (λw=>?_) w;have:Op.equal t (o8 ι (.agg l)) (o8 ι (.agg m))=Op.equalIn (9999+1) t (.agg (A8 ι l).toArray) (.agg (A8 ι m).toArray):=by simp [o8,Op.equal,Op.maxDepth]
 rw [this,Ka p h,azQ];exact VX f h l m 9998 w n 0 r (by simpa using o)
end
section
variable {P:Program}{G:Mem}{ι:K7}{n:Nm}{slots:List Nat}{done:List (Option Nat)}{ls:List d9}{env:T d9}{a:Act}
def Gives (P:Program)(ρ:Operand->Value)(op:Op)(v:Value):Prop:=
 ∀(o:Oper),o.op=op->∀w,(execOp ρ o).run P w=.ok (.value v) w
theorem nZ {a:BinOp}(b:a≠.eql)(c:a≠.neq){t:TypeId}{x y:Operand}{u v:Value}{w:World}:(eqGuard a t x y u v).run P w=.ok () w:=by unfold eqGuard;cases a<;>first | exact absurd rfl b | exact absurd rfl c | simp
theorem Pb {a:BinOp}{t:TypeId}{x y:Operand}{u v:Array Value}{w:World}(h:P.eqGuardType P.depth t=false):(eqGuard a t x y (.agg u) (.agg v)).run P w=.ok () w:=by unfold eqGuard;cases a<;>simp [h]
theorem tC {b:BinOp}{t:TypeId}{x y:Operand}{e:TypeId}{a:Operand->Value}{v:Value}
  (c:∀w,(eqGuard b t x y (a x) (a y)).run P w=.ok () w) (h:∀w,(binOp b t (a x) (a y)).run P w=.ok v w):Gives P a (.binOp b t x y e) v:=by
 intro o d w;simp [execOp,d,c,h]
theorem bind_eq {α c:Type}{o:Option α}{f:α->Option c}{b:c}(h:(o >>= f)=some b):∃a,o=some a∧f a=some b:=by
 cases o with
 | none=>cases h
 | some a=>exact⟨a,rfl,h⟩
theorem Yn (p:Nat×Nat×OF)(ps:List (Nat×Nat×OF))(ls:List d9)(env:T d9)(cs:List d9):
  lay (p::ps) ls env cs=bi (Nat.beq (len' (p.2.2 ls env).cells) p.2.1) (bi (Nat.ble (Nat.add p.1 p.2.1) (len' cs)) (lay ps ls env (nI p.1 (p.2.2 ls env).cells cs)) none) none:=rfl
theorem Ei (vs:List Value):∀(A:Array Value) (off i:Nat),off+i+vs.length<=A.size->
  ((vs.zipIdx i).foldl (λcs (p:Value×Nat)=>cs.setIfInBounds (off+p.2) p.1) A).toList=A.toList.take (off+i)++(vs++A.toList.drop (off+i+vs.length)):=by
 induction vs with
 | nil=>intro A off i h;simp
 | cons v vs ih=>
  intro A off i h;simp only [List.zipIdx_cons,at0,adk] at h ⊢;rw [ih _ _ _ (by simp;omega)];simp only [Array.toList_setIfInBounds];have a:off+i<A.toList.length:=by simp;omega
  rw [List.take_set,show off+(i+1)=off+i+1 from by omega];rw [List.drop_set_of_lt (by omega)];rw [adi a,amW _ _ (by simp;omega)];simp [show min (off+i) A.size=off+i from by simp at a;omega];congr 1;omega
theorem Ej (s:St P ι n slots done ls env a.tmps)(d:Nat->Option (Nat×Nat)):∀(parts:List (Nat×Operand)) (ps:List (Nat×Nat×V9)),
  wL P slots done d parts=some ps->∀(cs r:List d9),dI n cs->lay (Eb ps) ls env cs=some r->
   Instr.fill d (A8 ι cs).toArray (parts.map λp=>(p.1,a.eval p.2))=some (A8 ι r).toArray∧dI n r∧r.length=cs.length:=by
 intro parts;induction parts with
 | nil=>intro ps h cs r c f;simp only [wL,l7] at h;subst h;cases f;exact⟨rfl,c,rfl⟩
 | cons p parts ih=>
  intro ps h cs r c f;simp only [wL] at h;split at h;rename_i b k x j C D g;cases h;simp only [Eb,Yn] at f;obtain⟨o,f⟩:=I8 f;obtain⟨q,f⟩:=I8 f;obtain⟨t,u⟩:=D9 s D;simp only [K4] at o q;have l:=rW o;have A:b+k<=cs.length:=M8 q;have i:b+((H9 x ls env).cells).length<=cs.length:=by omega
  have m:=BQ b ((H9 x ls env).cells) cs i;obtain⟨w,y,z⟩:=ih j g _ r (by
   rw [eH] at c ⊢;intro v e;rw [nL b _ cs (by omega)] at e;simp only [O4] at e;rcases e with e | e | e;exact c v (adv e);exact eH.1 (BS u) v e;exact c v (afP e)) f
  refine⟨?_,y,by rw [z,m]⟩;simp only [adU,Instr.fill,C];rw [t,qc];simp only [akW,bF];rw [if_neg (by simp [l];omega)];rw [← w];congr 1;have B:=Ei (A8 ι (H9 x ls env).cells) (A8 ι cs).toArray b 0 (by simp;omega);apply aA9.1;rw [← Array.foldl_toList];simp only [Array.toList_zipIdx];refine B.trans ?_;simp only [dJ,nL b _ cs (show b<=cs.length by omega),amR,amO,aAh,adN,adw];cases h
theorem Kc:∀(fs:List Field) (pl:List (Nat×Nat)),placesOf P fs=some pl->∀w,
  ((fs.mapM λf=>do pure (f.offset,← sizeOf f.type):Sem (List (Nat×Nat)))).run P w=.ok pl w:=by
 intro fs;induction fs with
 | nil=>intro pl h w;simp only [placesOf,l7] at h;subst h;simp
 | cons f fs ih=>intro pl h w;simp only [placesOf] at h;split at h;rename_i s r b c;cases h;have a:=ih r c w;simp only [bind_pure_comp] at a;simp [aCL,run_sizeOf b,a];cases h
theorem Pd (s:St P ι n slots done ls env a.tmps){t:TypeId}{b:Array (Nat×Operand)}{o:BJ}(h:Av P slots done t b.toList=some o):
  ∃zero ps,o=.p (.build zero ps)∧∀v,oQ (.build zero ps) ls env=some v->v.lt n∧Gives P a.eval (.build t b) (o8 ι v):=by
 simp only [Av] at h;have j:(b.map λp=>(p.1,a.eval p.2)).toList=b.toList.map λp=>(p.1,a.eval p.2):=by simp
 split at h;rename_i zero c q G;split at h;rename_i I E;split at h;rename_i ps l;cases h;refine⟨zero,ps,rfl,λv H=>?_⟩;obtain⟨r,A,B⟩:=D7 H;cases B;obtain⟨z,d,e,g⟩:=gM (P:=P) (w:=default) q ι;obtain⟨u,y,_⟩:=Ej s _ b.toList ps l zero r (g n) A;refine⟨y,λo D w=>?_⟩;obtain⟨z,d,e,g⟩:=gM (P:=P) (w:=w) q ι;simp only [execOp,D,Instr.build,M0,d,su,run_underlying G,e];have K:=Kc (P:=P) c.toList I E w;have C:(c.mapM λf=>do pure (f.offset,← sizeOf f.type):Sem (Array (Nat×Nat)))=Functor.map List.toArray (c.toList.mapM λf=>do pure (f.offset,← sizeOf f.type):Sem (List (Nat×Nat))):=by rw [← List.mapM_toArray]
 rw [C];simp only [Sem.run_map,K,su,j];have m:(λx:Nat=>I.toArray[x]?)=λi:Nat=>I[i]?:=by funext i;simp
 rw [m,u];simp [o8];cases h;cases h;rename_i zero k J q G;split at h;rename_i L F;split at h;rename_i ps l;cases h;refine⟨zero,ps,rfl,λv H=>?_⟩;obtain⟨r,A,B⟩:=D7 H;cases B;obtain⟨z,d,e,g⟩:=gM (P:=P) (w:=default) q ι;obtain⟨u,y,_⟩:=Ej s _ b.toList ps l zero r (g n) A;refine⟨y,λo D w=>?_⟩;obtain⟨z,d,e,g⟩:=gM (P:=P) (w:=w) q ι;simp only [execOp,D,Instr.build,M0,d,su,run_underlying G,e,run_sizeOf F,j];rw [u];simp [o8];cases h;cases h;cases h
end
end
end Go.AM
