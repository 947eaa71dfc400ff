/- A part of an evaluator for the model, proved sound: what it answers holds of the model; it speaks of every program, no condition. -/
import GoSem.Core.Code
import GoSem.Core.Program
import GoSem.Core.View
import GoSem.Core.World
import GoSem.Core.Region
import GoSem.Core.Layout
import GoSem.Op.Equal
import Derived.CallsIn
import Derived.Laws.Sem
import GoSem.Dispatch
import Derived.Laws.Strings
set_option linter.all false
namespace Go.AM
open Go
abbrev aA:=@Nat.le_refl
abbrev aP:=@Nat.lt_of_lt_of_le
abbrev cB:=@List.getElem?_eq_getElem
abbrev gB:=@List.getElem?_eq_some_iff
abbrev lM:=@Option.some.injEq
abbrev l7:=@Nat.eq_of_beq_eq_true
abbrev nA:=@List.mem_singleton
abbrev nM:=@Nat.le_trans
abbrev qb:=@Nat.ble_eq_true_of_le
abbrev ql:=@Result.andThen_ok
abbrev rW:=@Bool.and_eq_true
abbrev su:=@Option.some.inj
abbrev wu:=@Array.getElem?_eq_some_iff
abbrev zu:=@List.drop_of_length_le
abbrev D5:=@Sem.run_bind
abbrev LA:=@Nat.le_of_ble_eq_true
abbrev M0:=@List.drop_eq_getElem_cons
abbrev M8:=@List.getElem_mem
abbrev M9:=@List.getD_eq_getElem?_getD
abbrev O0:=@Array.getD_eq_getD_getElem?
abbrev O4:=@List.take_succ_eq_append_getElem
abbrev O5:=@List.mem_append
abbrev O6:=@Nat.blt_eq
abbrev O7:=@List.mem_of_getElem?
abbrev O8:=@Array.getElem?_setIfInBounds_ne
abbrev O9:=@List.mem_cons
abbrev Q5:=@Array.getElem?_setIfInBounds_self_of_lt
abbrev S9:=@Nat.add_assoc
abbrev U0:=@Nat.mul_le_mul_right
abbrev U1:=@Option.bind_some
abbrev W9:=@Nat.zero_add
abbrev aaD:=@Bool.eq_false_iff
abbrev aaE:=@List.nil_append
abbrev aaF:=@List.take_of_length_le
abbrev aa6:=@Sem.run_pure
abbrev abm:=@List.length_eq_zero_iff
abbrev abR:=@List.drop_zero
abbrev abY:=@List.length_pos_iff
abbrev acp:=@List.length_append
abbrev acr:=@List.mem_cons_of_mem
abbrev acs:=@List.getElem?_map
abbrev acu:=@List.getElem?_of_mem
abbrev acv:=@List.getElem?_append_left
abbrev acw:=@Array.getElem?_eq_getElem
abbrev acy:=@Nat.add_zero
abbrev acz:=@Nat.mod_two_eq_zero_or_one
abbrev acA:=@List.length_cons
abbrev acB:=@Bool.eq_iff_iff
abbrev acE:=@List.mem_map
abbrev acF:=@List.mem_of_mem_take
abbrev acG:=@Bool.false_eq_true
abbrev acH:=@List.append_nil
abbrev acI:=@List.all_eq_true
abbrev acJ:=@Array.toArray_toList
abbrev acK:=@Nat.beq_refl
abbrev acL:=@Nat.zero_mul
abbrev acM:=@List.getElem?_append_right
abbrev acN:=@Option.map_some
abbrev acO:=@Nat.succ_mul
abbrev acQ:=@List.mem_of_mem_drop
abbrev adG:=@Nat.mul_one
abbrev adH:=@Nat.zero_le
abbrev adI:=@List.getElem_append_left
abbrev adJ:=@List.getElem?_cons_succ
abbrev adK:=@Nat.mod_lt
abbrev adL:=@Nat.mul_comm
abbrev adM:=@List.mem_filter
abbrev adN:=@List.length_map
abbrev adO:=@Nat.mod_eq_of_lt
abbrev adP:=@List.getElem?_take
abbrev adQ:=@List.cons_append
abbrev adR:=@List.mem_cons_self
abbrev adS:=@Nat.add_mul
abbrev adT:=@List.map_cons
abbrev adU:=@List.getElem?_inj
abbrev adV:=@Option.map_eq_some_iff
abbrev adW:=@Bool.true_and
abbrev adX:=@List.length_take
abbrev adY:=@List.mem_range
abbrev adZ:=@List.getElem?_toArray
abbrev ae0:=@List.mem_or_eq_of_mem_set
abbrev ae1:=@Nat.le_of_lt
abbrev ae2:=@Nat.min_eq_left
abbrev afj:=@List.map_append
abbrev agu:=@List.mem_append_left
abbrev agL:=@List.take_length
abbrev agM:=@Calls.mono
abbrev agS:=@Nat.pow_succ
abbrev agT:=@Array.ext_getElem?
abbrev agU:=@Nat.lt_or_ge
abbrev agV:=@List.mem_append_right
abbrev agW:=@Nat.le_div_iff_mul_le
abbrev aiL:=@Bool.or_eq_true
abbrev ajv:=@List.getElem?_eq_none
abbrev ajw:=@Ne.symm
abbrev ajI:=@List.size_toArray
abbrev ajJ:=@Nat.pow_le_pow_right
abbrev ajK:=@List.drop_drop
abbrev akx:=@List.take_zero
abbrev ald:=@List.not_mem_nil
abbrev alm:=@List.length_drop
abbrev aln:=@Nat.le_of_not_lt
abbrev alQ:=@List.getElem_of_mem
abbrev alS:=@Option.bind_eq_some_iff
abbrev alT:=@Nat.lt_irrefl
abbrev al5:=@List.cons.inj
abbrev amA:=@List.getElem?_drop
abbrev amB:=@UInt8.toNat_inj
abbrev amC:=@Array.getElem?_eq_none
abbrev amD:=@List.length_eq_one_iff
abbrev amE:=@List.getElem?_set
abbrev amF:=@List.length_filter_le
abbrev amG:=@List.set_append_right
abbrev amH:=@List.filter_cons
abbrev amR:=@Nat.div_eq_of_lt
abbrev arP:=@Bool.false_or
abbrev asg:=@List.map_congr_left
abbrev as2:=@List.extract_eq_take_drop
abbrev as4:=@List.getElem?_zip_eq_some
abbrev at1:=@List.length_nil
abbrev axt:=@Option.map_none
abbrev axu:=@Nat.div_add_mod
abbrev axv:=@List.foldl_cons
abbrev axO:=@Nat.lt_of_lt_of_eq
abbrev ayh:=@Nat.add_comm
abbrev ayY:=@Nat.gcd_comm
abbrev azC:=@Nat.mul_div_cancel
abbrev azE:=@Array.getElem?_replicate
abbrev azF:=@Nat.gcd_zero_right
abbrev azG:=@Int.negSucc_eq
abbrev azH:=@UInt8.toNat_lt
abbrev azI:=@List.filter_cons_of_pos
abbrev azJ:=@List.getElem?_cons_zero
abbrev azK:=@List.filter_cons_of_neg
abbrev azL:=@Bool.not_eq_true'
abbrev azM:=@List.flatten_cons
abbrev azN:=@Nat.lt_trichotomy
abbrev azS:=@List.set_eq_take_append_cons_drop
abbrev azT:=@Nat.gcd_rec
abbrev azU:=@List.filter_eq_nil_iff
abbrev azV:=@Array.setIfInBounds_eq_of_size_le
abbrev azW:=@Array.getElem?_push_lt
abbrev aAA:=@List.map_take
abbrev aA5:=@Bool.and_eq_false_iff
abbrev aBX:=@List.take_append_drop
abbrev aCd:=@List.mem_iff_getElem
abbrev aCe:=@Bool.or_eq_false_iff
abbrev aCf:=@List.range_eq_range'
abbrev aCg:=@List.forIn_cons
abbrev aCh:=@List.nodup_cons
abbrev aCi:=@Int.le_trans
abbrev aCj:=@List.eq_nil_of_length_eq_zero
abbrev aCk:=@Nat.mul_le_mul_left
abbrev aCl:=@List.filter_eq_self
abbrev aCm:=@Nat.mul_le_mul
abbrev aCn:=@Array.forIn_toList
abbrev aCo:=@Nat.one_le_div_iff
abbrev aCp:=@Nat.lt_or_eq_of_le
abbrev aCq:=@Nat.add_sub_cancel
abbrev aCr:=@Nat.pos_of_ne_zero
abbrev aCs:=@Int.tdiv_eq_ediv_of_nonneg
abbrev aCt:=@List.map_drop
abbrev aCu:=@Bool.not_true
abbrev aCv:=@Array.getElem?_append_left
abbrev aCw:=@List.getElem_take
abbrev aCx:=@List.append_assoc
abbrev aCy:=@Nat.le_succ_of_le
abbrev aCz:=@Int.toNat_natCast
abbrev aCA:=@List.length_range
abbrev aCB:=@List.getElem_append_right
abbrev aCC:=@List.exists_mem_of_ne_nil
abbrev aCD:=@Array.mapM_eq_mapM_toList
abbrev aCE:=@List.pairwise_iff_getElem
abbrev aCF:=@Classical.byContradiction
abbrev aCG:=@List.mem_reverse
abbrev aCH:=@List.map_nil
abbrev aCI:=@Array.toList_map
abbrev aCJ:=@Int.le_of_lt
abbrev aCK:=@Nat.sub_self
abbrev aCL:=@Array.toList_inj
abbrev aCM:=@List.getElem_set
abbrev aCN:=@List.map_map
abbrev aCO:=@Nat.min_eq_right
abbrev aCP:=@Nat.add_sub_cancel_left
abbrev aCQ:=@Nat.min_le_left
abbrev aCR:=@Nat.mul_add_mod
abbrev aCT:=@Int.le_refl
abbrev aCU:=@Bool.false_and
abbrev aCV:=@List.mapM_cons
end Go.AM
namespace Go.AM
open Go
noncomputable section
inductive T (α:Type) where
 | e:T α
 | nd:T α->α->T α->T α
inductive d9 where
 | undef
 | bool (b:Bool)
 | int (k:IntKind) (n:Int)
 | str (s:List UInt8)
 | nilPtr
 | ptr (id off:Nat)
 | nilSlice
 | slice (id off len cap:Nat)
 | sliceU (id off len es:Nat)
 | nilMap
 | map (id:Nat)
 | nilFunc
 | func (fn:Fn) (first captured:List d9)
 | nilIface
 | iface (t:TypeId) (v:d9)
 | agg (l:List d9)
 | tuple (l:List d9)
 | aY (v:d9)
 deriving Inhabited
def d9.cells:d9->List d9
 | .agg l=>l
 | v=>[v]
inductive aO where
 | loc (k:Nat)
 | slot (j:Nat)
 | con (v:d9)
 deriving Inhabited
inductive PK where
 | i | b | s
 deriving Inhabited,DecidableEq
inductive Ij where
 | prim (k:PK) | flat (ks:List PK) | ptr | slice | map | func | iface
 deriving Inhabited,DecidableEq
inductive Zc where
 | mov (x:aO)
 | pick (c a b:aO)
 | build (zero:List d9) (parts:List (Nat×Nat×aO))
 | nilCheck (x:aO)
 | ib (op:BinOp) (x y:aO)
 | eq (neg:Bool) (k:Ij) (x y:aO)
 | not (x:aO)
 | neg (x:aO)
 | conv (k:IntKind) (x:aO)
 | mkIface (t:TypeId) (x:aO)
 | mkFunc (fn:Fn) (first captured:List aO)
 | slStr (x:aO) (lo hi:Option aO)
 | slArr (es n:Nat) (x:aO) (lo hi:Option aO)
 | fAddr (off:Nat) (x:aO)
 | fld (off:Nat) (size:Option Nat) (x:aO)
 | iAddr (es:Nat) (x i:aO)
 | iAddrArr (es n:Nat) (x i:aO)
 | iArr (es n:Nat) (size:Option Nat) (x i:aO)
 | iStr (x i:aO)
 | ext (x:aO) (i:Nat)
 | len (x:aO)
 | lenS (x:aO)
 | cap (x:aO)
 | mm (max:Bool) (x:aO) (xs:List aO)
 | assert (t:TypeId) (zero:d9) (ok:Bool) (x:aO)
 deriving Inhabited
inductive SV where
 | load (size:Option Nat) (a:aO)
 | look (kk:Ij) (zero:d9) (ok:Bool) (m k:aO)
 | lenM (x:aO)
 | bytesStr (x:aO)
 | entry (it:aO)
 deriving Inhabited
inductive Xi where
 | alloc (zero:List d9)
 | box (x:aO)
 | buildSlice (es len:Nat) (zero:List d9) (parts:List (Nat×Nat×aO))
 | mkMap
 | mkSlice (es bytes:Nat) (zero:List d9) (len cap:aO)
 | strBytes (x:aO)
 | sl (es:Nat) (x:aO) (lo hi:Option aO)
 deriving Inhabited
inductive YI where
 | store (size:Nat) (a x:aO)
 | mapSet (kk:Ij) (m k x:aO)
 | range (x:aO)
 | next (it:aO)
 | app (es:Nat) (zeros:Bool) (zero:List d9) (bytes:Nat) (s x:aO)
 | copy (es:Nat) (d s:aO)
 | clear (zero:List d9) (x:aO)
 | call (f:FuncId) (args:List aO)
 | callv (f:aO) (args:List aO)
 | defer (f:aO) (args:List aO)
 | panic (x:aO)
 | recover
 | bad
 deriving Inhabited
inductive CY where
 | p (o:Zc)
 | r (o:SV)
 | a (o:Xi)
 | e (o:YI)
 deriving Inhabited
structure Inst where
 op:CY
 dst:Option Nat
 guard:Option (aO×Bool)
 deriving Inhabited
inductive bE where
 | skip
 | reg (ops:List Inst)
 | dreg (ids:Nat) (ops:List (Nat×Inst))
 | seq (a b:bE)
 | cond (c:aO) (thn els:bE)
 | block (id:Nat) (body:bE)
 | loop (body:bE)
 | exit (id:Nat)
 | ret
 | rangeFunc (f:aO) (params:List (Option Nat)) (assign body:bE)
 deriving Inhabited
inductive bP where
 | normal
 | exit (id:Nat)
 | ret
 deriving Inhabited,DecidableEq
inductive Mk where
 | c (id:Nat)
 | d (f:d9) (args:List d9)
 deriving Inhabited
inductive qQ where
 | tmp (j:Nat)
 | cell (j:Nat) (size:Option Nat)
 deriving Inhabited
structure AFn where
 nargs:Nat
 args:List (Option Nat)
 nslots:Nat
 results:List qQ
 body:bE
 deriving Inhabited
def jX:Zc->List aO
 | .mov x=>[x]
 | .pick a b c=>[a,b,c]
 | .build _ ps=>ps.map (·.2.2)
 | .nilCheck x=>[x]
 | .ib _ x y=>[x,y]
 | .eq _ _ x y=>[x,y]
 | .not x=>[x]
 | .neg x=>[x]
 | .conv _ x=>[x]
 | .mkIface _ x=>[x]
 | .mkFunc _ a b=>a++b
 | .slStr x a b=>x::(a.toList++b.toList)
 | .slArr _ _ x a b=>x::(a.toList++b.toList)
 | .fAddr _ x=>[x]
 | .fld _ _ x=>[x]
 | .iAddr _ x i=>[x,i]
 | .iAddrArr _ _ x i=>[x,i]
 | .iArr _ _ _ x i=>[x,i]
 | .iStr x i=>[x,i]
 | .ext x _=>[x]
 | .len x=>[x]
 | .lenS x=>[x]
 | .cap x=>[x]
 | .mm _ x xs=>x::xs
 | .assert _ _ _ x=>[x]
def II:SV->List aO
 | .load _ a=>[a]
 | .look _ _ _ m x=>[m,x]
 | .lenM x=>[x]
 | .bytesStr x=>[x]
 | .entry x=>[x]
def opsL:Xi->List aO
 | .alloc _=>[]
 | .box x=>[x]
 | .buildSlice _ _ _ ps=>ps.map (·.2.2)
 | .mkMap=>[]
 | .mkSlice _ _ _ l c=>[l,c]
 | .strBytes x=>[x]
 | .sl _ x a b=>x::(a.toList++b.toList)
def opsE:YI->List aO
 | .store _ a x=>[a,x]
 | .mapSet _ a b c=>[a,b,c]
 | .range x=>[x]
 | .next x=>[x]
 | .app _ _ _ _ s x=>[s,x]
 | .copy _ d s=>[d,s]
 | .clear _ x=>[x]
 | .call _ a=>a
 | .callv g a=>g::a
 | .defer g a=>g::a
 | .panic x=>[x]
 | .recover=>[]
 | .bad=>[]
def IJ:CY->List aO
 | .p o=>jX o
 | .r o=>II o
 | .a o=>opsL o
 | .e o=>opsE o
variable {α β γ:Type}
def ob (o:Option α)(k:α->Option β):Option β:=Option.rec none (λa=>k a) o
def bi (b:Bool)(x y:α):α:=Bool.rec y x b
def T.get (t:T α):Nat->Option α:=
 T.rec (λ_=>none) (λ_ x _ ihl ihr i=>Nat.rec (some x) (λj _=>Nat.rec (ihl (Nat.div j 2)) (λ_ _=>ihr (Nat.div j 2)) (Nat.mod j 2)) i) t
def T.put (t:T α):Nat->α->T α:=
 T.rec (λ_ x=>.nd .e x .e) (λl y r ihl ihr i x=>Nat.rec (.nd l x r) (λj _=>Nat.rec (.nd (ihl (Nat.div j 2) x) y r) (λ_ _=>.nd l y (ihr (Nat.div j 2) x)) (Nat.mod j 2)) i) t
def T.qR (l:List α):T α->Nat->T α:=
 List.rec (λt _=>t) (λx _ ih t i=>ih (t.put i x) (Nat.succ i)) l
def T.ofList (l:List α):T α:=T.qR l .e 0
def T.slice (t:T α)(n:Nat):Nat->Option (List α):=
 Nat.rec (λ_=>some []) (λ_ ih i=>ob (t.get i) λx=>ob (ih (Nat.succ i)) λxs=>some (x::xs)) n
def T.rep (x:α)(n:Nat):T α->Nat->T α:=
 Nat.rec (λt _=>t) (λ_ ih t i=>ih (t.put i x) (Nat.succ i)) n
def takeN (n:Nat):List α->Option (List α):=
 Nat.rec (λ_=>some []) (λ_ ih l=>List.rec none (λx xs _=>ob (ih xs) λr=>some (x::r)) l) n
def gQ (n:Nat):List α->List α:=
 Nat.rec (λl=>l) (λ_ ih l=>List.rec [] (λ_ xs _=>ih xs) l) n
def vJ (n:Nat):List α->Option α:=
 Nat.rec (λl=>List.rec none (λx _ _=>some x) l) (λ_ ih l=>List.rec none (λ_ xs _=>ih xs) l) n
def nth (n:Nat):List d9->d9:=
 Nat.rec (λl=>List.rec d9.undef (λx _ _=>x) l) (λ_ ih l=>List.rec d9.undef (λ_ xs _=>ih xs) l) n
def cZ (l m:List α):List α:=List.rec m (λx _ ih=>x::ih) l
def len' (l:List α):Nat:=List.rec 0 (λ_ _ ih=>Nat.succ ih) l
def pF (n:Nat)(vs:List α):List α->List α:=
 Nat.rec (λl=>cZ vs (gQ (len' vs) l)) (λ_ ih l=>List.rec [] (λx xs _=>x::ih xs) l) n
def pG (v:d9)(k:Nat->Nat->Option β):Option β:=match v with
 | .ptr i o=>k i o
 | _=>none
def xD (v:d9)(k:IntKind->Int->Option β):Option β:=match v with
 | .int a b=>k a b
 | _=>none
def qU (v:d9)(k:Bool->Option β):Option β:=match v with
 | .bool b=>k b
 | _=>none
def xg (v:d9)(k:List UInt8->Option β):Option β:=match v with
 | .str s=>k s
 | _=>none
def EX (v:d9)(k:List d9->Option β):Option β:=match v with
 | .agg l=>k l
 | _=>none
def PG (v:d9)(k:List d9->Option β):Option β:=match v with
 | .tuple l=>k l
 | _=>none
def AR (v:d9)(nl:Option β)(k:Nat->Option β):Option β:=match v with
 | .nilMap=>nl
 | .map i=>k i
 | _=>none
def xE (v:d9)(nl:Option β)(k:Nat->Nat->Nat->Nat->Option β)(u:Nat->Nat->Nat->Nat->Option β):Option β:=match v with
 | .nilSlice=>nl
 | .slice a b c d=>k a b c d
 | .sliceU a b c d=>u a b c d
 | _=>none
def PI (v:d9)(k:Fn->List d9->List d9->Option β):Option β:=match v with
 | .func f a b=>k f a b
 | _=>none
def Zd (n:Int)(k:Nat->Option β):Option β:=match n with
 | .ofNat m=>k m
 | .negSucc _=>none
def jL (v:d9)(k:Nat->Option β):Option β:=xD v λ_ n=>Zd n k
inductive Z6 where
 | void
 | dead
 | cells (rs n:Nat) (rows:T (List d9))
 | map (es:List (d9×d9))
 | iter (m:Option Nat) (since:Nat) (seen:List Nat)
 | tail (parent:Nat)
 | loop (st:LoopState) (pend:Option bP) (env:T d9) (params:List (Option Nat)) (assign body:bE)
 | deferred
 deriving Inhabited
structure Mem where
 t:T Z6
 nx:Nat
 lim:Nat
def Mem.get (m:Mem)(i:Nat):Option Z6:=m.t.get i
def Mem.new (m:Mem)(b:Z6):Mem:=⟨m.t.put m.nx b,Nat.succ m.nx,m.lim⟩
def Mem.set (m:Mem)(i:Nat)(b:Z6):Mem:=⟨m.t.put i b,m.nx,m.lim⟩
def aU (b:Option Z6)(k:Nat->Nat->T (List d9)->Option β):Option β:=match b with
 | some (.cells rs n rows)=>k rs n rows
 | _=>none
def YJ (b:Option Z6)(k:List (d9×d9)->Option β):Option β:=match b with
 | some (.map es)=>k es
 | _=>none
def cell1 (rs n:Nat)(rows:T (List d9))(off:Nat):Option d9:=
 Bool.rec none (Option.rec none (λrow=>vJ (Nat.mod off rs) row) (rows.get (Nat.div off rs))) (Nat.blt (Nat.div off rs) n)
def qc (rs n:Nat)(rows:T (List d9))(off k:Nat):Option (List d9):=
 bi (Nat.blt (Nat.div off rs) n) (ob (rows.get (Nat.div off rs)) λrow=>
  bi (Nat.beq (Nat.mod off rs) 0) (bi (Nat.beq k rs) (some row) (takeN k row)) (takeN k (gQ (Nat.mod off rs) row))) none
def J7 (rs n:Nat)(rows:T (List d9))(k:Nat):Nat->Option (List d9):=
 Nat.rec (λ_=>some []) (λ_ ih off=>ob (cell1 rs n rows off) λv=>ob (ih (Nat.succ off)) λl=>some (v::l)) k
def bX (rs n:Nat)(rows:T (List d9))(off:Nat)(vs:List d9):Option (T (List d9)):=
 bi (Nat.blt (Nat.div off rs) n) (ob (rows.get (Nat.div off rs)) λrow=>
  bi (Nat.ble (Nat.add (Nat.mod off rs) (len' vs)) rs) (some (rows.put (Nat.div off rs) (pF (Nat.mod off rs) vs row))) none) none
def kH (rs n:Nat)(vs:List d9):T (List d9)->Nat->Option (T (List d9)):=
 List.rec (λrows _=>some rows) (λv _ ih rows off=>ob (bX rs n rows off [v]) λrows'=>ih rows' (Nat.succ off)) vs
def rowsOf (rs n:Nat):List d9->Option (List (List d9)):=
 Nat.rec (λl=>List.rec (some []) (λ_ _ _=>none) l) (λ_ ih l=>ob (takeN rs l) λr=>ob (ih (gQ rs l)) λrest=>some (r::rest)) n
def A8 (v:d9):Bool:=match v with
 | .undef | .agg _ | .tuple _ | .aY _=>false
 | _=>true
def I7 (l:List d9):Bool:=List.rec true (λv _ ih=>bi (A8 v) ih false) l
def storeAt (m:Mem)(id off:Nat)(vs:List d9)(k:Mem->Option β):Option β:=
 bi (Nat.blt id m.lim) none (bi (I7 vs) (aU (m.get id) λrs n rows=>ob (bX rs n rows off vs) λrows'=>k (m.set id (.cells rs n rows'))) none)
def gI (m:Mem)(id off:Nat)(vs:List d9)(k:Mem->Option β):Option β:=
 List.rec (k m) (λ_ _ _=>bi (Nat.blt id m.lim) none (bi (I7 vs) (aU (m.get id) λrs n rows=>ob (kH rs n vs rows off) λrows'=>k (m.set id (.cells rs n rows'))) none)) vs
abbrev OF:=List d9->T d9->d9
def aS (k:Nat):OF:=λls _=>nth k ls
def L8:OF:=λls _=>List.rec d9.undef (λx _ _=>x) ls
def sj:OF:=λls _=>List.rec d9.undef (λ_ l _=>List.rec d9.undef (λx _ _=>x) l) ls
def jd:OF:=λls _=>List.rec d9.undef (λ_ l _=>List.rec d9.undef (λ_ l _=>List.rec d9.undef (λx _ _=>x) l) l) ls
def sM:OF:=λls _=>List.rec d9.undef (λ_ l _=>List.rec d9.undef (λ_ l _=>List.rec d9.undef (λ_ l _=>List.rec d9.undef (λx _ _=>x) l) l) l) ls
def bg (v:d9):OF:=λ_ _=>v
def gH:T d9->d9:=T.rec .undef (λ_ x _ _ _=>x)
def gL (g:T d9->d9):T d9->d9:=T.rec .undef (λl _ _ _ _=>g l)
def gR (g:T d9->d9):T d9->d9:=T.rec .undef (λ_ _ r _ _=>g r)
def G7 (g:T d9->d9):OF:=λ_ env=>g env
def way:Nat->Nat->T d9->d9
 | 0,_=>λ_=>.undef
 | _+1,0=>gH
 | n+1,j+1=>match j%2 with
  | 0=>gL (way n (j / 2))
  | _=>gR (way n (j / 2))
def J4:aO->OF
 | .loc 0=>L8
 | .loc 1=>sj
 | .loc 2=>jd
 | .loc 3=>sM
 | .loc k=>aS k
 | .slot j=>G7 (way 64 j)
 | .con v=>bg v
def jw:List aO->List OF
 | []=>[]
 | x::l=>J4 x::jw l
def nW:Option aO->Option OF
 | none=>none
 | some x=>some (J4 x)
def evs (l:List OF)(ls:List d9)(env:T d9):List d9:=List.rec [] (λx _ ih=>x ls env::ih) l
def sH:d9->T d9->T d9:=λv=>T.rec .e (λl _ r _ _=>.nd l v r)
def sL (s:d9->T d9->T d9):d9->T d9->T d9:=λv=>T.rec .e (λl x r _ _=>.nd (s v l) x r)
def sR (s:d9->T d9->T d9):d9->T d9->T d9:=λv=>T.rec .e (λl x r _ _=>.nd l x (s v r))
def gD:Nat->Nat->d9->T d9->T d9
 | 0,_=>λ_ t=>t
 | _+1,0=>sH
 | n+1,j+1=>match j%2 with
  | 0=>sL (gD n (j / 2))
  | _=>sR (gD n (j / 2))
def gF:d9->T d9->T d9:=λ_ t=>t
def fB:Option Nat->d9->T d9->T d9
 | none=>gF
 | some j=>gD 64 j
def lI (n:Int):Int:=match n with
 | .ofNat m=>bi (Nat.blt m 9223372036854775808) (.ofNat m) (IntKind.i64.wrap (.ofNat m))
 | .negSucc m=>bi (Nat.blt m 9223372036854775808) (.negSucc m) (IntKind.i64.wrap (.negSucc m))
def iW (k:IntKind)(n:Int):Int:=match k with
 | .i64=>lI n
 | k=>k.wrap n
def uJ:Int->Int->Bool
 | .ofNat a,.ofNat b=>Nat.beq a b
 | .negSucc a,.negSucc b=>Nat.beq a b
 | _,_=>false
def mQ:Int->Int->Bool
 | .ofNat a,.ofNat b=>Nat.blt a b
 | .negSucc _,.ofNat _=>true
 | .ofNat _,.negSucc _=>false
 | .negSucc a,.negSucc b=>Nat.blt b a
def kEq (a b:IntKind):Bool:=match a,b with
 | .i64,.i64=>true
 | a,b=>decide (a=b)
def strEq (a:List UInt8):List UInt8->Bool:=
 List.rec (λb=>List.rec true (λ_ _ _=>false) b) (λx _ ih b=>List.rec false (λy ys _=>bi (Nat.beq x.toNat y.toNat) (ih ys) false) b) a
def vK:List UInt8->List UInt8->Bool
 | _,[]=>false
 | [],_ :: _=>true
 | a::x,b::y=>a<b||(a==b&&vK x y)
def PL (k:IntKind)(f:BitVec k.bits->BitVec k.bits->BitVec k.bits)(a b:Int):d9:=
 .int k (k.wrap (f (BitVec.ofInt k.bits a) (BitVec.ofInt k.bits b)).toNat)
def aiZ (b:Int)(r:Option d9):Option d9:=match b with
 | .ofNat 0=>none
 | _=>r
abbrev IB:=IntKind->Int->Int->Option d9
def Hu:IB:=λk a b=>some (.int k (iW k (a+b)))
def Hw:IB:=λk a b=>some (.int k (iW k (a-b)))
def IK:IB:=λk a b=>some (.int k (iW k (a*b)))
def Hy:IB:=λk a b=>aiZ b (some (.int k (iW k (a.tdiv b))))
def BK:IB:=λk a b=>aiZ b (some (.int k (a.tmod b)))
def Lc:IB:=λk a b=>some (PL k (· &&& ·) a b)
def iOr:IB:=λk a b=>some (PL k (· ||| ·) a b)
def Ld:IB:=λk a b=>some (PL k (· ^^^ ·) a b)
def oK:IB:=λk a b=>some (PL k (λx y=>x &&& ~~~y) a b)
def EY:IB:=λ_ a b=>some (.bool (uJ a b))
def Ze:IB:=λ_ a b=>some (.bool (!uJ a b))
def YK:IB:=λ_ a b=>some (.bool (mQ a b))
def YL:IB:=λ_ a b=>some (.bool (!mQ b a))
def Zf:IB:=λ_ a b=>some (.bool (mQ b a))
def YM:IB:=λ_ a b=>some (.bool (!mQ a b))
def iNo:IB:=λ_ _ _=>none
abbrev SB:=List UInt8->List UInt8->Option d9
def eH:SB:=λa b=>bi (Nat.blt (Nat.add (len' a) (len' b)) 9223372036854775808) (some (.str (cZ a b))) none
def EZ:SB:=λa b=>some (.bool (strEq a b))
def Zg:SB:=λa b=>some (.bool (!strEq a b))
def Zh:SB:=λa b=>some (.bool (vK a b))
def sLe:SB:=λa b=>some (.bool (vK a b||strEq a b))
def sGt:SB:=λa b=>some (.bool (!(vK a b||strEq a b)))
def sGe:SB:=λa b=>some (.bool (!vK a b))
def Ba:SB:=λ_ _=>none
def NI:BinOp->IB
 | .add=>Hu | .sub=>Hw | .mul=>IK | .quo=>Hy | .rem=>BK | .and=>Lc | .or=>iOr | .xor=>Ld | .andNot=>oK
 | .shl=>iNo | .shr=>iNo | .eql=>EY | .neq=>Ze | .lss=>YK | .leq=>YL | .gtr=>Zf | .geq=>YM
def NJ:BinOp->SB
 | .add=>eH | .eql=>EZ | .neq=>Zg | .lss=>Zh | .leq=>sLe | .gtr=>sGt | .geq=>sGe
 | _=>Ba
def Hz (f:IB)(g:SB)(x y:d9):Option d9:=match x with
 | .int k a=>xD y λk' b=>bi (kEq k k') (f k a b) none
 | .str a=>xg y λb=>g a b
 | _=>none
def aj0 (x y:d9):Option d9:=xD x λk a=>jL y λm=>some (.int k (iW k (a*2^(min m k.bits))))
def Xj (x y:d9):Option d9:=xD x λk a=>jL y λm=>some (.int k (a.fdiv (2^(min m k.bits))))
def IL (a b:Bool):Bool:=bi a b (bi b false true)
def iC (x y:d9):Option Bool:=xD x λk a=>xD y λk' b=>bi (kEq k k') (some (uJ a b)) none
def mR (x y:d9):Option Bool:=qU x λa=>qU y λb=>some (IL a b)
def eqStr (x y:d9):Option Bool:=xg x λa=>xg y λb=>some (strEq a b)
def PN (k:PK):d9->d9->Option Bool:=match k with
 | .i=>iC
 | .b=>mR
 | .s=>eqStr
def fH (ks:List PK):List d9->List d9->Option Bool:=
 List.rec (λ_ _=>some true) (λk _ ih a b=>List.rec none (λx xs _=>List.rec none (λy ys _=>ob (PN k x y) λr=>bi r (ih xs ys) (some false)) b) a) ks
def dS (ks:List PK)(x y:d9):Option Bool:=EX x λa=>EX y λb=>fH ks a b
def qV (x y:d9):Option Bool:=match x,y with
 | .nilPtr,.nilPtr=>some true
 | .nilPtr,.ptr _ _=>some false
 | .ptr _ _,.nilPtr=>some false
 | _,_=>none
def dY (x y:d9):Option Bool:=match x,y with
 | .nilSlice,.nilSlice=>some true
 | .nilSlice,.slice .. | .nilSlice,.sliceU ..=>some false
 | .slice ..,.nilSlice | .sliceU ..,.nilSlice=>some false
 | _,_=>none
def PO (x y:d9):Option Bool:=match x,y with
 | .nilMap,.nilMap=>some true
 | .nilMap,.map _ | .map _,.nilMap=>some false
 | _,_=>none
def IQ (x y:d9):Option Bool:=match x,y with
 | .nilFunc,.nilFunc=>some true
 | .nilFunc,.func .. | .func ..,.nilFunc=>some false
 | _,_=>none
def gT (x y:d9):Option Bool:=match x,y with
 | .nilIface,.nilIface=>some true
 | .nilIface,.iface .. | .iface ..,.nilIface=>some false
 | _,_=>none
abbrev IU:=d9->d9->Option Bool
def xk:Ij->IU
 | .prim .i=>iC | .prim .b=>mR | .prim .s=>eqStr | .flat ks=>dS ks | .ptr=>qV | .slice=>dY | .map=>PO | .func=>IQ | .iface=>gT
abbrev PF:=List d9->T d9->Option d9
def eF (x:OF):PF:=λls env=>some (x ls env)
def bF (c a b:OF):PF:=λls env=>qU (c ls env) λt=>some (bi t (a ls env) (b ls env))
def lay (ps:List (Nat×Nat×OF))(ls:List d9)(env:T d9):List d9->Option (List d9):=
 List.rec (λcs=>some cs) (λp _ ih cs=>
  bi (Nat.beq (len' (p.2.2 ls env).cells) p.2.1) (bi (Nat.ble (Nat.add p.1 p.2.1) (len' cs)) (ih (pF p.1 (p.2.2 ls env).cells cs)) none) none) ps
def nX (zero:List d9)(ps:List (Nat×Nat×OF)):PF:=λls env=>ob (lay ps ls env zero) λl=>some (.agg l)
def IV (v:d9):Option d9:=match v with
 | .nilPtr | .nilIface | .nilFunc=>none
 | .func (.func f) a b=>some (.func (.func f) a b)
 | .func ..=>none
 | v=>some v
def iF (x:OF):PF:=λls env=>IV (x ls env)
def CZ (f:IB)(g:SB)(x y:OF):PF:=λls env=>Hz f g (x ls env) (y ls env)
def Le (x y:OF):PF:=λls env=>aj0 (x ls env) (y ls env)
def IW (x y:OF):PF:=λls env=>Xj (x ls env) (y ls env)
def Gq (f:IU)(x y:OF):PF:=λls env=>ob (f (x ls env) (y ls env)) λb=>some (.bool b)
def VA (f:IU)(x y:OF):PF:=λls env=>ob (f (x ls env) (y ls env)) λb=>some (.bool (!b))
def Fa (x:OF):PF:=λls env=>qU (x ls env) λb=>some (.bool (!b))
def IX (x:OF):PF:=λls env=>xD (x ls env) λk n=>some (.int k (iW k (0-n)))
def xG (k:IntKind)(x:OF):PF:=λls env=>xD (x ls env) λ_ n=>some (.int k (iW k n))
def qW (t:TypeId)(x:OF):PF:=λls env=>some (.iface t (x ls env))
def Bb (fn:Fn)(a b:List OF):PF:=λls env=>some (.func fn (evs a ls env) (evs b ls env))
def je (o:Option OF)(d:Nat)(ls:List d9)(env:T d9)(k:Nat->Option β):Option β:=
 Option.rec (k d) (λx=>jL (x ls env) k) o
def nY (x:OF)(lo hi:Option OF):PF:=λls env=>xg (x ls env) λs=>je lo 0 ls env λl=>je hi (len' s) ls env λh=>bi (Nat.ble l h) (bi (Nat.ble h (len' s)) (ob (takeN (Nat.sub h l) (gQ l s)) λr=>some (.str r)) none) none
def tQ (es n:Nat)(x:OF)(lo hi:Option OF):PF:=λls env=>pG (x ls env) λid off=>je lo 0 ls env λl=>je hi n ls env λh=>bi (Nat.ble l h) (bi (Nat.ble h n) (some (.slice id (bi (Nat.beq l n) off (Nat.add off (Nat.mul l es))) (Nat.sub h l) (Nat.sub n l))) none) none
def H8 (o:Nat)(x:OF):PF:=λls env=>pG (x ls env) λid off=>some (.ptr id (Nat.add off o))
def xH (off:Nat)(x:OF):PF:=λls env=>EX (x ls env) λcs=>vJ off cs
def Bc (off k:Nat)(x:OF):PF:=λls env=>EX (x ls env) λcs=>ob (takeN k (gQ off cs)) λl=>some (.agg l)
def idx (len:Nat)(v:d9)(k:Nat->Option β):Option β:=jL v λi=>bi (Nat.blt i len) (k i) none
def jY (es:Nat)(x i:OF):PF:=λls env=>
 xE (x ls env) none (λid off len _=>idx len (i ls env) λk=>some (.ptr id (Nat.add off (Nat.mul k es))))
  (λid off len _=>idx len (i ls env) λk=>some (.ptr id (Nat.add off (Nat.mul k es))))
def jE (es n:Nat)(x i:OF):PF:=λls env=>pG (x ls env) λid off=>idx n (i ls env) λk=>some (.ptr id (Nat.add off (Nat.mul k es)))
def Zi (es n:Nat)(x i:OF):PF:=λls env=>EX (x ls env) λcs=>idx n (i ls env) λk=>vJ (Nat.mul k es) cs
def tT (es n sz:Nat)(x i:OF):PF:=λls env=>EX (x ls env) λcs=>idx n (i ls env) λk=>ob (takeN sz (gQ (Nat.mul k es) cs)) λl=>some (.agg l)
def uK (x i:OF):PF:=λls env=>xg (x ls env) λs=>jL (i ls env) λk=>ob (vJ k s) λb=>some (.int .u8 b.toNat)
def pExt (x:OF)(i:Nat):PF:=λls env=>PG (x ls env) λl=>vJ i l
def lenOf (v:d9):Option Nat:=match v with
 | .nilSlice=>some 0
 | .slice _ _ n _=>some n
 | .sliceU _ _ n _=>some n
 | .str s=>some (len' s)
 | _=>none
def HV (x:OF):PF:=λls env=>xE (x ls env) (some (.int .i64 0)) (λ_ _ n _=>some (.int .i64 (.ofNat n))) (λ_ _ n _=>some (.int .i64 (.ofNat n)))
def xI (x:OF):PF:=λls env=>xg (x ls env) λs=>some (.int .i64 (.ofNat (len' s)))
def Lf (x:OF):PF:=λls env=>xE (x ls env) (some (.int .i64 0)) (λ_ _ _ c=>some (.int .i64 (.ofNat c))) (λ_ _ _ _=>none)
def mm2 (mx:Bool)(x y:d9):Option d9:=xD x λk a=>xD y λ_ b=>some (.int k (bi mx (bi (mQ a b) b a) (bi (mQ b a) b a)))
def PS (mx:Bool)(ys:List d9):d9->Option d9:=List.rec (λx=>some x) (λy _ ih x=>ob (mm2 mx x y) ih) ys
def SX (mx:Bool)(x:OF)(xs:List OF):PF:=λls env=>PS mx (evs xs ls env) (x ls env)
def VB (t:TypeId)(zero:d9)(ok:Bool)(v:d9):Option d9:=match v with
 | .iface u y=>bi (Nat.beq u t) (some (bi ok (.tuple [y,.bool true]) y)) (bi ok (some (.tuple [zero,.bool false])) none)
 | .nilIface=>bi ok (some (.tuple [zero,.bool false])) none
 | _=>none
def jQ (t:TypeId)(zero:d9)(ok:Bool)(x:OF):PF:=λls env=>VB t zero ok (x ls env)
def Fb:List (Nat×Nat×aO)->List (Nat×Nat×OF)
 | []=>[]
 | p::l=>(p.1,p.2.1,J4 p.2.2)::Fb l
def qJ:Zc->PF
 | .mov x=>eF (J4 x)
 | .pick c a b=>bF (J4 c) (J4 a) (J4 b)
 | .build z ps=>nX z (Fb ps)
 | .nilCheck x=>iF (J4 x)
 | .ib op x y=>match op with
  | .shl=>Le (J4 x) (J4 y)
  | .shr=>IW (J4 x) (J4 y)
  | op=>CZ (NI op) (NJ op) (J4 x) (J4 y)
 | .eq neg k x y=>match neg with
  | true=>VA (xk k) (J4 x) (J4 y)
  | false=>Gq (xk k) (J4 x) (J4 y)
 | .not x=>Fa (J4 x)
 | .neg x=>IX (J4 x)
 | .conv k x=>xG k (J4 x)
 | .mkIface t x=>qW t (J4 x)
 | .mkFunc fn a b=>Bb fn (jw a) (jw b)
 | .slStr x lo hi=>nY (J4 x) (nW lo) (nW hi)
 | .slArr es n x lo hi=>tQ es n (J4 x) (nW lo) (nW hi)
 | .fAddr o x=>H8 o (J4 x)
 | .fld off size x=>match size with
  | none=>xH off (J4 x)
  | some k=>Bc off k (J4 x)
 | .iAddr es x i=>jY es (J4 x) (J4 i)
 | .iAddrArr es n x i=>jE es n (J4 x) (J4 i)
 | .iArr es n size x i=>match size with
  | none=>Zi es n (J4 x) (J4 i)
  | some k=>tT es n k (J4 x) (J4 i)
 | .iStr x i=>uK (J4 x) (J4 i)
 | .ext x i=>pExt (J4 x) i
 | .len x=>HV (J4 x)
 | .lenS x=>xI (J4 x)
 | .cap x=>Lf (J4 x)
 | .mm mx x xs=>SX mx (J4 x) (jw xs)
 | .assert t z ok x=>jQ t z ok (J4 x)
abbrev RF:=List d9->T d9->Mem->Option d9
def Q0 (a:OF):RF:=λls env m=>pG (a ls env) λid off=>aU (m.get id) λrs n rows=>cell1 rs n rows off
def X9 (k:Nat)(a:OF):RF:=λls env m=>pG (a ls env) λid off=>aU (m.get id) λrs n rows=>ob (qc rs n rows off k) λl=>some (.agg l)
def findKey (f:IU)(k:d9)(es:List (d9×d9)):Nat->Option (Option (Nat×d9)):=
 List.rec (λ_=>some none) (λe _ ih i=>ob (f k e.1) λb=>bi b (some (some (i,e.2))) (ih (Nat.succ i))) es
def found (ok:Bool)(zero:d9)(o:Option (Nat×d9)):Option d9:=
 Option.rec (some (bi ok (.tuple [zero,.bool false]) zero)) (λp=>some (bi ok (.tuple [p.2,.bool true]) p.2)) o
def fI (f:IU)(n:Nat)(k:d9)(es:List (d9×d9)):Option (Option (Nat×d9)):=
 bi (Nat.beq (len' k.cells) n) (List.rec (ob (f k k) λ_=>some none) (λ_ _ _=>findKey f k es 0) es) none
def kS (f:IU)(n:Nat)(zero:d9)(ok:Bool)(mp k:OF):RF:=λls env m=>AR (mp ls env) (ob (fI f n (k ls env) []) λr=>found ok zero r) λid=>YJ (m.get id) λes=>ob (fI f n (k ls env) es) λr=>found ok zero r
def agt (x:OF):RF:=λls env m=>AR (x ls env) (some (.int .i64 0)) λid=>YJ (m.get id) λes=>some (.int .i64 (.ofNat (len' es)))
def bytesOf:List UInt8->List d9
 | []=>[]
 | b::l=>.int .u8 b.toNat::bytesOf l
def byteOf:List d9->Option (List UInt8)
 | []=>some []
 | .int .u8 (.ofNat n)::l=>match byteOf l with
  | some s=>some (UInt8.ofNat n::s)
  | none=>none
 | _ :: _=>none
def Y0 (m:Mem)(id off n:Nat):Option (List d9):=
 Nat.rec (some []) (λ_ _=>aU (m.get id) λrs k rows=>J7 rs k rows n off) n
def aj (m:Mem)(es n:Nat)(v:d9):Option (List d9):=match v with
 | .nilSlice=>some []
 | .slice id off _ _=>Y0 m id off (Nat.mul n es)
 | .sliceU id off _ _=>Y0 m id off (Nat.mul n es)
 | .str s=>some (bytesOf (s.take n))
 | _=>none
def aT (x:OF):RF:=λls env m=>
 xE (x ls env) (some (.str [])) (λid off len _=>ob (Y0 m id off len) λl=>ob (byteOf l) λs=>some (.str s))
  (λid off len _=>ob (Y0 m id off len) λl=>ob (byteOf l) λs=>some (.str s))
def VD (b:Option Z6)(nl:Option β)(k:Nat->Nat->List Nat->Option β):Option β:=match b with
 | some (.iter none _ _)=>nl
 | some (.iter (some mp) since seen)=>k mp since seen
 | _=>none
def tX (it:OF):RF:=λls env m=>pG (it ls env) λid off=>bi (Nat.beq off 0)
 (VD (m.get id) none λmp since seen=>List.rec none (λi _ _=>YJ (m.get mp) λes=>bi (Nat.beq (len' es) since) (ob (vJ i es) λe=>some (.tuple [e.1,e.2])) none) seen) none
def NK:Ij->Nat
 | .flat ks=>ks.length
 | _=>1
def xJ:SV->RF
 | .load size a=>match size with
  | none=>Q0 (J4 a)
  | some k=>X9 k (J4 a)
 | .look kk zero ok m k=>kS (xk kk) (NK kk) zero ok (J4 m) (J4 k)
 | .lenM x=>agt (J4 x)
 | .bytesStr x=>aT (J4 x)
 | .entry it=>tX (J4 it)
abbrev LR:=Option (d9×Option Z6)
abbrev LF:=List d9->T d9->Nat->LR
def j5 (cs:List d9):Z6:=.cells (len' cs) 1 (.nd .e cs .e)
def jR (es n:Nat)(cells:List d9)(k:Z6->Option β):Option β:=ob (rowsOf es n cells) λrows=>k (.cells es n (T.ofList rows))
def qd (zero:List d9):LF:=λ_ _ nid=>some (.ptr nid 0,some (j5 zero))
def qX (x:OF):LF:=λls env nid=>some (.ptr nid 0,some (j5 (x ls env).cells))
def Q8 (zero:List d9)(n:Nat):List d9:=Nat.rec [] (λ_ ih=>cZ zero ih) n
def I8 (es len:Nat)(zero:List d9)(ps:List (Nat×Nat×OF)):LF:=λls env nid=>ob (lay ps ls env (Q8 zero len)) λcells=>jR es len cells λb=>some (.slice nid 0 len len,some b)
def tY:LF:=λ_ _ nid=>some (.map nid,some (.map []))
def iG (es bytes:Nat)(zero:List d9)(len cap:OF):LF:=λls env nid=>
 jL (len ls env) λl=>jL (cap ls env) λc=>
  bi (Nat.ble l c) (bi (Nat.ble (Nat.mul bytes c) 281474976710656) (bi (Nat.blt c 9223372036854775808)
   (some (.slice nid 0 l c,some (.cells es c (T.rep zero c .e 0)))) none) none) none
def jF (x:OF):LF:=λls env nid=>xg (x ls env) λs=>jR 1 (len' s) (bytesOf s) λb=>some (.sliceU nid 0 (len' s) 1,some b)
def K6 (nid es:Nat)(x:d9)(lo:Nat)(hi:Option Nat):LR:=
 xE x (bi (Nat.beq lo 0) (Option.rec (some (.nilSlice,none)) (λh=>bi (Nat.beq h 0) (some (.nilSlice,none)) none) hi) none)
  (λid off len cap=>Option.rec (known id off cap len) (λh=>known id off cap h) hi)
  (λid off len es'=>Option.rec (unk id off len es' len) (λh=>unk id off len es' h) hi)
where
 known (id off cap h:Nat):LR:=bi (Nat.ble lo h) (bi (Nat.ble h cap)
  (some (.slice id (bi (Nat.beq lo cap) off (Nat.add off (Nat.mul lo es))) (Nat.sub h lo) (Nat.sub cap lo),none)) none) none
 unk (id off len es' h:Nat):LR:=bi (Nat.ble lo h) (bi (Nat.ble h len) (bi (Nat.beq es es')
  (bi (Nat.blt lo len) (some (.sliceU id (Nat.add off (Nat.mul lo es)) (Nat.sub h lo) es,none))
   (bi (Nat.beq lo 0) (some (.sliceU id off (Nat.sub h lo) es,none)) (some (.sliceU nid 0 0 es,some (.tail id))))) none) none) none
def PU (es:Nat)(x:OF)(lo hi:Option OF):LF:=λls env nid=>je lo 0 ls env λl=>Option.rec (K6 nid es (x ls env) l none) (λh=>jL (h ls env) λh=>K6 nid es (x ls env) l (some h)) hi
def Gr:Xi->LF
 | .alloc zero=>qd zero
 | .box x=>qX (J4 x)
 | .buildSlice es len zero ps=>I8 es len zero (Fb ps)
 | .mkMap=>tY
 | .mkSlice es bytes zero l c=>iG es bytes zero (J4 l) (J4 c)
 | .strBytes x=>jF (J4 x)
 | .sl es x lo hi=>PU es (J4 x) (nW lo) (nW hi)
structure VM where
 v:d9
 m:Mem
abbrev pI:=Option (List VM)
abbrev H7:=Fn->List d9->Mem->pI
abbrev EF:=H7->List d9->T d9->Mem->pI
def one (v:d9)(m:Mem):pI:=some [⟨v,m⟩]
def iH (size:Nat)(a x:OF):EF:=λ_ ls env m=>pG (a ls env) λid off=>bi (Nat.beq (len' (x ls env).cells) size) (storeAt m id off (x ls env).cells λm'=>one .undef m') none
def mU (es:List (d9×d9))(k v:d9):Nat->List (d9×d9):=
 List.rec (λ_=>[]) (λe es ih i=>Nat.rec ((k,v)::es) (λj _=>e::ih j) i) es
def mV (f:IU)(n:Nat)(mp k x:OF):EF:=λ_ ls env m=>AR (mp ls env) none λid=>bi (Nat.blt id m.lim) none
 (YJ (m.get id) λes=>ob (fI f n (k ls env) es) λr=>
  Option.rec (one .undef (m.set id (.map (cZ es [(k ls env,x ls env)])))) (λp=>ob (vJ p.1 es) λe=>
   bi (Nat.beq (len' e.1.cells) n) (one .undef (m.set id (.map (mU es (k ls env) (x ls env) p.1)))) none) r)
def tZ (x:OF):EF:=λ_ ls env m=>AR (x ls env) (one (.ptr m.nx 0) (m.new (.iter none 0 [])))
 λid=>YJ (m.get id) λes=>one (.ptr m.nx 0) (m.new (.iter (some id) (len' es) []))
def Zj (n:Nat)(l:List Nat):Bool:=List.rec false (λx _ ih=>bi (Nat.beq x n) true ih) l
def nexts (m:Mem)(id mp since:Nat)(seen:List Nat)(es:List (d9×d9)):Nat->List VM:=
 List.rec (λ_=>[]) (λe _ ih i=>bi (Zj i seen) (ih (Nat.succ i))
  (⟨.tuple [.bool true,e.1,e.2],m.set id (.iter (some mp) since (i::seen))⟩::ih (Nat.succ i))) es
def SY (m:Mem)(l:List VM):List VM:=List.rec [⟨.tuple [.bool false],m⟩] (λx xs _=>x::xs) l
def Bd (it:OF):EF:=λ_ ls env m=>pG (it ls env) λid off=>bi (Nat.beq off 0) (bi (Nat.blt id m.lim) none
 (VD (m.get id) (one (.tuple [.bool false]) m) λmp since seen=>YJ (m.get mp) λes=>
  bi (Nat.beq (len' es) since) (some (SY m (nexts m id mp since seen es 0))) none)) none
def big (n bytes es:Nat):Bool:=bi (Nat.ble (Nat.mul (Nat.add (Nat.mul 2 n) 2048) bytes) 281474976710656) (bi (Nat.ble 1 es) (Nat.ble 1 bytes) false) false
def grown (m:Mem)(es n:Nat)(cells:List d9):pI:=jR es n cells λb=>one (.sliceU m.nx 0 n es) (m.new b)
def IY (m:Mem)(es bytes n:Nat)(new:List d9):pI:=
 Nat.rec (one .nilSlice m) (λ_ _=>bi (big n bytes es) (grown m es n new) none) n
def iI (m:Mem)(es bytes n:Nat)(new:List d9)(id off len cap:Nat):pI:=
 bi (Nat.ble (Nat.add len n) cap) (gI m id (Nat.add off (Nat.mul len es)) new λm'=>one (.slice id off (Nat.add len n) cap) m')
  (bi (big (Nat.add len n) bytes es) (ob (Y0 m id off (Nat.mul len es)) λold=>grown m es (Nat.add len n) (cZ old new)) none)
def uL (b:Option Z6)(c:Nat->Nat->T (List d9)->Option β)(k:Nat->Option β):Option β:=match b with
 | some (.cells rs n rows)=>c rs n rows
 | some (.tail p)=>k p
 | _=>none
def mW (m:Mem)(es bytes n:Nat)(new:List d9)(id off len es':Nat):pI:=
 Nat.rec (one (.sliceU id off len es') m) (λ_ _=>bi (Nat.beq es es') (bi (big (Nat.add len n) bytes es) (bi (Nat.ble m.lim id) (bi (I7 new)
  (uL (m.get id)
   (λrs k rows=>
    bi (bi (Nat.beq rs es) (bi (Nat.beq off 0) (bi (Nat.ble len k) (bi (Nat.beq n 1) (Nat.beq (len' new) es) false) false) false) false)
     (one (.sliceU m.nx 0 (Nat.succ len) es) ((m.set id .dead).new (.cells es (Nat.succ len) (rows.put len new))))
     (ob (J7 rs k rows (Nat.mul len es) off) λold=>grown (m.set id .dead) es (Nat.add len n) (cZ old new)))
   (λp=>aU (m.get p) λ_ _ _=>bi (Nat.ble m.lim p) (bi (Nat.beq len 0) (grown (m.set p .dead) es n new) none) none)) none) none) none) none) n
def kT (m:Mem)(es bytes n:Nat)(new:List d9)(s:d9):pI:=
 xE s (IY m es bytes n new) (λa b c d=>iI m es bytes n new a b c d) (λa b c d=>mW m es bytes n new a b c d)
def lu (es bytes:Nat)(s x:OF):EF:=λ_ ls env m=>ob (lenOf (x ls env)) λn=>ob (aj m es n (x ls env)) λnew=>kT m es bytes n new (s ls env)
def Bf (es:Nat)(zero:List d9)(bytes:Nat)(s x:OF):EF:=λ_ ls env m=>jL (x ls env) λn=>bi (Nat.ble (Nat.mul n bytes) 281474976710656) (bi (Nat.blt n 9223372036854775808) (kT m es bytes n (Q8 zero n) (s ls env)) none) none
def xK (es:Nat)(d s:OF):EF:=λ_ ls env m=>ob (lenOf (s ls env)) λn=>xE (d ls env) (one (.int .i64 0) m) (λid off len _=>go m n id off len (s ls env)) (λid off len _=>go m n id off len (s ls env))
where
 go (m:Mem) (n id off len:Nat) (s:d9):pI:=ob (aj m es (Nat.min n len) s) λcells=>gI m id off cells λm'=>one (.int .i64 (.ofNat (Nat.min n len))) m'
def qY (zero:List d9)(x:OF):EF:=λ_ ls env m=>
 xE (x ls env) (one (.tuple []) m) (λid off len _=>gI m id off (Q8 zero len) λm'=>one (.tuple []) m')
  (λid off len _=>gI m id off (Q8 zero len) λm'=>one (.tuple []) m')
def jy (f:FuncId)(args:List OF):EF:=λcf ls env m=>cf (.func f) (evs args ls env) m
def Zk (cf:H7)(m:Mem)(args:List d9)(v:d9):pI:=PI v λfn a b=>match fn with
 | .func f=>cf (.func f) (cZ a (cZ args b)) m
 | .yield l=>cf (.yield l) (cZ a args) m
 | _=>none
def qZ (f:OF)(args:List OF):EF:=λcf ls env m=>Zk cf m (evs args ls env) (f ls env)
def acP (v:d9)(m:Mem):pI:=match v with
 | .iface t x=>one (.aY (.iface t x)) m
 | _=>none
def nZ (x:OF):EF:=λ_ ls env m=>acP (x ls env) m
def IZ:EF:=λ_ _ _ _=>none
def wR:YI->EF
 | .store size a x=>iH size (J4 a) (J4 x)
 | .mapSet kk m k x=>mV (xk kk) (NK kk) (J4 m) (J4 k) (J4 x)
 | .range x=>tZ (J4 x)
 | .next it=>Bd (J4 it)
 | .app es zeros zero bytes s x=>match zeros with
  | true=>Bf es zero bytes (J4 s) (J4 x)
  | false=>lu es bytes (J4 s) (J4 x)
 | .copy es d s=>xK es (J4 d) (J4 s)
 | .clear zero x=>qY zero (J4 x)
 | .call f args=>jy f (jw args)
 | .callv f args=>qZ (J4 f) (jw args)
 | .panic x=>nZ (J4 x)
 | .defer _ _=>IZ
 | .recover=>IZ
 | .bad=>IZ
def LP (f:α->Option (List β))(l:List α):Option (List β):=
 List.rec (some []) (λa _ ih=>ob (f a) λx=>ob ih λy=>some (x++y)) l
def bnd (x:Option (List α))(f:α->Option (List β)):Option (List β):=
 Option.rec none (λl=>List.rec (some []) (λa t _=>List.rec (f a) (λ_ _ _=>LP f l) t) l) x
structure EM where
 env:T d9
 m:Mem
 px:Option d9
 mks:List Mk
def jf (v:d9)(p:d9->β)(q:β):β:=match v with
 | .aY x=>p x
 | _=>q
abbrev RC:=H7->List d9->T d9->Mem->Option (List EM)
def bK:RC:=λ_ _ env m=>some [⟨env,m,none,[]⟩]
def vM (f:PF)(d:d9->T d9->T d9)(k:RC):RC:=λcf ls env m=>Option.rec none (λv=>k cf (v::ls) (d v env) m) (f ls env)
def K5 (f:PF)(k:RC):RC:=λcf ls env m=>Option.rec none (λv=>k cf (v::ls) env m) (f ls env)
def rcR (f:RF)(d:d9->T d9->T d9)(k:RC):RC:=λcf ls env m=>Option.rec none (λv=>k cf (v::ls) (d v env) m) (f ls env m)
def bL (f:RF)(k:RC):RC:=λcf ls env m=>Option.rec none (λv=>k cf (v::ls) env m) (f ls env m)
def Lg (m:Mem)(b:Option Z6):Mem:=Option.rec m (λb=>m.new b) b
def KZ (f:LF)(d:d9->T d9->T d9)(k:RC):RC:=λcf ls env m=>ob (f ls env m.nx) λr=>k cf (r.1::ls) (d r.1 env) (Lg m r.2)
def HY (f:LF)(k:RC):RC:=λcf ls env m=>Option.rec none (λr=>k cf (r.1::ls) env (Lg m r.2)) (f ls env m.nx)
def nO (f:EF)(k:RC):RC:=λcf ls env m=>bnd (f cf ls env m) λr=>jf r.v (λx=>some [⟨env,r.m,some x,[]⟩]) (k cf (r.v::ls) env r.m)
def rcE (f:EF)(d:d9->T d9->T d9)(k:RC):RC:=λcf ls env m=>bnd (f cf ls env m) λr=>jf r.v (λx=>some [⟨env,r.m,some x,[]⟩]) (k cf (r.v::ls) (d r.v env) r.m)
def uM (f:OF)(args:List OF):RC:=λ_ ls env m=>PI (f ls env) λfn a b=>some [⟨env,m,none,[.d (.func fn a b) (evs args ls env)]⟩]
def sw (w:Bool)(v:d9):Bool:=match v with
 | .bool b=>IL b w
 | _=>false
def gP (x:OF)(w:Bool)(f:PF):PF:=λls env=>bi (sw w (x ls env)) (f ls env) (some .undef)
def jW (x:OF)(w:Bool)(f:RF):RF:=λls env m=>bi (sw w (x ls env)) (f ls env m) (some .undef)
def gLk (x:OF)(w:Bool)(f:LF):LF:=λls env i=>bi (sw w (x ls env)) (f ls env i) (some (.undef,none))
def gE (x:OF)(w:Bool)(f:EF):EF:=λcf ls env m=>bi (sw w (x ls env)) (f cf ls env m) (one .undef m)
def HZ (g:Option (aO×Bool))(f:PF):PF:=match g with
 | none=>f
 | some (x,w)=>gP (J4 x) w f
def Da (g:Option (aO×Bool))(f:RF):RF:=match g with
 | none=>f
 | some (x,w)=>jW (J4 x) w f
def Ta (g:Option (aO×Bool))(f:LF):LF:=match g with
 | none=>f
 | some (x,w)=>gLk (J4 x) w f
def NM (g:Option (aO×Bool))(f:EF):EF:=match g with
 | none=>f
 | some (x,w)=>gE (J4 x) w f
def YO (o:CY)(d:Option Nat)(g:Option (aO×Bool))(k:RC):RC:=match o with
 | .p o=>match d with
  | none=>K5 (HZ g (qJ o)) k
  | some j=>vM (HZ g (qJ o)) (fB (some j)) k
 | .r o=>match d with
  | none=>bL (Da g (xJ o)) k
  | some j=>rcR (Da g (xJ o)) (fB (some j)) k
 | .a o=>match d with
  | none=>HY (Ta g (Gr o)) k
  | some j=>KZ (Ta g (Gr o)) (fB (some j)) k
 | .e o=>match d with
  | none=>nO (NM g (wR o)) k
  | some j=>rcE (NM g (wR o)) (fB (some j)) k
def sO (i:Inst):Option (aO×List aO):=match i.op,i.guard,i.dst with
 | .e (.defer f as),none,none=>some (f,as)
 | _,_,_=>none
def Ja (i:Inst):RC:=match sO i with
 | some p=>uM (J4 p.1) (jw p.2)
 | none=>YO i.op i.dst i.guard bK
def jA:List Inst->RC
 | []=>bK
 | [i]=>Ja i
 | i::j::l=>YO i.op i.dst i.guard (jA (j::l))
def oh (f:aO->aO):Zc->Zc
 | .mov x=>.mov (f x)
 | .pick a b c=>.pick (f a) (f b) (f c)
 | .build z ps=>.build z (ps.map λp=>(p.1,p.2.1,f p.2.2))
 | .nilCheck x=>.nilCheck (f x)
 | .ib o x y=>.ib o (f x) (f y)
 | .eq n k x y=>.eq n k (f x) (f y)
 | .not x=>.not (f x)
 | .neg x=>.neg (f x)
 | .conv k x=>.conv k (f x)
 | .mkIface t x=>.mkIface t (f x)
 | .mkFunc g a b=>.mkFunc g (a.map f) (b.map f)
 | .slStr x a b=>.slStr (f x) (a.map f) (b.map f)
 | .slArr e n x a b=>.slArr e n (f x) (a.map f) (b.map f)
 | .fAddr o x=>.fAddr o (f x)
 | .fld o s x=>.fld o s (f x)
 | .iAddr e x i=>.iAddr e (f x) (f i)
 | .iAddrArr e n x i=>.iAddrArr e n (f x) (f i)
 | .iArr e n s x i=>.iArr e n s (f x) (f i)
 | .iStr x i=>.iStr (f x) (f i)
 | .ext x i=>.ext (f x) i
 | .len x=>.len (f x)
 | .lenS x=>.lenS (f x)
 | .cap x=>.cap (f x)
 | .mm m x xs=>.mm m (f x) (xs.map f)
 | .assert t z ok x=>.assert t z ok (f x)
def Lh (f:aO->aO):SV->SV
 | .load s a=>.load s (f a)
 | .look k z o m x=>.look k z o (f m) (f x)
 | .lenM x=>.lenM (f x)
 | .bytesStr x=>.bytesStr (f x)
 | .entry x=>.entry (f x)
def PV (f:aO->aO):Xi->Xi
 | .alloc z=>.alloc z
 | .box x=>.box (f x)
 | .buildSlice e l z ps=>.buildSlice e l z (ps.map λp=>(p.1,p.2.1,f p.2.2))
 | .mkMap=>.mkMap
 | .mkSlice e b z l c=>.mkSlice e b z (f l) (f c)
 | .strBytes x=>.strBytes (f x)
 | .sl e x a b=>.sl e (f x) (a.map f) (b.map f)
def Fe (f:aO->aO):YI->YI
 | .store s a x=>.store s (f a) (f x)
 | .mapSet k a b c=>.mapSet k (f a) (f b) (f c)
 | .range x=>.range (f x)
 | .next x=>.next (f x)
 | .app e z zs b s x=>.app e z zs b (f s) (f x)
 | .copy e d s=>.copy e (f d) (f s)
 | .clear z x=>.clear z (f x)
 | .call g a=>.call g (a.map f)
 | .callv g a=>.callv (f g) (a.map f)
 | .defer g a=>.defer (f g) (a.map f)
 | .panic x=>.panic (f x)
 | .recover=>.recover
 | .bad=>.bad
def mapA (f:aO->aO):CY->CY
 | .p o=>.p (oh f o)
 | .r o=>.r (Lh f o)
 | .a o=>.a (PV f o)
 | .e o=>.e (Fe f o)
def bump:aO->aO
 | .loc k=>.loc (k+1)
 | x=>x
def rn (r:List aO):aO->aO
 | .loc k=>r.getD k (.con .undef)
 | x=>x
def BL (j:Nat):List Inst->Bool
 | []=>false
 | i::l=>i.dst==some j||BL j l
def qg (r:List aO):List Inst->List Inst
 | []=>[]
 | i::l=>
  let keep:=⟨mapA (rn r) i.op,i.dst,i.guard.map λp=>(rn r p.1,p.2)⟩::qg (.loc 0::r.map bump) l
  match i.op,i.dst,i.guard with
  | .p (.mov x),none,none=>match rn r x with
   | .slot j=>bif BL j l then keep else qg (.slot j::r) l
   | y=>qg (y::r) l
  | _,_,_=>keep
def vN (f:d9->d9->Bool)(a:List d9):List d9->Bool:=
 List.rec (λb=>List.rec true (λ_ _ _=>false) b) (λx _ ih b=>List.rec false (λy ys _=>bi (f x y) (ih ys) false) b) a
def bS (n:Nat):d9->d9->Bool:=Nat.rec (λ_ _=>false) (λ_ ih x y=>match x,y with
  | .bool a,.bool b=>IL a b
  | .int k a,.int k' b=>bi (kEq k k') (uJ a b) false
  | .str a,.str b=>strEq a b
  | .nilPtr,.nilPtr=>true
  | .ptr a b,.ptr c d=>bi (Nat.beq a c) (Nat.beq b d) false
  | .nilSlice,.nilSlice=>true
  | .slice a b c d,.slice a' b' c' d'=>bi (Nat.beq a a') (bi (Nat.beq b b') (bi (Nat.beq c c') (Nat.beq d d') false) false) false
  | .sliceU a b c d,.sliceU a' b' c' d'=>bi (Nat.beq a a') (bi (Nat.beq b b') (bi (Nat.beq c c') (Nat.beq d d') false) false) false
  | .nilMap,.nilMap=>true
  | .map a,.map b=>Nat.beq a b
  | .nilFunc,.nilFunc=>true
  | .func (.func f) a b,.func (.func g) c d=>bi (Nat.beq f g) (bi (vN ih a c) (vN ih b d) false) false
  | .func (.yield f) a b,.func (.yield g) c d=>bi (Nat.beq f g) (bi (vN ih a c) (vN ih b d) false) false
  | .nilIface,.nilIface=>true
  | .iface t a,.iface u b=>bi (Nat.beq t u) (ih a b) false
  | .agg a,.agg b=>vN ih a b
  | .tuple a,.tuple b=>vN ih a b
  | .undef,.undef=>true
  | _,_=>false) n
abbrev DC:=H7->Nat->List d9->T d9->Mem->List Mem->Option (List EM)
def stable (f:RF)(ls:List d9)(env:T d9)(v:d9)(n:Nat):List Mem->Bool:=
 Nat.rec (λ_=>true) (λ_ ih gs=>List.rec false (λm ms _=>bi (Option.rec false (λu=>bS 100 u v) (f ls env m)) (ih ms) false) gs) n
def tl (l:List Mem):List Mem:=List.rec [] (λ_ t _=>t) l
def sP:DC:=λ_ _ _ env m _=>some [⟨env,m,none,[]⟩]
def lJ (f:PF)(d:d9->T d9->T d9)(k:DC):DC:=λcf b ls env m gs=>ob (f ls env) λv=>k cf b (v::ls) (d v env) m gs
def hd (m:Mem)(gs:List Mem):Mem:=List.rec m (λg _ _=>g) gs
def isVoid (b:Option Z6):Bool:=match b with
 | some .void=>true
 | _=>false
def gU (i:Nat)(gs:List Mem):Bool:=List.rec true (λg _ ih=>bi (isVoid (g.get i)) ih false) gs
def Tc (x:Option (List α))(f:α->Option β):Option β:=
 Option.rec none (λl=>List.rec none (λa t _=>List.rec (f a) (λ_ _ _=>none) t) l) x
def xq (f:RF)(c:Nat)(d:d9->T d9->T d9)(k:DC):DC:=λcf b ls env m gs=>ob (f ls env (hd m gs)) λv=>bi (stable f ls env v c (tl gs)) (k cf b (v::ls) (d v env) m gs) none
def isCells (b:Option Z6):Bool:=match b with
 | some (.cells _ _ _)=>true
 | _=>false
def Fg (x:OF)(c:Nat)(d:d9->T d9->T d9)(k:DC):DC:=λcf b ls env m gs=>match x ls env with
 | .slice id _ _ _=>bi (isVoid ((hd m gs).get id)) (bi (isCells (m.get id)) (ob (aT x ls env m) λv=>k cf b (v::ls) (d v env) m gs) none) (xq (aT x) c d k cf b ls env m gs)
 | _=>xq (aT x) c d k cf b ls env m gs
def aj1 (c:Nat)(o:SV)(d:Option Nat)(g:Option (aO×Bool))(k:DC):DC:=match o,g with
 | .bytesStr y,none=>Fg (J4 y) c (fB d) k
 | o,g=>xq (Da g (xJ o)) c (fB d) k
def Td (m:Mem)(i:Nat)(b:Option Z6):Mem:=Option.rec m (λb=>m.set i b) b
def dcL (f:LF)(c:Nat)(d:d9->T d9->T d9)(k:DC):DC:=λcf b ls env m gs=>ob (f ls env (Nat.add b c)) λr=>bi (isVoid (m.get (Nat.add b c))) (bi (gU (Nat.add b c) gs) (k cf b (r.1::ls) (d r.1 env) (Td m (Nat.add b c) r.2) gs) none) none
abbrev GF:=List d9->T d9->Bool
def Bg:GF:=λ_ _=>true
def Ik:GF:=λ_ _=>false
def Zl (k:GF):GF:=λls env=>k (.undef::ls) env
def ghP (f:PF)(k:GF):GF:=λls env=>Option.rec false (λv=>k (v::ls) env) (f ls env)
def Zm (ds:List Bool):aO->Bool
 | .loc k=>ds.getD k false
 | _=>false
def Gs (ds:List Bool)(i:Inst):Bool:=(IJ i.op).any (Zm ds)||(match i.guard with
 | some p=>Zm ds p.1
 | none=>false)
def Db:List (Nat×Inst)->List Bool->GF
 | [],_=>Bg
 | x::l,ds=>match x.2.dst with
  | some _=>Ik
  | none=>match x.2.op with
   | .e _=>Zl (Db l (true::ds))
   | .a _=>Ik
   | .r _=>bif Gs ds x.2 then Zl (Db l (true::ds)) else Ik
   | .p o=>bif Gs ds x.2 then Zl (Db l (true::ds)) else ghP (HZ x.2.guard (qJ o)) (Db l (false::ds))
def PW:List (Nat×Inst)->List Bool->Bool
 | [],_=>true
 | x::l,ds=>match x.2.dst with
  | some _=>false
  | none=>match x.2.op with
   | .e _=>PW l (true::ds)
   | .a _=>false
   | .r _=>bif Gs ds x.2 then PW l (true::ds) else false
   | .p _=>PW l (Gs ds x.2::ds)
def acR (o:CY)(l:List (Nat×Inst)):GF:=match o with
 | .e (.call _ _)=>bif PW l [true] then Db l [true] else Ik
 | .e (.callv _ _)=>bif PW l [true] then Db l [true] else Ik
 | .e (.panic _)=>bif PW l [true] then Db l [true] else Ik
 | _=>Ik
def PX (f:EF)(gh:GF)(d:d9->T d9->T d9)(k:DC):DC:=λcf b ls env m gs=>Tc (f cf ls env m) λr=>jf r.v (λx=>bi (gh (.undef::ls) (d .undef env)) (some [⟨env,r.m,some x,[]⟩]) none) (k cf b (r.v::ls) (d r.v env) r.m (r.m::gs))
def aj2 (c:Nat)(o:CY)(d:Option Nat)(g:Option (aO×Bool))(gh:GF)(k:DC):DC:=match o with
 | .p o=>lJ (HZ g (qJ o)) (fB d) k
 | .r o=>aj1 c o d g k
 | .a o=>dcL (Ta g (Gr o)) c (fB d) k
 | .e o=>PX (NM g (wR o)) gh (fB d) k
def Fh:List (Nat×Inst)->DC
 | []=>sP
 | (c,i)::l=>aj2 c i.op i.dst i.guard (acR i.op l) (Fh l)
def reserve (n:Nat)(m:Mem):Mem:=Nat.rec (λm=>m) (λ_ ih m=>ih (m.new .void)) n m
structure Out where
 x:bP
 env:T d9
 m:Mem
 marks:List Mk
 pv:Option d9
abbrev SC:=H7->Nat->Option Nat->T d9->Mem->List Mk->Option (List Out)
def uf (x:bP)(env:T d9)(m:Mem)(k:List Mk):Option (List Out):=some [⟨x,env,m,k,none⟩]
def kW:SC:=λ_ _ _ env m k=>uf .normal env m k
def om (k:List Mk)(e:EM):Option (List Out):=
 Option.rec (uf .normal e.env e.m (cZ e.mks k)) (λx=>some [⟨.ret,e.env,e.m,cZ e.mks k,some x⟩]) e.px
def bM (r:RC):SC:=λcf _ _ env m k=>bnd (r cf [] env m) (om k)
def qh (r:RC):SC:=λcf _ ir env m k=>Option.rec (bnd (r cf [] env m) (om k)) (λ_=>none) ir
def lS:List Inst->Bool
 | []=>false
 | i::l=>(sO i).isSome||lS l
def mX (n:Nat)(r:DC):SC:=λcf _ _ env m k=>bnd (r cf m.nx [] env (reserve n m) [reserve n m]) (om k)
def dx (a b:SC):SC:=λcf fuel ir env m k=>bnd (a cf fuel ir env m k) λo=>bP.rec (b cf fuel ir o.env o.m o.marks) (λ_=>some [o]) (some [o]) o.x
def oo (c:OF)(a b:SC):SC:=λcf fuel ir env m k=>qU (c [] env) λt=>bi t (a cf fuel ir env m k) (b cf fuel ir env m k)
def kI (id:Nat)(a:SC):SC:=λcf fuel ir env m k=>bnd (a cf fuel ir env m k) λo=>bP.rec (some [o]) (λid'=>bi (Nat.beq id id') (uf .normal o.env o.m o.marks) (some [o])) (some [o]) o.x
def J5 (body:T d9->Mem->List Mk->Option (List Out))(n:Nat):T d9->Mem->List Mk->Option (List Out):=
 Nat.rec (λ_ _ _=>none) (λ_ ih env m k=>bnd (body env m k) λo=>bP.rec (ih o.env o.m o.marks) (λ_=>some [o]) (some [o]) o.x) n
def qj (a:SC):SC:=λcf fuel ir env m k=>J5 (λenv m k=>a cf fuel ir env m k) fuel env m k
def ru (id:Nat):SC:=λ_ _ _ env m k=>uf (.exit id) env m k
def nR:SC:=λ_ _ _ env m k=>uf .ret env m k
def sQ (b:Option Z6)(f:LoopState->Option bP->T d9->List (Option Nat)->bE->bE->Option β):Option β:=match b with
 | some (.loop st pend env params assign body)=>f st pend env params assign body
 | _=>none
def Zn (cf:H7)(m:Mem)(args:List d9)(v:d9):pI:=PI v λfn a b=>match fn with
 | .func f=>cf (.func f) (cZ a (cZ args b)) m
 | _=>none
def Te (cf:H7)(f:d9)(params:List (Option Nat))(assign body:bE)(env:T d9)(m:Mem)(k:List Mk):Option (List Out):=
 bnd (Zn cf (m.new (.loop .ready none env params assign body)) [.func (.yield m.nx) [] []] f) λr=>jf r.v (λ_=>none) <|
  sQ (r.m.get m.nx) λst pend _ _ _ _=>match st with
   | .busy=>none
   | _=>match pend with
    | none=>uf .normal env (r.m.set m.nx .dead) k
    | some x=>uf x env (r.m.set m.nx .dead) k
def oL (f:OF)(params:List (Option Nat))(assign body:bE):SC:=λcf _ ir env m k=>
 Option.rec (Te cf (f [] env) params assign body env (m.new .deferred) (.c m.nx::k))
  (λl=>sQ (m.get l) λ_ _ _ _ _ _=>Te cf (f [] env) params assign body env m k) ir
def xL:bE->SC
 | .skip=>kW
 | .reg ops=>bif lS ops then qh (jA ops) else bM (jA (qg [] ops))
 | .dreg n ops=>mX n (Fh ops)
 | .seq a b=>dx (xL a) (xL b)
 | .cond c a b=>oo (J4 c) (xL a) (xL b)
 | .block id a=>kI id (xL a)
 | .loop a=>qj (xL a)
 | .exit id=>ru id
 | .ret=>nR
 | .rangeFunc f params assign body=>oL (J4 f) params assign body
def gJ (js:List (Option Nat)):List d9->T d9->Option (T d9):=
 List.rec (λvs env=>List.rec (some env) (λ_ _ _=>none) vs) (λj _ ih vs env=>List.rec none (λv vs _=>ih vs (fB j v env)) vs) js
def results (rs:List qQ)(env:T d9)(m:Mem):Option (List d9):=
 List.rec (some []) (λr _ ih=>ob (match r with
  | .tmp j=>T.get env j
  | .cell j size=>ob (T.get env j) λp=>pG p λid off=>aU (m.get id) λrs n rows=>match size with
   | none=>cell1 rs n rows off
   | some k=>ob (qc rs n rows off k) λl=>some (.agg l)) λv=>ob ih λl=>some (v::l)) rs
def result (l:List d9):d9:=List.rec (.tuple l) (λv t _=>List.rec v (λ_ _ _=>.tuple l) t) l
def Zo (b:Option Z6)(k:Option β):Option β:=match b with
 | some .deferred=>k
 | _=>none
abbrev mY:=FuncId->List d9->Option d9->Mem->Option (List (Mem×Option d9))
def Zp (dcf:mY)(v:d9)(args:List d9)(md:Option d9)(m:Mem):Option (List (Mem×Option d9)):=PI v λfn a b=>match fn with
 | .func f=>dcf f (cZ a (cZ args b)) md m
 | _=>none
def Jb (dcf:mY)(fin:Option d9->Mem->pI):List Mk->Option d9->Mem->pI:=
 List.rec (λmd m=>fin md m) (λx _ ih md m=>match x with
  | .c id=>Zo (m.get id) (ih md (m.set id .dead))
  | .d v args=>bnd (Zp dcf v args md m) λr=>ih r.2 r.1)
def BM (rs:List qQ)(env:T d9)(md:Option d9)(m:Mem):pI:=
 Option.rec (ob (results rs env m) λl=>one (result l) m) (λx=>one (.aY x) m) md
def leave (dcf:mY)(rs:List qQ)(o:Out):pI:=bP.rec (Jb dcf (BM rs o.env) o.marks none o.m) (λ_=>none) (Jb dcf (BM rs o.env) o.marks o.pv o.m) o.x
def roundEnd (l:Nat)(o:Out):pI:=match o.marks,o.pv with
 | _ :: _,_=>none
 | _,some _=>none
 | [],none=>sQ (o.m.get l) λst pend env params assign body=>match st,pend with
  | .busy,none=>match o.x with
   | .normal=>one (.bool true) (o.m.set l (.loop .ready none env params assign body))
   | x=>one (.bool false) (o.m.set l (.loop .done (some x) env params assign body))
  | _,_=>none
mutual
def Li (lo:Nat):d9->List Nat
 | .ptr i _ | .slice i _ _ _ | .sliceU i _ _ _ | .map i=>bi (Nat.ble lo i) [i] []
 | .func _ a b=>sD lo a++sD lo b
 | .iface _ v=>Li lo v
 | .agg l=>sD lo l
 | .tuple l=>sD lo l
 | _=>[]
def sD (lo:Nat):List d9->List Nat
 | []=>[]
 | v::l=>Li lo v++sD lo l
end
inductive NB where
 | cells (rs:Nat) (rows:List (List d9))
 | map (es:List (d9×d9))
 | tail (p:Nat)
 | dead
 deriving Inhabited
def AU (b:Z6):Option NB:=match b with
 | .cells rs n rows=>ob (rows.slice n 0) λl=>some (.cells rs l)
 | .map es=>some (.map es)
 | .tail p=>some (.tail p)
 | .dead=>some .dead
 | _=>none
def PY (lo:Nat):List (List d9)->List Nat
 | []=>[]
 | l::ls=>sD lo l++PY lo ls
def Zq (lo:Nat):List (d9×d9)->List Nat
 | []=>[]
 | e::es=>Li lo e.1++(Li lo e.2++Zq lo es)
def PZ (lo:Nat):NB->List Nat
 | .cells _ rows=>PY lo rows
 | .map es=>Zq lo es
 | .tail p=>bi (Nat.ble lo p) [p] []
 | .dead=>[]
def LQ (n:Nat)(l:List (Nat×NB)):Bool:=List.rec false (λx _ ih=>bi (Nat.beq x.1 n) true ih) l
def reach (m:Mem)(lo n:Nat):List Nat->List (Nat×NB)->Option (List (Nat×NB)):=
 Nat.rec (λ_ _=>none) (λ_ ih work seen=>List.rec (some seen.reverse) (λw ws _=>
  bi (LQ w seen) (ih ws seen) (ob (m.get w) λb=>ob (AU b) λnb=>ih (PZ lo nb++ws) ((w,nb)::seen))) work) n
def placeOf (i:Nat)(l:List Nat):Nat->Option Nat:=List.rec (λ_=>none) (λx _ ih k=>bi (Nat.beq x i) (some k) (ih (Nat.succ k))) l
mutual
def iJ (r:Nat->Option Nat):d9->Option d9
 | .ptr i o=>ob (r i) λj=>some (.ptr j o)
 | .slice i o l c=>ob (r i) λj=>some (.slice j o l c)
 | .sliceU i o l c=>ob (r i) λj=>some (.sliceU j o l c)
 | .map i=>ob (r i) λj=>some (.map j)
 | .func fn a b=>match fn with
  | .yield _=>none
  | fn=>ob (pJ r a) λx=>ob (pJ r b) λy=>some (.func fn x y)
 | .iface t v=>ob (iJ r v) λx=>some (.iface t x)
 | .agg l=>ob (pJ r l) λx=>some (.agg x)
 | .tuple l=>ob (pJ r l) λx=>some (.tuple x)
 | .aY _=>none
 | v=>some v
def pJ (r:Nat->Option Nat):List d9->Option (List d9)
 | []=>some []
 | v::l=>ob (iJ r v) λx=>ob (pJ r l) λy=>some (x::y)
end
def nT (r:Nat->Option Nat):List (List d9)->Option (List (List d9))
 | []=>some []
 | l::ls=>ob (pJ r l) λx=>ob (nT r ls) λy=>some (x::y)
def Ia (r:Nat->Option Nat):List (d9×d9)->Option (List (d9×d9))
 | []=>some []
 | e::es=>ob (iJ r e.1) λx=>ob (iJ r e.2) λy=>ob (Ia r es) λz=>some ((x,y)::z)
def sG (r:Nat->Option Nat):NB->Option NB
 | .cells rs rows=>ob (nT r rows) λx=>some (.cells rs x)
 | .map es=>ob (Ia r es) λx=>some (.map x)
 | .tail p=>ob (r p) λq=>some (.tail q)
 | .dead=>some .dead
def wS (r:Nat->Option Nat):List NB->Option (List NB)
 | []=>some []
 | p::l=>ob (sG r p) λx=>ob (wS r l) λy=>some (x::y)
structure CO where
 ids:List Nat
 vs:List d9
 bs:List NB
def uh (lo:Nat)(ids:List Nat)(i:Nat):Option Nat:=bi (Nat.ble lo i) (placeOf i ids lo) (some i)
def kJ (lo:Nat)(vs:List d9)(m:Mem):Option CO:=
 ob (reach m lo 100000 (sD lo vs) []) λseen=>ob (pJ (uh lo (seen.map (·.1))) vs) λxs=>ob (wS (uh lo (seen.map (·.1))) (seen.map (·.2))) λbs=>some ⟨seen.map (·.1),xs,bs⟩
def eO:NB->Z6
 | .cells rs rows=>.cells rs (len' rows) (T.ofList rows)
 | .map es=>.map es
 | .tail p=>.tail p
 | .dead=>.dead
def layAll (bs:List NB):Mem->Mem:=List.rec (λm=>m) (λb _ ih m=>ih (m.new (eO b))) bs
def Fj:List (List d9)->List (List d9)->Bool
 | [],[]=>true
 | a::x,b::y=>bi (vN (bS 100) a b) (Fj x y) false
 | _,_=>false
def LU:List (d9×d9)->List (d9×d9)->Bool
 | [],[]=>true
 | a::x,b::y=>bi (bS 100 a.1 b.1) (bi (bS 100 a.2 b.2) (LU x y) false) false
 | _,_=>false
def bO:NB->NB->Bool
 | .cells r a,.cells s b=>bi (Nat.beq r s) (Fj a b) false
 | .map a,.map b=>LU a b
 | .tail p,.tail q=>Nat.beq p q
 | .dead,.dead=>true
 | _,_=>false
def ou:List NB->List NB->Bool
 | [],[]=>true
 | a::x,b::y=>bi (bO a b) (ou x y) false
 | _,_=>false
structure EK where
 v:d9
 bs:List NB
def Bh (lo:Nat)(r:VM):Option EK:=ob (kJ lo [r.v] r.m) λc=>List.rec none (λv _ _=>some ⟨v,c.bs⟩) c.vs
def NN (lo:Nat)(l:List VM):Option EK:=
 List.rec none (λr rs ih=>ob (Bh lo r) λa=>List.rec (some a) (λ_ _ _=>ob ih λb=>bi (bS 100 a.v b.v) (bi (ou a.bs b.bs) (some a) none) none) rs) l
structure L6 where
 pure:Bool
 args:List (Option Nat)
 nslots:Nat
 results:List qQ
 code:SC
 rcode:Option bE
structure Known where
 fns:FuncId->Option L6
 base:Mem
 sum:FuncId->List d9->List NB->Option EK
def dI (cf:H7)(dcf:mY)(fuel:Nat)(f:L6)(args:List d9)(m:Mem):pI:=
 ob (gJ f.args args (T.rep .undef f.nslots .e 0)) λenv=>bnd (f.code cf fuel none env m []) (leave dcf f.results)
structure Tf where
 o:Out
 md:Option d9
def isRec (i:Inst):Bool:=match i.op,i.guard with
 | .e .recover,none=>true
 | _,_=>false
def Jc:List Inst->Bool
 | []=>false
 | i::l=>isRec i||Jc l
def xM:List Inst->H7->List d9->T d9->Mem->Option d9->Option (List (EM×Option d9))
 | [],_,_,env,m,md=>some [(⟨env,m,none,[]⟩,md)]
 | i::l,cf,ls,env,m,md=>match isRec i with
  | true=>match md with
   | some x=>xM l cf (x::ls) (fB i.dst x env) m none
   | none=>xM l cf (.nilIface::ls) (fB i.dst .nilIface env) m none
  | false=>match i.op with
   | .p o=>ob (HZ i.guard (qJ o) ls env) λv=>xM l cf (v::ls) (fB i.dst v env) m md
   | .r o=>ob (Da i.guard (xJ o) ls env m) λv=>xM l cf (v::ls) (fB i.dst v env) m md
   | _=>none
def Bj:bE->H7->Nat->T d9->Mem->Option d9->Option (List Tf)
 | .seq a b,cf,fuel,env,m,md=>bnd (Bj a cf fuel env m md) λr=>match r.o.x with
  | .normal=>match r.o.marks with
   | []=>Bj b cf fuel r.o.env r.o.m r.md
   | _=>none
  | _=>some [r]
 | .cond c a b,cf,fuel,env,m,md=>qU (J4 c [] env) λt=>bi t (Bj a cf fuel env m md) (Bj b cf fuel env m md)
 | .reg ops,cf,fuel,env,m,md=>match Jc ops with
  | true=>bnd (xM ops cf [] env m md) λr=>some [⟨⟨.normal,r.1.env,r.1.m,[],none⟩,r.2⟩]
  | false=>bnd (xL (.reg ops) cf fuel none env m []) λo=>some [⟨o,md⟩]
 | c,cf,fuel,env,m,md=>bnd (xL c cf fuel none env m []) λo=>some [⟨o,md⟩]
def Tg (rs:List qQ)(r:Tf):Option (List (Mem×Option d9)):=match r.o.x,r.o.marks,r.o.pv with
 | .exit _,_,_=>none
 | _,[],none=>ob (results rs r.o.env r.o.m) λ_=>some [(r.o.m,r.md)]
 | _,_,_=>none
def acS (cf:H7)(fuel:Nat)(f:L6)(args:List d9)(md:Option d9)(m:Mem):Option (List (Mem×Option d9)):=
 ob f.rcode λc=>ob (gJ f.args args (T.rep .undef f.nslots .e 0)) λenv=>bnd (Bj c cf fuel env m md) (Tg f.results)
def Mem.shut (m:Mem):Mem:=⟨m.t,m.nx,m.nx⟩
def Gt (K:Known)(cf:H7)(fuel:Nat):mY:=λf args md m=>ob (K.fns f) λsf=>acS cf fuel sf args md m
def Gu (K:Known)(cf:H7)(fuel:Nat)(f:FuncId)(sf:L6)(args:List d9)(bs:List NB):Option EK:=
 Option.rec (ob (dI cf (Gt K cf fuel) fuel sf args (layAll bs K.base).shut) λl=>NN (layAll bs K.base).nx l) (λa=>some a) (K.sum f args bs)
def iK (g:Nat)(ids:List Nat)(next i:Nat):Option Nat:=
 bi (Nat.blt i g) (some i) (bi (Nat.blt (Nat.sub i g) (len' ids)) (vJ (Nat.sub i g) ids) (some (Nat.add next (Nat.sub (Nat.sub i g) (len' ids)))))
def xO (K:Known)(cf:H7)(fuel:Nat)(f:FuncId)(sf:L6)(args:List d9)(m:Mem):pI:=
 ob (kJ K.base.nx args m) λc=>ob (Gu K cf fuel f sf c.vs c.bs) λa=>ob (iJ (iK K.base.nx c.ids m.nx) a.v) λv=>ob (wS (iK K.base.nx c.ids m.nx) a.bs) λbs=>one v (layAll bs m)
def NP (cf:H7)(fuel l:Nat)(args:List d9)(m:Mem):pI:=
 bi (Nat.blt l m.lim) none (sQ (m.get l) λst pend env params assign body=>match st,pend with
  | .ready,none=>ob (gJ params args env) λenv1=>bnd (xL assign cf fuel (some l) env1 m []) λo=>match o.x,o.marks with
   | .normal,[]=>sQ (o.m.get l) λst2 pend2 env2 params2 assign2 body2=>match st2,pend2 with
    | .ready,none=>bnd (xL body cf fuel (some l) o.env (o.m.set l (.loop .busy none env2 params2 assign2 body2)) []) (roundEnd l)
    | _,_=>none
   | _,_=>none
  | _,_=>none)
def l8 (K:Known)(fuel n:Nat):H7:=
 Nat.rec (λ_ _ _=>none) (λ_ ih fn args m=>match fn with
  | .func f=>ob (K.fns f) λsf=>bi sf.pure (xO K ih fuel f sf args m) (dI ih (Gt K ih fuel) fuel sf args m)
  | .yield l=>NP ih fuel l args m
  | _=>none) n
mutual
def ofValue:Value->Option d9
 | .bool b=>some (.bool b)
 | .int k n=>some (.int k n)
 | .string s=>some (.str s.data.toList)
 | .pointer none=>some .nilPtr
 | .slice none 0 0=>some .nilSlice
 | .map none=>some .nilMap
 | .func (.func f) ⟨[]⟩ ⟨[]⟩=>some (.func (.func f) [] [])
 | .nilFunc=>some .nilFunc
 | .nilIface=>some .nilIface
 | .agg ⟨l⟩=>match ofValues l with
  | some x=>some (.agg x)
  | none=>none
 | .tuple ⟨[]⟩=>some (.tuple [])
 | _=>none
def ofValues:List Value->Option (List d9)
 | []=>some []
 | v::l=>match ofValue v,ofValues l with
  | some x,some y=>some (x::y)
  | _,_=>none
end
section
variable (P:Program)
def gG (t:TypeId):Option Nat:=(P.info? t).map (·.size)
def lC (t:TypeId):Option Nat:=(P.info? t).map (·.bytes)
def AV (t:TypeId):Option Bool:=match P.underlying t with
 | some (.struct _) | some (.array _ _)=>some true
 | some _=>some false
 | none=>none
def partT (t:TypeId):Option (Option Nat):=match AV P t,gG P t with
 | some true,some n=>some (some n)
 | some false,some _=>some none
 | _,_=>none
def uN (t:TypeId):Option (List d9):=match (P.info? t).bind (·.zero) with
 | some z=>match ofValue z with
  | some a=>some a.cells
  | none=>none
 | none=>none
def zeroV (t:TypeId):Option d9:=match (P.info? t).bind (·.zero) with
 | some z=>ofValue z
 | none=>none
def rz (f:TypeId->Option (List PK)):List Field->Nat->Option (List PK)
 | [],_=>some []
 | fd::l,off=>if fd.name≠ "_"∧fd.offset=off then match f fd.type with
   | some ks=>match rz f l (off+ks.length) with
    | some r=>some (ks++r)
    | none=>none
   | none=>none
  else none
def jg:Nat->TypeId->Option (List PK)
 | 0,_=>none
 | d+1,t=>match P.underlying t with
  | some .bool=>if gG P t=some 1 then some [.b] else none
  | some (.int _)=>if gG P t=some 1 then some [.i] else none
  | some .string=>if gG P t=some 1 then some [.s] else none
  | some (.struct fs)=>match rz (jg d) fs.toList 0 with
   | some ks=>if P.stoodInHeld t=false∧gG P t=some ks.length then some ks else none
   | none=>none
  | _=>none
def Zr (cst:Bool)(t:TypeId):Option Ij:=match P.underlying t with
 | some .bool=>some (.prim .b)
 | some (.int _)=>some (.prim .i)
 | some .string=>some (.prim .s)
 | some (.struct _)=>match jg P 10 t with
  | some k=>if P.eqGuardType P.depth t=false then some (.flat k) else none
  | none=>none
 | some (.pointer _)=>some .ptr
 | some (.slice _)=>some .slice
 | some (.map _ _)=>some .map
 | some (.func ..)=>some .func
 | some (.interface _)=>if cst then some .iface else none
 | _=>none
def acT (t:TypeId):Option Ij:=match P.underlying t with
 | some (.array n e)=>match P.underlying e with
  | some (.int _)=>if gG P e=some 1∧P.eqGuardType P.depth t=false then some (.flat (List.replicate n .i)) else none
  | _=>none
 | _=>none
def Zt (cst:Bool)(t:TypeId):Option Ij:=match Zr P cst t with
 | some k=>some k
 | none=>acT P t
def Qa (t:TypeId):Option (List d9):=match uN P t,gG P t with
 | some z,some k=>if z.length=k then some z else none
 | _,_=>none
def Dc (t:TypeId):Option Ij:=match Zr P false t with
 | some (.prim j)=>some (.prim j)
 | some (.flat ks)=>some (.flat ks)
 | _=>none
end
def idxOf (t:Nat):List Nat->Nat->Option Nat
 | [],_=>none
 | x::l,i=>bif Nat.beq x t then some i else idxOf t l (i+1)
def kX (t:Nat):List (Option Nat)->Nat->Option Nat
 | [],_=>none
 | some x::l,i=>bif Nat.beq x t then some i else kX t l (i+1)
 | none::l,i=>kX t l (i+1)
section
variable (P:Program)(slots:List Nat)(done:List (Option Nat))
def ay:Operand->Option aO
 | .tmp t=>match kX t done 0 with
  | some k=>some (.loc k)
  | none=>match idxOf t slots 0 with
   | some j=>some (.slot j)
   | none=>none
 | .const v=>match ofValue v with
  | some a=>some (.con a)
  | none=>none
 | .global g=>if g<P.globals.size then some (.con (.ptr g 0)) else none
 | .func f=>some (.con (.func (.func f) [] []))
def mE:List Operand->Option (List aO)
 | []=>some []
 | x::l=>match ay P slots done x,mE l with
  | some a,some b=>some (a::b)
  | _,_=>none
def cOpt:Option Operand->Option (Option aO)
 | none=>some none
 | some x=>match ay P slots done x with
  | some a=>some (some a)
  | none=>none
def Bl:Operand->Bool
 | .const _=>true
 | _=>false
def xP (place:Nat->Option (Nat×Nat)):List (Nat×Operand)->Option (List (Nat×Nat×aO))
 | []=>some []
 | p::l=>match place p.1,ay P slots done p.2,xP place l with
  | some (o,s),some x,some r=>some ((o,s,x)::r)
  | _,_,_=>none
def placesOf:List Field->Option (List (Nat×Nat))
 | []=>some []
 | f::l=>match gG P f.type,placesOf l with
  | some s,some r=>some ((f.offset,s)::r)
  | _,_=>none
def BN (t:TypeId)(parts:List (Nat×Operand)):Option CY:=
 match uN P t,P.underlying t with
 | some zero,some (.struct fields)=>match placesOf P fields.toList with
  | some pl=>match xP P slots done (λi=>pl[i]?) parts with
   | some ps=>some (.p (.build zero ps))
   | none=>none
  | none=>none
 | some zero,some (.array _ elem)=>match gG P elem with
  | some s=>match xP P slots done (λi=>some (i*s,s)) parts with
   | some ps=>some (.p (.build zero ps))
   | none=>none
  | none=>none
 | _,_=>none
def xQ (b:Builtin)(ts:List TypeId)(args:List Operand):Option CY:=do
 match b,ts,args with
 | .len,[t],[x]=>match ← P.underlying t with
  | .string=>do pure (.p (.lenS (← ay P slots done x)))
  | .slice _=>do pure (.p (.len (← ay P slots done x)))
  | .array n _=>pure (.p (.mov (.con (.int .i64 n))))
  | .map _ _=>do pure (.r (.lenM (← ay P slots done x)))
  | _=>none
 | .cap,[t],[x]=>match ← P.underlying t with
  | .slice _=>do pure (.p (.cap (← ay P slots done x)))
  | _=>none
 | .append,[t,u],[s,x]=>match ← P.underlying t with
  | .slice e=>do
   let d ← P.underlying u
   let zs:=match d with | .int _=>true | _=>false
   pure (.e (.app (← gG P e) zs (← Qa P e) (← lC P e) (← ay P slots done s) (← ay P slots done x)))
  | _=>none
 | .copy,[t,_],[d,s]=>match ← P.underlying t with
  | .slice e=>do pure (.e (.copy (← gG P e) (← ay P slots done d) (← ay P slots done s)))
  | _=>none
 | .clear,[t],[x]=>match ← P.underlying t with
  | .slice e=>do pure (.e (.clear (← uN P e) (← ay P slots done x)))
  | _=>none
 | .max,_,x::xs=>do pure (.p (.mm true (← ay P slots done x) (← mE P slots done xs)))
 | .min,_,x::xs=>do pure (.p (.mm false (← ay P slots done x) (← mE P slots done xs)))
 | .recover,[],[]=>pure (.e .recover)
 | _,_,_=>none
def jS (o:Op):Option CY:=do
 let r:=ay P slots done
 match o with
 | .move x | .assign x=>pure (.p (.mov (← r x)))
 | .pick c a b=>pure (.p (.pick (← r c) (← r a) (← r b)))
 | .alloc t=>pure (.a (.alloc (← uN P t)))
 | .box _ x=>pure (.a (.box (← r x)))
 | .build t parts=>BN P slots done t parts.toList
 | .buildSlice t len parts=>match ← P.underlying t with
  | .slice e=>do
   let es ← gG P e
   let ps ← xP P slots done (λi=>some (i*es,es)) parts.toList
   if len*es<=16777216 then pure (.a (.buildSlice es len (← uN P e) ps)) else none
  | _=>none
 | .load t a=>pure (.r (.load (← partT P t) (← r a)))
 | .store t a x=>pure (.e (.store (← gG P t) (← r a) (← r x)))
 | .nilCheck x=>pure (.p (.nilCheck (← r x)))
 | .binOp op t x y _=>match op with
  | .eql | .neq=>do
   let k ← Zt P (Bl x||Bl y) t
   let neg:=match op with | .neq=>true | _=>false
   match k with
   | .prim .i=>pure (.p (.ib op (← r x) (← r y)))
   | .prim .s=>pure (.p (.ib op (← r x) (← r y)))
   | k=>pure (.p (.eq neg k (← r x) (← r y)))
  | _=>pure (.p (.ib op (← r x) (← r y)))
 | .unOp op _ x=>match op with
  | .not=>do pure (.p (.not (← r x)))
  | .neg=>do pure (.p (.neg (← r x)))
  | _=>none
 | .convert s d x=>match ← P.underlying s,← P.underlying d with
  | .int _,.int k=>do pure (.p (.conv k (← r x)))
  | .string,.slice e=>match ← P.underlying e with
   | .int .u8=>do pure (.a (.strBytes (← r x)))
   | _=>none
  | .slice e,.string=>match ← P.underlying e with
   | .int .u8=>do pure (.r (.bytesStr (← r x)))
   | _=>none
  | _,_=>none
 | .makeInterface t x=>match ← P.underlying t with
  | .interface _=>none
  | _=>do pure (.p (.mkIface t (← r x)))
 | .makeFunc fn a b=>match fn with
  | .func f=>do pure (.p (.mkFunc (.func f) (← mE P slots done a.toList) (← mE P slots done b.toList)))
  | _=>none
 | .makeMap t res=>match res with
  | none=>pure (.a .mkMap)
  | some (.const (.int _ _))=>match P.underlying t with
   | some (.map _ _)=>pure (.a .mkMap)
   | _=>none
  | _=>none
 | .makeSlice t l c=>match ← P.underlying t with
  | .slice e=>do pure (.a (.mkSlice (← gG P e) (← lC P e) (← Qa P e) (← r l) (← r c)))
  | _=>none
 | .slice t x lo hi none=>match ← P.underlying t with
  | .string=>do pure (.p (.slStr (← r x) (← cOpt P slots done lo) (← cOpt P slots done hi)))
  | .slice e=>do pure (.a (.sl (← gG P e) (← r x) (← cOpt P slots done lo) (← cOpt P slots done hi)))
  | .array n e=>do pure (.p (.slArr (← gG P e) n (← r x) (← cOpt P slots done lo) (← cOpt P slots done hi)))
  | _=>none
 | .fieldAddr s x f=>match ← P.underlying s with
  | .struct fs=>do
   let fd ← fs[f]?
   let sz ← gG P fd.type
   if sz=0 then none else pure (.p (.fAddr fd.offset (← r x)))
  | _=>none
 | .field s x f=>match ← P.underlying s with
  | .struct fs=>do
   let fd ← fs[f]?
   pure (.p (.fld fd.offset (← partT P fd.type) (← r x)))
  | _=>none
 | .indexAddr t x i=>match ← P.underlying t with
  | .slice e=>do pure (.p (.iAddr (← gG P e) (← r x) (← r i)))
  | .array n e=>do pure (.p (.iAddrArr (← gG P e) n (← r x) (← r i)))
  | _=>none
 | .index t x i=>match ← P.underlying t with
  | .string=>do pure (.p (.iStr (← r x) (← r i)))
  | .array n e=>do pure (.p (.iArr (← gG P e) n (← partT P e) (← r x) (← r i)))
  | _=>none
 | .lookup t x k ok=>match ← P.underlying t with
  | .map kt e=>do pure (.r (.look (← Dc P kt) (← zeroV P e) ok (← r x) (← r k)))
  | _=>none
 | .mapUpdate t m k x | .insert t m k x=>match ← P.underlying t with
  | .map kt _=>do pure (.e (.mapSet (← Dc P kt) (← r m) (← r k) (← r x)))
  | _=>none
 | .range t x=>match ← P.underlying t with
  | .map _ _=>do pure (.e (.range (← r x)))
  | _=>none
 | .next it false=>pure (.e (.next (← r it)))
 | .entry it=>pure (.r (.entry (← r it)))
 | .extract x i=>pure (.p (.ext (← r x) i))
 | .typeAssert x _ t ok=>match ← P.underlying t with
  | .interface _=>none
  | _=>do pure (.p (.assert t (← zeroV P t) ok (← r x)))
 | .panic x=>pure (.e (.panic (← r x)))
 | .defer c=>match c.callee with
  | .value f=>do pure (.e (.defer (← r f) (← mE P slots done c.args.toList)))
  | _=>none
 | .call c=>match c.callee with
  | .builtin b=>xQ P slots done b c.argTypes.toList c.args.toList
  | .value (.func f)=>do
   let fn ← P.funcs[f]?
   if fn.body.isSome&&fn.name != "runtime.NumGoroutine" then pure (.e (.call f (← mE P slots done c.args.toList))) else none
  | .value f=>do pure (.e (.callv (← r f) (← mE P slots done c.args.toList)))
  | _=>none
 | _=>none
def Qb:Option Tmp->Option Nat
 | none=>none
 | some t=>idxOf t slots 0
def rA (o:Op):CY:=match jS P slots done o with
 | some a=>a
 | none=>.e .bad
def Qc (ops:Array Oper)(i:Nat):Option (Inst×Option Nat):=do
 let o ← ops[i]?
 let a:=rA P slots done o.op
 let g ← match o.guard with
  | none=>pure none
  | some (j,w)=>do
   let og ← ops[j]?
   let d ← og.dst
   let k ← kX d done 0
   pure (some (aO.loc k,w))
 pure (⟨a,Qb slots o.dst,g⟩,o.dst)
end
def mZ (P:Program)(slots:List Nat)(ops:Array Oper):List (Option Nat)->List Nat->Option (List Inst)
 | _,[]=>some []
 | done,i::rest=>match Qc P slots done ops i with
  | some (x,d)=>match mZ P slots ops (d::done) rest with
   | some l=>some (x::l)
   | none=>none
  | none=>none
def bitsOf (e:Array Edge)(acc:List Nat):Nat:=
 e.toList.foldl (λs x=>if Region.binds .any x then s ||| (1 <<< x.on) ||| (acc.getD x.on 0) else s) 0
def masks (ops:List Oper):List Nat:=ops.foldl (λacc o=>acc ++ [bitsOf o.after acc]) []
def mOf (ms:List Nat)(i j:Nat):Bool:=Nat.testBit (ms.getD i 0) j
def amI:Op->Bool
 | .store .. | .mapUpdate .. | .insert .. | .range .. | .next .. | .mapEntry .. | .entryStore .. | .panic _ | .defer _ | .typeAssert ..=>true
 | .call {callee:=.builtin b,..}=>match b with
  | .append | .copy | .clear | .delete=>true
  | _=>false
 | .call _=>true
 | _=>false
def Jd (ops:Array Oper)(i:Nat):Bool:=
 match ops[i]? with
 | some o=>amI o.op
 | none=>false
def canon (eff:Nat->Bool)(ms:List Nat)(n:Nat):List Nat:=
 let effs:=(List.range n).filter eff
 let step (acc:List Nat) (e:Nat):List Nat:=acc++(List.range n).filter (λi=>!acc.contains i&&mOf ms e i) ++ [e]
 let acc:=effs.foldl (λacc e=>if acc.contains e then acc else step acc e) []
 acc++(List.range n).filter (λi=>!acc.contains i)
def K9 (x:Inst):Bool:=match x.op with
 | .e _=>true
 | _=>false
def isA (x:Inst):Bool:=match x.op with
 | .a _=>true
 | _=>false
def isR (x:Inst):Bool:=match x.op with
 | .r _=>true
 | _=>false
def aj3 (ms:List Nat)(i:Nat)(x:Inst)(effs:List Nat)(nal:Nat):Nat:=
 if isR x then (effs.takeWhile λe=>!mOf ms i e).length else nal
def numbered (ms:List Nat):List (Nat×Inst)->List Nat->Nat->List (Nat×Inst)
 | [],_,_=>[]
 | (i,x)::rest,effs,nal=>(aj3 ms i x effs nal,x)::numbered ms rest (if K9 x then i::effs else effs) (if isA x then nal+1 else nal)
def BO (ops:Array Oper)(o:Oper):List Nat:=
 (o.op.operands.toList.filterMap fun | .tmp t=>some t | _=>none) ++
 (match o.guard with
  | some (g,_)=>((ops[g]?).bind (·.dst)).toList
  | none=>[])
def Qd:List Nat->Bool
 | []=>true
 | x::l=>!l.contains x&&Qd l
def NQ:List Inst->Nat
 | []=>0
 | x::l=>(if isA x then 1 else 0)+NQ l
def VE (ms:List Nat)(i:Nat)(before:List (Nat×Inst)):aO->Bool
 | .loc k=>match before[k]? with
  | some y=>mOf ms i y.1
  | none=>false
 | .slot j=>before.all λy=>y.2.dst != some j
 | .con _=>true
def xR (ms:List Nat)(ops:Array Oper)(i:Nat)(x:Inst)(before:List (Nat×Inst)):Bool:=
 (match x.op with
  | .e _=>before.all λy=>mOf ms i y.1
  | _=>true) &&
 (match ops[i]? with
  | some o=>(o.after.toList.all λe=>!Region.binds .any e||before.any λy=>y.1==e.on) &&
   ((BO ops o).all λt=>(List.range ops.size).all λq=>q==i||(match ops[q]? with
    | some oq=>oq.dst != some t
    | none=>true)||mOf ms i q||mOf ms q i)
  | none=>false) &&
 ((IJ x.op).all λy=>VE ms i before y) &&
 (match x.guard with
  | some (y,_)=>VE ms i before y
  | none=>true)
def Ae (ms:List Nat)(ops:Array Oper):List (Nat×Inst)->List (Nat×Inst)->Bool
 | [],_=>true
 | y::rest,before=>xR ms ops y.1 y.2 before&&Ae ms ops rest (y::before)
def Zu (ms:List Nat)(ops:Array Oper)(ord:List Nat)(insts:List Inst):Bool:=
 Qd ord&&(ord.all λi=>Nat.blt i ops.size)&&((List.range ops.size).all λi=>ord.contains i)&&Qd (ops.toList.filterMap (·.dst))&&Ae ms ops (ord.zip insts) []
def Gv (P:Program)(slots:List Nat)(ops:Array Oper):Option bE:=
 match mZ P slots ops [] (canon (Jd ops) (masks ops.toList) ops.size) with
 | none=>none
 | some insts=>
  if Zu (masks ops.toList) ops (canon (Jd ops) (masks ops.toList) ops.size) insts then
   some (.dreg (NQ insts) (numbered (masks ops.toList) ((canon (Jd ops) (masks ops.toList) ops.size).zip insts) [] 0))
  else none
def aQ (P:Program)(slots:List Nat):Code->Option bE
 | .skip=>some .skip
 | .region _ ops false=>match mZ P slots ops [] (List.range ops.size) with
  | some l=>some (.reg l)
  | none=>none
 | .region _ ops true=>Gv P slots ops
 | .seq a b=>match aQ P slots a,aQ P slots b with
  | some x,some y=>some (.seq x y)
  | _,_=>none
 | .cond c a b=>match ay P slots [] c,aQ P slots a,aQ P slots b with
  | some z,some x,some y=>some (.cond z x y)
  | _,_,_=>none
 | .block id a=>match aQ P slots a with
  | some x=>some (.block id x)
  | none=>none
 | .loop a=>match aQ P slots a with
  | some x=>some (.loop x)
  | none=>none
 | .exit id=>some (.exit id)
 | .ret=>some .ret
 | .rangeFunc f ps a b=>match ay P slots [] f,aQ P slots a,aQ P slots b with
  | some z,some x,some y=>some (.rangeFunc z (ps.toList.map λt=>idxOf t slots 0) x y)
  | _,_,_=>none
 | _=>none
def tmpsIn (nt:Nat):Code->Bool
 | .region _ ops _=>ops.toList.all λo=>match o.dst with
  | some t=>Nat.blt t nt
  | none=>true
 | .seq a b=>tmpsIn nt a&&tmpsIn nt b
 | .cond _ a b=>tmpsIn nt a&&tmpsIn nt b
 | .block _ a=>tmpsIn nt a
 | .loop a=>tmpsIn nt a
 | .rangeFunc _ _ a b=>tmpsIn nt a&&tmpsIn nt b
 | _=>true
def Ib (P:Program)(slots:List Nat):List ResultVar->Option (List qQ)
 | []=>some []
 | .tmp t::l=>match idxOf t slots 0,Ib P slots l with
  | some j,some r=>some (.tmp j::r)
  | _,_=>none
 | .cell t ty::l=>match idxOf t slots 0,partT P ty,Ib P slots l with
  | some j,some s,some r=>some (.cell j s::r)
  | _,_,_=>none
def YP (P:Program)(slots:List Nat)(f:FuncId):Option AFn:=
 match P.funcs[f]? with
 | none=>none
 | some fn=>match fn.body with
  | none=>none
  | some c=>match aQ P slots c,Ib P slots fn.results.toList with
   | some b,some r=>
    if tmpsIn fn.ntmps c&&(slots.all λt=>Nat.blt t fn.ntmps)&&Nat.blt slots.length 1152921504606846976&&fn.name != "runtime.NumGoroutine" then
     some ⟨fn.params.size+fn.nfree,(List.range (fn.params.size+fn.nfree)).map λt=>idxOf t slots 0,slots.length,r,b⟩
    else none
   | _,_=>none
section
variable {α β γ:Type}
@[simp] theorem I9 (a:α)(k:α->Option β):ob (some a) k=k a:=rfl
@[simp] theorem ayW (k:α->Option β):ob none k=none:=rfl
theorem D9 {o:Option α}{k:α->Option β}{b:β}(h:ob o k=some b):∃a,o=some a∧k a=some b:=by
 cases o with
 | none=>simp at h
 | some a=>exact⟨a,rfl,h⟩
@[simp] theorem aH (x y:α):bi true x y=x:=rfl
@[simp] theorem bA (x y:α):bi false x y=y:=rfl
theorem J9 {b:Bool}{x:Option α}{a:α}(h:bi b x none=some a):b=true∧x=some a:=by
 cases b with
 | true=>exact⟨rfl,h⟩
 | false=>simp at h
theorem Df {b:Bool}{x:Option α}{a:α}(h:bi b none x=some a):b=false∧x=some a:=by
 cases b with
 | true=>simp at h
 | false=>exact⟨rfl,h⟩
end
namespace T
variable {α:Type}
@[simp] theorem aE6 (i:Nat):(T.e:T α).get i=none:=rfl
@[simp] theorem amJ (l:T α)(x:α)(r:T α):(T.nd l x r).get 0=some x:=rfl
theorem gV (l:T α)(x:α)(r:T α)(i:Nat):(T.nd l x r).get (i+1)=if i%2=0 then l.get (i / 2) else r.get (i / 2):=by show (Nat.rec (l.get (Nat.div i 2)) (λ_ _=>r.get (Nat.div i 2)) (Nat.mod i 2):Option α)=_;have h:Nat.mod i 2=i%2:=rfl;rcases acz i with h0 | h1;rw [h,h0];rfl;rw [h,h1];rfl
@[simp] theorem amK (i:Nat)(x:α):(T.e:T α).put i x=.nd .e x .e:=rfl
@[simp] theorem Qe (l:T α)(y:α)(r:T α)(x:α):(T.nd l y r).put 0 x=.nd l x r:=rfl
theorem bQ (l:T α)(y:α)(r:T α)(i:Nat)(x:α):(T.nd l y r).put (i+1) x=if i%2=0 then .nd (l.put (i / 2) x) y r else .nd l y (r.put (i / 2) x):=by show (Nat.rec (T.nd (l.put (Nat.div i 2) x) y r) (λ_ _=>T.nd l y (r.put (Nat.div i 2) x)) (Nat.mod i 2):T α)=_;have h:Nat.mod i 2=i%2:=rfl;rcases acz i with h0 | h1;rw [h,h0];rfl;rw [h,h1];rfl
inductive Ok:T α->Nat->Prop
 | e:Ok .e 0
 | nd {l r:T α} {x:α} {n:Nat} (hl:Ok l ((n+1) / 2)) (hr:Ok r (n / 2)):Ok (.nd l x r) (n+1)
theorem Ok.get {t:T α}{n:Nat}(h:Ok t n):∀i,(∃x,t.get i=some x)↔i<n:=by
 induction h with
 | e=>intro i;simp
 | @nd l r x n hl hr ihl ihr=>
  intro i;cases i with
  | zero=>simp
  | succ i=>rw [gV];split;rw [ihl];omega;rw [ihr];omega
theorem Ok.put {t:T α}{n:Nat}(h:Ok t n):∀i (x:α),i<n->Ok (t.put i x) n:=by
 induction h with
 | e=>intro i x a;omega
 | @nd l r y n hl hr ihl ihr=>
  intro i x a;cases i with
  | zero=>exact .nd hl hr
  | succ i=>rw [bQ];split;exact .nd (ihl _ _ (by omega)) hr;exact .nd hl (ihr _ _ (by omega))
theorem Ok.push {t:T α}{n:Nat}(h:Ok t n):∀(x:α),Ok (t.put n x) (n+1):=by
 induction h with
 | e=>intro x;exact .nd .e .e
 | @nd l r y n hl hr ihl ihr=>intro x;rw [bQ];split;rename_i a;refine .nd ?_ ?_;have:=ihl x;rw [show (n+1) / 2=n / 2 from by omega] at this;rw [show (n+1+1) / 2=n / 2+1 from by omega];exact this;rw [show (n+1) / 2=n / 2 from by omega];exact hr;rename_i a;refine .nd ?_ ?_;rw [show (n+1+1) / 2=(n+1) / 2 from by omega];exact hl;have:=ihr x;rw [show (n+1) / 2=n / 2+1 from by omega];exact this
theorem aW {t:T α}{n:Nat}(h:Ok t n):∀i (x:α),i<=n->(t.put i x).get i=some x:=by
 induction h with
 | e=>intro i x b;obtain rfl:i=0:=by omega
      rfl
 | @nd l r y n hl hr ihl ihr=>
  intro i x b;cases i with
  | zero=>rfl
  | succ i=>rw [bQ];split;rename_i a;rw [gV,if_pos a];exact ihl _ _ (by omega);rename_i a;rw [gV,if_neg a];exact ihr _ _ (by omega)
theorem bV {t:T α}{n:Nat}(h:Ok t n):∀i j (x:α),i<=n->i≠j->(t.put i x).get j=t.get j:=by
 induction h with
 | e=>
  intro i j x b d;obtain rfl:i=0:=by omega
  cases j with
  | zero=>omega
  | succ j=>rw [amK,gV];simp
 | @nd l r y n hl hr ihl ihr=>
  intro i j x b c;cases i with
  | zero=>
   cases j with
   | zero=>omega
   | succ j=>rw [Qe,gV,gV]
  | succ i=>
   rw [bQ];cases j with
   | zero=>split<;>rfl
   | succ j=>split;rename_i a;rw [gV,gV];split;exact ihl _ _ _ (by omega) (by omega);rfl;rename_i a;rw [gV,gV];split;rfl;exact ihr _ _ _ (by omega) (by omega)
theorem wT (x:α)(l:List α)(t:T α)(i:Nat):qR (x::l) t i=qR l (t.put i x) (i+1):=rfl
theorem Lj (l:List α):∀(t:T α) (i:Nat),Ok t i->Ok (qR l t i) (i+l.length):=by
 induction l with
 | nil=>intro t i h;exact h
 | cons x l ih=>intro t i h;rw [wT,acA,show i+(l.length+1)=i+1+l.length from by omega];exact ih _ _ (h.push x)
theorem Je (l:List α):∀(t:T α) (i:Nat),Ok t i->∀j,(qR l t i).get j=if j<i then t.get j else l[j-i]?:=by
 induction l with
 | nil=>
  intro t i h j;show t.get j=_;split;rfl;rename_i a;cases hg:t.get j with
  | none=>simp
  | some x=>exact absurd ((h.get j).1 ⟨x,hg⟩) a
 | cons x l ih=>intro t i h j;rw [wT,ih _ _ (h.push x)];by_cases h1:j<i;rw [if_pos (by omega),if_pos h1,bV h _ _ _ (aA _) (by omega)];by_cases h2:j=i;subst h2;rw [if_pos (by omega),aW h _ _ (aA _)];simp;rw [if_neg (by omega),if_neg h1,show j-i=(j-(i+1))+1 from by omega];simp
theorem bN (l:List α)(j:Nat):(ofList l).get j=l[j]?:=by have:=Je l .e 0 .e j;simpa [ofList] using this
theorem kK (l:List α):Ok (ofList l) l.length:=by have:=Lj l .e 0 .e;simpa [ofList] using this
theorem Jf (x:α)(n:Nat)(t:T α)(i:Nat):rep x (n+1) t i=rep x n (t.put i x) (i+1):=rfl
theorem NR (x:α)(n:Nat):∀(t:T α) (i:Nat),Ok t i->Ok (rep x n t i) (i+n):=by
 induction n with
 | zero=>intro t i h;exact h
 | succ n ih=>intro t i h;rw [Jf,show i+(n+1)=i+1+n from by omega];exact ih _ _ (h.push x)
theorem NS (x:α)(n:Nat):∀(t:T α) (i:Nat),Ok t i->∀j,(rep x n t i).get j=if j<i then t.get j else if j<i+n then some x else none:=by
 induction n with
 | zero=>
  intro t i h j;show t.get j=_;split;rfl;rename_i a;rw [if_neg (by omega)];cases hg:t.get j with
  | none=>rfl
  | some y=>exact absurd ((h.get j).1 ⟨y,hg⟩) a
 | succ n ih=>intro t i h j;rw [Jf,ih _ _ (h.push x)];by_cases h1:j<i;rw [if_pos (by omega),if_pos h1,bV h _ _ _ (aA _) (by omega)];by_cases h2:j=i;subst h2;rw [if_pos (by omega),aW h _ _ (aA _),if_neg h1,if_pos (by omega)];rw [if_neg (by omega),if_neg h1];by_cases h3:j<i+1+n;rw [if_pos h3,if_pos (by omega)];rw [if_neg h3,if_neg (by omega)]
theorem Jg (t:T α)(i:Nat):t.slice 0 i=some []:=rfl
theorem BP (t:T α)(n i:Nat):t.slice (n+1) i=ob (t.get i) λx=>ob (t.slice n (i+1)) λxs=>some (x::xs):=rfl
theorem Ti (t:T α)(n:Nat):∀i l,t.slice n i=some l->l.length=n∧∀j,j<n->t.get (i+j)=l[j]?:=by
 induction n with
 | zero=>intro i l h;rw [Jg] at h;cases h;simp
 | succ n ih=>
  intro i l h;rw [BP] at h;obtain⟨x,d,h⟩:=D9 h;obtain⟨f,a,h⟩:=D9 h;cases h;obtain⟨c,b⟩:=ih _ _ a;refine⟨by simp [c],λj e=>?_⟩;cases j with
  | zero=>simpa using d
  | succ j=>rw [show i+(j+1)=i+1+j from by omega,b j (by omega)];simp
end T
section
variable {α:Type}
@[simp] theorem K7 (l:List α):len' l=l.length:=by
 induction l with
 | nil=>rfl
 | cons x l ih=>show Nat.succ (len' l)=_;rw [ih];rfl
@[simp] theorem V8 (l m:List α):cZ l m=l++m:=by
 induction l with
 | nil=>rfl
 | cons x l ih=>show x::cZ l m=_;rw [ih];rfl
@[simp] theorem eT (n:Nat):∀l:List α,gQ n l=l.drop n:=by
 induction n with
 | zero=>intro l;rfl
 | succ n ih=>
  intro l;cases l with
  | nil=>rfl
  | cons x l=>exact ih l
@[simp] theorem ng (n:Nat):∀l:List α,vJ n l=l[n]?:=by
 induction n with
 | zero=>intro l;cases l<;>rfl
 | succ n ih=>
  intro l;cases l with
  | nil=>rfl
  | cons x l=>show vJ n l=_;rw [ih];rfl
@[simp] theorem Zv (n:Nat):∀l:List d9,nth n l=l[n]?.getD .undef:=by
 induction n with
 | zero=>intro l;cases l<;>rfl
 | succ n ih=>
  intro l;cases l with
  | nil=>rfl
  | cons x l=>show nth n l=_;rw [ih];rfl
theorem ow (n:Nat):∀(l r:List α),takeN n l=some r->r=l.take n∧n<=l.length:=by
 induction n with
 | zero=>intro l r h;cases h;simp
 | succ n ih=>
  intro l r h;cases l with
  | nil=>cases h
  | cons x l=>
   change ob (takeN n l) (λr=>some (x::r))=some r at h
   obtain⟨d,b,h⟩:=D9 h;cases h;obtain⟨a,c⟩:=ih _ _ b;exact⟨by simp [a],by simp;omega⟩
theorem iw (n:Nat):∀(l:List α),n<=l.length->takeN n l=some (l.take n):=by
 induction n with
 | zero=>intro l _;rfl
 | succ n ih=>
  intro l h;cases l with
  | nil=>simp at h
  | cons x l=>
   change ob (takeN n l) (λr=>some (x::r))=_
   rw [ih l (by simpa using h)];rfl
theorem pK (n:Nat)(vs:List α):∀(l:List α),n<=l.length->pF n vs l=l.take n++(vs++l.drop (n+vs.length)):=by
 induction n with
 | zero=>intro l _;show cZ vs (gQ (len' vs) l)=_;simp
 | succ n ih=>
  intro l h;cases l with
  | nil=>simp at h
  | cons x l=>show x::pF n vs l=_;rw [ih l (by simpa using h),show n+1+vs.length=(n+vs.length)+1 from by omega];simp
theorem Dg (n:Nat)(vs l:List α)(h:n+vs.length<=l.length):(pF n vs l).length=l.length:=by rw [pK n vs l (by omega)];simp;omega
theorem Xk (n:Nat)(vs l:List α)(h:n+vs.length<=l.length)(j:Nat):
  (pF n vs l)[j]?=if n<=j∧j<n+vs.length then vs[j-n]? else l[j]?:=by
 rw [pK n vs l (by omega)];rw [List.getElem?_append];simp only [adX,show min n l.length=n from by omega];split;rw [if_neg (by omega),adP,if_pos (by omega)];rw [List.getElem?_append];split;rw [if_pos (by omega)];rw [if_neg (by omega),amA];congr 1;omega
end
structure Loc where
 b:Nat
 base:Nat
 cap:Nat
 spot:Option Nat
abbrev N9:=Nat->Loc
def N9.at (ι:N9)(i o:Nat):Addr:=⟨(ι i).b,(ι i).base+o,if o=0 then (ι i).spot else none⟩
theorem N9.Dh {ι:N9}{i:Nat}(h:(ι i).spot=none)(o:Nat):ι.at i o=⟨(ι i).b,(ι i).base+o,none⟩:=by simp [N9.at,h]
def lT (ι:N9):Fn->Fn
 | .yield l=>.yield (ι l).b
 | f=>f
mutual
def u7 (ι:N9):d9->Value
 | .undef=>.tuple #[]
 | .bool b=>.bool b
 | .int k n=>.int k n
 | .str s=>.string ⟨s.toArray⟩
 | .nilPtr=>.pointer none
 | .ptr i o=>.pointer (some (ι.at i o))
 | .nilSlice=>.slice none 0 0
 | .slice i o l c=>.slice (some (ι.at i o)) l c
 | .sliceU i o l es=>.slice (some (ι.at i o)) l (((ι i).cap-o) / es)
 | .nilMap=>.map none
 | .map i=>.map (some (ι i).b)
 | .nilFunc=>.nilFunc
 | .func fn a b=>.func (lT ι fn) (C8 ι a).toArray (C8 ι b).toArray
 | .nilIface=>.nilIface
 | .iface t v=>.iface t (u7 ι v)
 | .agg l=>.agg (C8 ι l).toArray
 | .tuple l=>.tuple (C8 ι l).toArray
 | .aY v=>.tuple #[u7 ι v]
def C8 (ι:N9):List d9->List Value
 | []=>[]
 | v::l=>u7 ι v::C8 ι l
end
structure Nm where
 has:Nat->Prop
 cap:Nat->Nat
instance:CoeFun Nm (λ_=>Nat->Prop):=⟨Nm.has⟩
def Nm.le (n m:Nm):Prop:=∀i,n i->m i∧m.cap i=n.cap i
theorem Nm.le_refl (n:Nm):n.le n:=λ_ h=>⟨h,rfl⟩
theorem Nm.le_trans {a b c:Nm}(h:a.le b)(k:b.le c):a.le c:=λi d=>⟨(k i (h i d).1).1,(k i (h i d).1).2.trans (h i d).2⟩
def acU (n:Nm):Fn->Prop
 | .yield l=>n l
 | _=>True
mutual
def d9.lt (n:Nm):d9->Prop
 | .ptr i _=>n i
 | .slice i _ _ _=>n i
 | .sliceU i o l es=>n i∧1<=es∧o+l*es<=n.cap i
 | .map i=>n i
 | .func fn a b=>acU n fn∧eU n a∧eU n b
 | .iface _ v=>v.lt n
 | .agg l=>eU n l
 | .tuple l=>eU n l
 | .aY _=>False
 | _=>True
def eU (n:Nm):List d9->Prop
 | []=>True
 | v::l=>v.lt n∧eU n l
end
theorem eX (ι:N9)(l:List d9):C8 ι l=l.map (u7 ι):=by
 induction l with
 | nil=>simp [C8]
 | cons v l ih=>simp [C8,ih]
theorem fZ {n:Nm}{l:List d9}:eU n l↔∀v∈l,v.lt n:=by
 induction l with
 | nil=>simp [eU]
 | cons v l ih=>simp [eU,ih]
@[simp] theorem dz (ι:N9)(l:List d9):(C8 ι l).length=l.length:=by simp [eX]
theorem dZ (ι:N9)(l:List d9)(i:Nat):(C8 ι l)[i]?=l[i]?.map (u7 ι):=by simp [eX]
mutual
theorem aV {n:Nm}{ι ι':N9}(h:∀i,n i->ι' i=ι i):∀v:d9,v.lt n->u7 ι' v=u7 ι v
 | .undef,_ | .bool _,_ | .int _ _,_ | .str _,_ | .nilPtr,_ | .nilSlice,_ | .nilMap,_ | .nilFunc,_ | .nilIface,_=>by simp [u7]
 | .ptr i o,hv=>by simp only [d9.lt] at hv;simp [u7,N9.at,h i hv]
 | .slice i o l c,hv=>by simp only [d9.lt] at hv;simp [u7,N9.at,h i hv]
 | .sliceU i o l c,hv=>by simp only [d9.lt] at hv;simp [u7,N9.at,h i hv.1]
 | .map i,hv=>by simp only [d9.lt] at hv;simp [u7,h i hv]
 | .func fn a b,hv=>by
  simp only [d9.lt] at hv;obtain⟨hf,ha,hb⟩:=hv;have e:lT ι' fn=lT ι fn:=by cases fn<;>simp_all [lT,acU]
  simp [u7,e,iX h a ha,iX h b hb]
 | .iface t v,hv=>by simp only [d9.lt] at hv;simp [u7,aV h v hv]
 | .agg l,hv=>by simp only [d9.lt] at hv;simp [u7,iX h l hv]
 | .tuple l,hv=>by simp only [d9.lt] at hv;simp [u7,iX h l hv]
 | .aY v,hv=>by simp only [d9.lt] at hv
theorem iX {n:Nm}{ι ι':N9}(h:∀i,n i->ι' i=ι i):∀l:List d9,eU n l->C8 ι' l=C8 ι l
 | [],_=>by simp [C8]
 | v::l,hl=>by simp only [eU] at hl;simp [C8,aV h v hl.1,iX h l hl.2]
end
mutual
theorem d9.aR {n m:Nm}(h:n.le m):∀v:d9,v.lt n->v.lt m
 | .undef,_ | .bool _,_ | .int _ _,_ | .str _,_ | .nilPtr,_ | .nilSlice,_ | .nilMap,_ | .nilFunc,_ | .nilIface,_=>by simp [d9.lt]
 | .ptr i o,hv=>by simp only [d9.lt] at *;exact (h _ hv).1
 | .slice i o l c,hv=>by simp only [d9.lt] at *;exact (h _ hv).1
 | .sliceU i o l c,hv=>by simp only [d9.lt] at *;exact⟨(h _ hv.1).1,hv.2.1,by rw [(h _ hv.1).2];exact hv.2.2⟩
 | .map i,hv=>by simp only [d9.lt] at *;exact (h _ hv).1
 | .func fn a b,hv=>by simp only [d9.lt] at *;exact⟨by cases fn<;>first | trivial | exact (h _ hv.1).1,iL h a hv.2.1,iL h b hv.2.2⟩
 | .iface t v,hv=>by simp only [d9.lt] at *;exact d9.aR h v hv
 | .agg l,hv=>by simp only [d9.lt] at *;exact iL h l hv
 | .tuple l,hv=>by simp only [d9.lt] at *;exact iL h l hv
 | .aY v,hv=>by simp only [d9.lt] at hv
theorem iL {n m:Nm}(h:n.le m):∀l:List d9,eU n l->eU m l
 | [],_=>by simp [eU]
 | v::l,hl=>by simp only [eU] at *;exact⟨d9.aR h v hl.1,iL h l hl.2⟩
end
theorem rC (ι:N9)(v:d9):(u7 ι v).cells=(C8 ι v.cells).toArray:=by cases v<;>simp [u7,Value.cells,d9.cells,C8]
theorem Di {n:Nm}{v:d9}(h:v.lt n):eU n v.cells:=by cases v<;>simp_all [d9.lt,d9.cells,eU]
mutual
theorem qA (ι:N9):∀(v:Value) (a:d9),ofValue v=some a->u7 ι a=v∧∀n,a.lt n
 | .bool b,a,h=>by simp only [ofValue,lM] at h;subst h;simp [u7,d9.lt]
 | .int k n,a,h=>by simp only [ofValue,lM] at h;subst h;simp [u7,d9.lt]
 | .string s,a,h=>by simp only [ofValue,lM] at h;subst h;simp [u7,d9.lt]
 | .pointer none,a,h=>by simp only [ofValue,lM] at h;subst h;simp [u7,d9.lt]
 | .pointer (some _),a,h=>by simp [ofValue] at h
 | .slice none 0 0,a,h=>by simp only [ofValue,lM] at h;subst h;simp [u7,d9.lt]
 | .slice (some _) _ _,a,h=>by simp [ofValue] at h
 | .slice none (_+1) _,a,h=>by simp [ofValue] at h
 | .slice none 0 (_+1),a,h=>by simp [ofValue] at h
 | .map none,a,h=>by simp only [ofValue,lM] at h;subst h;simp [u7,d9.lt]
 | .map (some _),a,h=>by simp [ofValue] at h
 | .nilFunc,a,h=>by simp only [ofValue,lM] at h;subst h;simp [u7,d9.lt]
 | .nilIface,a,h=>by simp only [ofValue,lM] at h;subst h;simp [u7,d9.lt]
 | .func (.func f) ⟨[]⟩ ⟨[]⟩,a,h=>by simp only [ofValue,lM] at h;subst h;simp [u7,d9.lt,lT,C8,acU,eU]
 | .func (.func f) ⟨_ :: _⟩ _,a,h=>by simp [ofValue] at h
 | .func (.func f) ⟨[]⟩ ⟨_ :: _⟩,a,h=>by simp [ofValue] at h
 | .func (.method _) _ _,a,h=>by simp [ofValue] at h
 | .func (.methodOf _ _) _ _,a,h=>by simp [ofValue] at h
 | .func (.via _ _ _ _) _ _,a,h=>by simp [ofValue] at h
 | .func (.yield _) _ _,a,h=>by simp [ofValue] at h
 | .agg ⟨l⟩,a,h=>by
  simp only [ofValue] at h;cases hx:ofValues l with
  | none=>simp [hx] at h
  | some x=>simp only [hx,lM] at h;subst h;obtain⟨h1,h2⟩:=xS ι l x hx;simp [u7,d9.lt,h1];exact h2
 | .tuple ⟨[]⟩,a,h=>by simp only [ofValue,lM] at h;subst h;simp [u7,d9.lt,C8,eU]
 | .tuple ⟨_ :: _⟩,a,h=>by simp [ofValue] at h
 | .float _ _,a,h=>by simp [ofValue] at h
 | .complex _ _ _,a,h=>by simp [ofValue] at h
 | .chan _,a,h=>by simp [ofValue] at h
 | .iface _ _,a,h=>by simp [ofValue] at h
theorem xS (ι:N9):∀(l:List Value) (x:List d9),ofValues l=some x->C8 ι x=l∧∀n,eU n x
 | [],x,h=>by simp only [ofValues,lM] at h;subst h;simp [C8,eU]
 | v::l,x,h=>by
  simp only [ofValues] at h;cases hv:ofValue v with
  | none=>simp [hv] at h
  | some a=>
   cases hl:ofValues l with
   | none=>simp [hv,hl] at h
   | some y=>simp only [hv,hl,lM] at h;subst h;obtain⟨h1,h2⟩:=qA ι v a hv;obtain⟨h3,h4⟩:=xS ι l y hl;simp [C8,eU,h1,h3];exact λn=>⟨h2 n,h4 n⟩
end
theorem aj4:∀(n j:Nat) (t:T d9),j+1<2^n->way n j t=(t.get j).getD .undef:=by
 intro n;induction n with
 | zero=>intro j t h;simp at h
 | succ n ih=>
  intro j t h;cases j with
  | zero=>cases t<;>rfl
  | succ j=>
   have a:j / 2+1<2^n:=by rw [agS] at h;omega
   rcases acz j with h0 | h0;simp only [way,h0];cases t with
   | e=>rfl
   | nd l x r=>rw [T.gV,if_pos h0];exact ih _ l a
   simp only [way,h0];cases t with
   | e=>rfl
   | nd l x r=>rw [T.gV,if_neg (by omega)];exact ih _ r a
theorem acV (v:d9):∀(n j:Nat) (t:T d9) (x:d9),j+1<2^n->t.get j=some x->gD n j v t=t.put j v:=by
 intro n;induction n with
 | zero=>intro j t x h;simp at h
 | succ n ih=>
  intro j t x h a;cases t with
  | e=>simp at a
  | nd l y r=>
   cases j with
   | zero=>rfl
   | succ j=>have b:j / 2+1<2^n:=(by rw [agS] at h;omega);rw [T.gV] at a;rcases acz j with h0 | h0;rw [if_pos h0] at a;simp only [gD,h0];rw [T.bQ,if_pos h0];show T.nd (gD n (j / 2) v l) y r=_;rw [ih _ l x b a];rw [if_neg (by omega)] at a;simp only [gD,h0];rw [T.bQ,if_neg (by omega)];show T.nd l y (gD n (j / 2) v r)=_;rw [ih _ r x b a]
theorem xU {t:Nat}{l:List Nat}{i j:Nat}(h:idxOf t l i=some j):i<=j∧j<i+l.length∧l[j-i]?=some t:=by
 induction l generalizing i with
 | nil=>simp [idxOf] at h
 | cons x l ih=>
  simp only [idxOf] at h;cases hx:Nat.beq x t with
  | true=>simp only [hx,cond_true,lM] at h;subst h;have:=l7 hx;simp [this]
  | false=>simp only [hx,cond_false] at h;obtain⟨b,c,a⟩:=ih h;refine⟨by omega,by simp;omega,?_⟩;rw [show j-i=(j-(i+1))+1 from by omega];simpa using a
theorem Xl {t u:Nat}{l:List Nat}{i j:Nat}(h:idxOf t l i=some j)(h':idxOf u l i=some j):t=u:=by have a:=(xU h).2.2;have b:=(xU h').2.2;rw [a] at b;exact su b
structure bY (ι:N9)(n:Nm)(slots:List Nat)(env:T d9)(tmps:Array Value):Prop where
 ok:T.Ok env slots.length
 small:slots.length<2^60
 val:∀t j,idxOf t slots 0=some j->t<tmps.size∧∃v,env.get j=some v∧v.lt n∧tmps.getD t undef=u7 ι v
theorem bY.mono {ι ι':N9}{n c:Nm}{a:List Nat}{env:T d9}{tmps:Array Value}(h:bY ι n a env tmps)
  (hi:∀i,n i->ι' i=ι i) (g:n.le c):bY ι' c a env tmps:=
 ⟨h.ok,h.small,λt j k=>by
  obtain⟨d,v,e,b,f⟩:=h.val t j k;exact⟨d,v,e,v.aR g b,by rw [f,aV hi v b]⟩⟩
theorem dM (a:Array Value)(i j:Nat)(v:Value)(hi:i<a.size):
  (a.setIfInBounds i v).getD j undef=if i=j then v else a.getD j undef:=by
 rw [O0,O0];by_cases h:i=j;subst h;rw [if_pos rfl,Q5 hi];rfl;rw [if_neg h,O8 h]
theorem bY.put {ι:N9}{n:Nm}{a:List Nat}{env:T d9}{tmps:Array Value}(h:bY ι n a env tmps)(d:Option Tmp){v:d9}(w:v.lt n):
  bY ι n a (fB (Qb a d) v env) (match d with | some t=>tmps.setIfInBounds t (u7 ι v) | none=>tmps):=by
 cases d with
 | none=>exact h
 | some t=>
  simp only [Qb];cases ht:idxOf t a 0 with
  | none=>
   refine⟨h.ok,h.small,λu j b=>?_⟩;obtain⟨f,l,g,s,m⟩:=h.val u j b;refine⟨by simpa using f,l,g,s,?_⟩;have i:t≠u:=λe=>by subst e;rw [ht] at b;cases b
   by_cases hts:t<tmps.size;rw [dM _ _ _ _ hts,if_neg i];exact m;rw [show tmps.setIfInBounds t (u7 ι v)=tmps from azV (aln hts)];exact m
  | some k=>
   obtain⟨f,x,g,_,_⟩:=h.val t k ht;have y:=(xU ht).2.1
   have c:fB (some k) v env=env.put k v:=acV v 64 k env x (by have:=h.small;have:(2:Nat)^60<2^64:=by decide
                                                              omega) g
   rw [c];refine⟨h.ok.put _ _ (by omega),h.small,λu j b=>?_⟩;obtain⟨o,l,p,q,r⟩:=h.val u j b;refine⟨by simpa using o,?_⟩;rw [dM _ _ _ _ f];by_cases he:t=u;subst he;rw [ht] at b;cases b;exact⟨v,T.aW h.ok _ _ (by omega),w,by simp⟩;refine⟨l,?_,q,by rw [if_neg he];exact r⟩;rw [T.bV h.ok _ _ _ (by omega) (λe=>he (by subst e;exact Xl ht b))];exact p
def bG:Z6->Bool
 | .cells .. | .map _ | .iter .. | .loop .. | .deferred=>true
 | _=>false
def exitCode:bP->Code
 | .normal=>.skip
 | .exit id=>.exit id
 | .ret=>.ret
section
variable (P:Program)
structure BQ (ι:N9)(n:Nm)(L:Loop)(st:LoopState)(pend:Option bP)(env:T d9)(params:List (Option Nat))(assign body:bE):Prop where
 state:L.state=st
 pending:L.pending=pend.map exitCode
 code:∃slots,bY ι n slots env L.tmps∧params=L.params.toList.map (λt=>idxOf t slots 0)∧aQ P slots L.assign=some assign∧aQ P slots L.body=some body∧
  ∃nt,nt<=L.tmps.size∧tmpsIn nt L.assign=true∧tmpsIn nt L.body=true
def K8 (ι:N9):List (d9×d9)->Nat->List MapEntry
 | [],_=>[]
 | e::es,i=>{key:=u7 ι e.1,val:=u7 ι e.2,born:=i}::K8 ι es (i+1)
def gW (ι:N9)(n:Nm)(h:Array Obj)(l:Loc):Z6->Prop
 | .void=>True
 | .dead=>True
 | .cells rs k rows=>∃c e fz,h[l.b]?=some (.cells c e fz)∧l.base+l.cap<=c.size∧(k*rs<=l.cap∧∃N,k<=N∧T.Ok rows N)∧
   ∀i,i<k->∃row,rows.get i=some row∧row.length=rs∧eU n row∧∀j,j<rs->c[l.base+(i*rs+j)]?=(row[j]?).map (u7 ι)
 | .map es=>h[l.b]?=some (.map (K8 ι es 0).toArray es.length)∧∀e∈es,e.1.lt n∧e.2.lt n
 | .iter mp since seen=>l.base=0∧(∀x,mp=some x->n x)∧∃sn st,h[l.b]?=some (.mapIter (mp.map λx=>(ι x).b) since sn st)∧sn.toList.reverse=seen∧(mp≠none->st=since)
 | .tail p=>n p∧(l.cap=0∨(l.b=(ι p).b∧l.base+l.cap<=(ι p).base+(ι p).cap∧((ι p).spot=none->l.spot=none)))
 | .loop st pend env params assign body=>∃L,h[l.b]?=some (.loop L)∧BQ P ι n L st pend env params assign body
 | .deferred=>h[l.b]?=some (.deferred (some []))
structure azX (ι:N9)(m:Mem)(h:Array Obj)(i:Nat):Prop where
 alone:∀j b,j≠i->m.get j=some b->bG b=true->(ι j).b≠(ι i).b
 free:∀c e fz,h[(ι i).b]?=some (.cells c e fz)->∀k,k<c.size->¬ (fz.1<=k∧k<fz.2)
def jT:Z6->Bool
 | .void=>true
 | _=>false
def Mem.has (m:Mem)(i:Nat):Prop:=∃b,m.get i=some b∧jT b=false
def Mem.nm (m:Mem)(ι:N9):Nm:=⟨m.has,λi=>(ι i).cap⟩
theorem Mem.cK {m b:Mem}{ι ι':N9}(h:∀i,m.has i->b.has i)(hi:∀i,m.has i->ι' i=ι i):(m.nm ι).le (b.nm ι'):=
 λi a=>⟨h i a,congrArg Loc.cap (hi i a)⟩
def GSz (P:Program)(G:Mem)(h:Array Obj):Prop:=∀i rs k rows,i<P.globals.size->G.get i=some (.cells rs k rows)->∃c e fz,h[i]?=some (.cells c e fz)∧c.size=k*rs
structure RM (G:Mem)(ι:N9)(m:Mem)(h:Array Obj):Prop where
 ok:T.Ok m.t m.nx
 blk:∀i b,m.get i=some b->gW P ι (m.nm ι) h (ι i) b
 own:∀i b,m.lim<=i->m.get i=some b->bG b=true->azX ι m h i
 glim:G.nx<=m.lim
 limn:m.lim<=m.nx
 gle:P.globals.size<=G.nx
 base:∀i,i<G.nx->m.get i=G.get i
 ghas:∀i,i<P.globals.size->m.has i
 glob:∀i,i<P.globals.size->(ι i).b=i∧(ι i).base=0∧(ι i).spot=none
 spot:∀i b,m.get i=some b->bG b=true->(ι i).spot=none
 gsz:GSz P G h
end
def Qg (ι:N9)(m:Mem)(b:Nat):Prop:=∃i x,m.lim<=i∧m.get i=some x∧bG x=true∧(ι i).b=b
theorem RM.Qh {P:Program}{G:Mem}{ι:N9}{m:Mem}{h h':Array Obj}(d:RM P G ι m h)(u:∀b,b<h.size->¬ Qg ι m b->h'[b]?=h[b]?):GSz P G h':=by
 intro i r k a g q;obtain⟨c,e,s,p,t⟩:=d.gsz i r k a g q;have l:i<h.size:=(wu.1 p).1;have f:i<G.nx:=aP g d.gle;have n:m.get i=some (.cells r k a):=(d.base i f).trans q;refine⟨c,e,s,?_,t⟩;rw [u i l];exact p;rintro⟨j,x,hj,hx,hlx,hb⟩;have o:i≠j:=by have:=d.glim;omega
 exact (d.own j x hj hx hlx).alone i _ o n rfl (by rw [(d.glob i g).1,hb])
structure Step (P:Program)(G:Mem)(ι:N9)(m:Mem)(w:World)(ι':N9)(m':Mem)(w':World):Prop where
 rm:RM P G ι' m' w'.heap
 ext:∀i,m.has i->ι' i=ι i
 has:∀i,m.has i->m'.has i
 nx:m.nx<=m'.nx
 lim:m'.lim=m.lim
 old:∀i,i<m.lim->m'.get i=m.get i
 size:w.heap.size<=w'.heap.size
 frame:∀b,b<w.heap.size->¬ Qg ι m b->w'.heap[b]?=w.heap[b]?
 own:∀b,Qg ι' m' b->Qg ι m b∨w.heap.size<=b
 os:w'.os=w.os
 out:w'.output=w.output
 tape:w'.tape=w.tape
theorem Step.refl {P:Program}{G:Mem}{ι:N9}{m:Mem}{w:World}(h:RM P G ι m w.heap):Step P G ι m w ι m w:=
 ⟨h,λ_ _=>rfl,λ_ h=>h,aA _,rfl,λ_ _=>rfl,aA _,λ_ _ _=>rfl,λ_ h=>.inl h,rfl,rfl,rfl⟩
theorem Step.drew {P:Program}{G:Mem}{ι:N9}{m:Mem}{w:World}(h:RM P G ι m w.heap)(n:Nat):Step P G ι m w ι m {w with drawn:=n}:=
 ⟨h,λ_ _=>rfl,λ_ h=>h,aA _,rfl,λ_ _=>rfl,aA _,λ_ _ _=>rfl,λ_ h=>.inl h,rfl,rfl,rfl⟩
theorem Step.trans {P:Program}{G:Mem}{c d e:N9}{f g j:Mem}{k l m:World}(a:Step P G c f k d g l)(b:Step P G d g l e j m):
  Step P G c f k e j m where
 rm:=b.rm
 ext i hi:=(b.ext i (a.has i hi)).trans (a.ext i hi)
 has i hi:=b.has i (a.has i hi)
 nx:=nM a.nx b.nx
 lim:=b.lim.trans a.lim
 old i hi:=(b.old i (by rw [a.lim];exact hi)).trans (a.old i hi)
 size:=nM a.size b.size
 frame x hx ho:=by refine (b.frame x (aP hx a.size) λh=>?_).trans (a.frame x hx ho);rcases a.own x h with h | h;exact ho h;omega
 own x h:=by rcases b.own x h with h | h;exact a.own x h;exact .inr (nM a.size h)
 os:=b.os.trans a.os
 out:=b.out.trans a.out
 tape:=b.tape.trans a.tape
theorem Step.u7 {P:Program}{G:Mem}{ι ι':N9}{m b:Mem}{w w':World}(a:Step P G ι m w ι' b w'){v:d9}(h:v.lt (m.nm ι)):AM.u7 ι' v=AM.u7 ι v:=
 aV (n:=m.nm ι) a.ext v h
theorem Step.env {P:Program}{G:Mem}{ι ι':N9}{m c:Mem}{w w':World}(a:Step P G ι m w ι' c w'){b:List Nat}{env:T d9}{tmps:Array Value}
  (h:bY ι (m.nm ι) b env tmps):bY ι' (c.nm ι') b env tmps:=h.mono (n:=m.nm ι) a.ext (Mem.cK a.has a.ext)
theorem BQ.mono {P:Program}{ι ι':N9}{n e:Nm}{L:Loop}{f:LoopState}{c:Option bP}{env:T d9}{b:List (Option Nat)}{a body:bE}
  (h:BQ P ι n L f c env b a body) (hi:∀i,n i->ι' i=ι i) (m:n.le e):BQ P ι' e L f c env b a body:=by
 obtain⟨g,j,d,k,l⟩:=h;exact⟨g,j,d,k.mono hi m,l⟩
theorem Bn {ι ι':N9}{n:Nm}(hi:∀i,n i->ι' i=ι i):∀(es:List (d9×d9)) (i:Nat),(∀e∈es,e.1.lt n∧e.2.lt n)->K8 ι' es i=K8 ι es i
 | [],_,_=>rfl
 | e::es,i,h=>by simp only [K8];rw [aV hi _ (h e (by simp)).1,aV hi _ (h e (by simp)).2,Bn hi es (i+1) (λe he=>h e (by simp [he]))]
@[simp] theorem Jh (ι:N9):∀(es:List (d9×d9)) (i:Nat),(K8 ι es i).length=es.length
 | [],_=>rfl
 | e::es,i=>by simp [K8,Jh ι es]
theorem pO (ι:N9):∀(es:List (d9×d9)) (i j:Nat),(K8 ι es i)[j]?=(es[j]?).map λe=>{key:=u7 ι e.1,val:=u7 ι e.2,born:=i+j}
 | [],_,_=>by simp [K8]
 | e::es,i,0=>by simp [K8]
 | e::es,i,j+1=>by simp [K8,pO ι es,show i+1+j=i+(j+1) from by omega]
theorem gW.mono {P:Program}{ι ι':N9}{n t:Nm}{h h':Array Obj}{l:Loc}{b:Z6}(hb:gW P ι n h l b)
  (hi:∀i,n i->ι' i=ι i) (g:n.le t) (m:bG b=true->h'[l.b]?=h[l.b]?):gW P ι' t h' l b:=by
 cases b with
 | void=>trivial
 | dead=>trivial
 | cells rs k rows=>
  obtain⟨c,e,w,a,d,o,q⟩:=hb;refine⟨c,e,w,by rw [m rfl];exact a,d,o,λi D=>?_⟩;obtain⟨f,y,z,r,A⟩:=q i D;refine⟨f,y,z,iL g f r,λj C=>?_⟩;rw [A j C];cases hr:f[j]? with
  | none=>rfl
  | some v=>simp [aV hi v (fZ.1 r v (O7 hr))]
 | map es=>obtain⟨a,d⟩:=hb;refine⟨?_,λe s=>⟨e.1.aR g (d e s).1,e.2.aR g (d e s).2⟩⟩;rw [m rfl,a,Bn hi es 0 d]
 | iter mp since seen=>
  obtain⟨B,a,F,u,d,o,q⟩:=hb;refine⟨B,λx E=>(g x (a x E)).1,F,u,?_,o,q⟩;rw [m rfl,d];cases mp with
  | none=>rfl
  | some x=>simp [hi x (a x rfl)]
 | tail p=>obtain⟨a,d⟩:=hb;exact⟨(g p a).1,by rw [hi p a];exact d⟩
 | loop u pend env params assign body=>obtain⟨L,a,d⟩:=hb;exact⟨L,by rw [m rfl];exact a,d.mono hi g⟩
 | deferred=>exact (m rfl).trans hb
theorem Mem.P5 {m:Mem}(h:T.Ok m.t m.nx)(b:Z6)(i:Nat):(m.new b).get i=if i=m.nx then some b else m.get i:=by show (m.t.put m.nx b).get i=_;split;rename_i e;subst e;exact T.aW h _ _ (aA _);rename_i e;exact T.bV h _ _ _ (aA _) (λh=>e h.symm)
theorem Mem.U6 {m:Mem}(h:T.Ok m.t m.nx){j:Nat}(a:j<m.nx)(b:Z6)(i:Nat):(m.set j b).get i=if i=j then some b else m.get i:=by show (m.t.put j b).get i=_;split;rename_i e;subst e;exact T.aW h _ _ (ae1 a);rename_i e;exact T.bV h _ _ _ (ae1 a) (λh=>e h.symm)
theorem Mem.Q6 {m:Mem}(h:T.Ok m.t m.nx){i:Nat}{b:Z6}(hi:m.get i=some b):i<m.nx:=(h.get i).1 ⟨b,hi⟩
@[simp] theorem Mem.Qi (m:Mem)(b:Z6):(m.new b).nx=m.nx+1:=rfl
@[simp] theorem Mem.acW (m:Mem)(b:Z6):(m.new b).lim=m.lim:=rfl
@[simp] theorem Mem.amL (m:Mem)(i:Nat)(b:Z6):(m.set i b).nx=m.nx:=rfl
@[simp] theorem Mem.ayX (m:Mem)(i:Nat)(b:Z6):(m.set i b).lim=m.lim:=rfl
def N9.upd (ι:N9)(i:Nat)(l:Loc):N9:=λj=>if j=i then l else ι j
@[simp] theorem N9.aJ (ι:N9)(i:Nat)(l:Loc):ι.upd i l i=l:=by simp [N9.upd]
theorem N9.upd_ne (ι:N9){i j:Nat}(l:Loc)(h:j≠i):ι.upd i l j=ι j:=by simp [N9.upd,h]
theorem gX {P:Program}{ι:N9}{n:Nm}{h:Array Obj}{l:Loc}{b:Z6}(hb:gW P ι n h l b)(d:bG b=true):l.b<h.size:=by
 cases b with
 | void=>cases d
 | dead=>cases d
 | tail=>cases d
 | cells rs k rows=>obtain⟨c,e,f,a,_⟩:=hb;exact (wu.1 a).1
 | map es=>obtain⟨a,_⟩:=hb;exact (wu.1 a).1
 | iter mp since seen=>obtain⟨_,_,g,i,a,_⟩:=hb;exact (wu.1 a).1
 | loop=>obtain⟨L,a,_⟩:=hb;exact (wu.1 a).1
 | deferred=>exact (wu.1 hb).1
structure Laid (m m':Mem)(nid:Nat)(b:Z6):Prop where
 ok:T.Ok m'.t m'.nx
 get:∀i,m'.get i=if i=nid then some b else m.get i
 lim:m'.lim=m.lim
 nx:m.nx<=m'.nx
 le:m.lim<=nid
 free:¬ m.has nid
 live:jT b=false
theorem Laid.new {m:Mem}(h:T.Ok m.t m.nx)(a:m.lim<=m.nx)(b:Z6)(hb:jT b=false):Laid m (m.new b) m.nx b:=
 ⟨h.push b,Mem.P5 h b,rfl,Nat.le_succ _,a,λ⟨_,h1,_⟩=>alT _ (Mem.Q6 h h1),hb⟩
theorem Laid.set {m:Mem}(h:T.Ok m.t m.nx){i:Nat}(hi:m.get i=some .void)(a:m.lim<=i)(b:Z6)(hb:jT b=false):Laid m (m.set i b) i b:=
 ⟨h.put i b (Mem.Q6 h hi),Mem.U6 h (Mem.Q6 h hi) b,rfl,aA _,a,λ⟨_,h1,h2⟩=>(by rw [hi] at h1;cases h1;cases h2),hb⟩
theorem Laid.has {m c:Mem}{nid:Nat}{b:Z6}(h:Laid m c nid b)(i:Nat)(hi:m.has i):c.has i:=by have a:i≠nid:=λe=>h.free (e▸hi);obtain⟨x,d,f⟩:=hi;exact⟨x,by rw [h.get,if_neg a];exact d,f⟩
theorem Laid.self {m a:Mem}{nid:Nat}{b:Z6}(h:Laid m a nid b):a.has nid:=⟨b,by rw [h.get,if_pos rfl],h.live⟩
theorem uO {m:Mem}{i:Nat}{b:Z6}(h:m.get i=some b)(a:bG b=true):m.has i:=⟨b,h,by cases b<;>first | rfl | cases a⟩
structure Zw (w w':World)(o:Obj):Prop where
 heap:w'.heap=w.heap.push o
 os:w'.os=w.os
 out:w'.output=w.output
 tape:w'.tape=w.tape
theorem Step.lay {P:Program}{G:Mem}{ι:N9}{m E:Mem}{w w':World}(h:RM P G ι m w.heap){nid:Nat}{b:Z6}(a:Laid m E nid b){o:Obj}(v:Zw w w' o){l:Loc}
  (C:l.b=w.heap.size) (hs:l.spot=none)
  (hb:gW P (ι.upd nid l) (E.nm (ι.upd nid l)) (w.heap.push o) l b)
  (J:∀c e fz,o=.cells c e fz->∀k,k<c.size->¬ (fz.1<=k∧k<fz.2)):
  Step P G ι m w (ι.upd nid l) E w':=by
 have r:∀i x,m.get i=some x->bG x=true->(ι i).b<w.heap.size:=λi x f d=>gX (h.blk i x f) d;have g:∀k,k<w.heap.size->w'.heap[k]?=w.heap[k]?:=λk B=>by rw [v.heap];exact azW B |>.trans (acw B).symm
 have p:∀j,m.has j->ι.upd nid l j=ι j:=λj A=>ι.upd_ne l λe=>a.free (e▸A);refine⟨⟨a.ok,?_,?_,by rw [a.lim];exact h.glim,by rw [a.lim];exact nM h.limn a.nx,h.gle,λi q=>by rw [a.get,if_neg (by have:=a.le;have:=h.glim;omega)];exact h.base i q,λi q=>a.has i (h.ghas i q),?_,?_,h.Qh λk B _=>g k B⟩,p,a.has,a.nx,a.lim,?_,by rw [v.heap];simp,?_,?_,v.os,v.out,v.tape⟩;intro i x f;rw [a.get] at f;split at f;rename_i e;subst e;cases f;rw [v.heap];simpa using hb;rename_i e;rw [ι.upd_ne l e];exact (h.blk i x f).mono (n:=m.nm ι) p (Mem.cK a.has p) (λd=>g _ (r i x f d));intro i x q f d;rw [a.lim] at q;rw [a.get] at f;split at f;rename_i e;subst e;cases f;refine⟨λj y A z u=>?_,λc e fz t=>?_⟩;rw [a.get,if_neg A] at z;rw [ι.upd_ne l A,ι.aJ,C];have:=r j y z u;omega;rw [ι.aJ,C,v.heap] at t;simp at t;exact J c e fz t;rename_i e;have H:=h.own i x q f d;have s:=r i x f d;refine⟨λj y A z u=>?_,λc I fz t=>?_⟩;rw [ι.upd_ne l e];rw [a.get] at z;split at z;rename_i D;subst D;cases z;rw [ι.aJ,C];omega;rename_i D;rw [ι.upd_ne l D];exact H.alone j y A z u;rw [ι.upd_ne l e] at t;rw [g _ s] at t;exact H.free c I fz t;intro i q;rw [p i (h.ghas i q)];exact h.glob i q;intro i x f d;rw [a.get] at f;split at f;rename_i e;subst e;rw [ι.aJ];exact hs;rename_i e;rw [ι.upd_ne l e];exact h.spot i x f d;intro i q;rw [a.get,if_neg (by have:=a.le;omega)];intro F s _;exact g F s;rintro F ⟨i,x,q,f,d,rfl⟩;rw [a.lim] at q;rw [a.get] at f;split at f;rename_i e;subst e;right;rw [ι.aJ,C];exact aA _;rename_i e;left;rw [ι.upd_ne l e];exact⟨i,x,q,f,d,rfl⟩
theorem Step.name {P:Program}{G:Mem}{ι:N9}{m s:Mem}{w:World}(h:RM P G ι m w.heap){nid:Nat}{b:Z6}(d:Laid m s nid b)(D:bG b=false){l:Loc}
  (hb:gW P (ι.upd nid l) (s.nm (ι.upd nid l)) w.heap l b):Step P G ι m w (ι.upd nid l) s w:=by
 have g:∀j,m.has j->ι.upd nid l j=ι j:=λj t=>ι.upd_ne l λe=>d.free (e▸t);have o:∀i x,s.get i=some x->bG x=true->i≠nid∧m.get i=some x:=λi x f a=>by rw [d.get] at f;split at f;cases f;rw [D] at a;cases a;exact⟨by assumption,f⟩
 refine⟨⟨d.ok,?_,?_,by rw [d.lim];exact h.glim,by rw [d.lim];exact nM h.limn d.nx,h.gle,λi k=>by rw [d.get,if_neg (by have:=d.le;have:=h.glim;omega)];exact h.base i k,λi k=>d.has i (h.ghas i k),?_,?_,h.gsz⟩,g,d.has,d.nx,d.lim,?_,aA _,λ_ _ _=>rfl,?_,rfl,rfl,rfl⟩;intro i x f;rw [d.get] at f;split at f;rename_i e;subst e;cases f;simpa using hb;rename_i e;rw [ι.upd_ne l e];exact (h.blk i x f).mono (n:=m.nm ι) g (Mem.cK d.has g) (λ_=>rfl);intro i x k f a;rw [d.lim] at k;obtain⟨p,q⟩:=o i x f a;have v:=h.own i x k q a;refine⟨λj y t E r=>?_,λc z A u=>?_⟩;obtain⟨B,C⟩:=o j y E r;rw [ι.upd_ne l p,ι.upd_ne l B];exact v.alone j y t C r;rw [ι.upd_ne l p] at u;exact v.free c z A u;intro i k;rw [g i (h.ghas i k)];exact h.glob i k;intro i x f a;obtain⟨p,q⟩:=o i x f a;rw [ι.upd_ne l p];exact h.spot i x q a;intro i k;rw [d.get,if_neg (by have:=d.le;omega)];rintro b' ⟨i,x,k,f,a,rfl⟩;rw [d.lim] at k;obtain⟨p,q⟩:=o i x f a;rw [ι.upd_ne l p];exact .inl ⟨i,x,k,q,a,rfl⟩
def azY (ι:N9)(n:Nm)(done:List (Option Nat))(ls:List d9)(tmps:Array Value):Prop:=
 ∀t k,kX t done 0=some k->∃v,ls[k]?=some v∧v.lt n∧tmps.getD t undef=u7 ι v
structure St (P:Program)(ι:N9)(n:Nm)(slots:List Nat)(done:List (Option Nat))(ls:List d9)(env:T d9)(tmps:Array Value):Prop where
 ls:azY ι n done ls tmps
 env:bY ι n slots env tmps
 glob:∀i,i<P.globals.size->(ι i).b=i∧(ι i).base=0∧(ι i).spot=none
 gn:∀g,g<P.globals.size->n g
section
variable {P:Program}{G:Mem}{ι:N9}{n:Nm}{slots:List Nat}{done:List (Option Nat)}{ls:List d9}{env:T d9}{a:Act}
theorem Ji (k:Nat):∀(ls:List d9) (env:T d9),J4 (.loc k) ls env=ls[k]?.getD .undef:=by
 intro ls env;match k with
 | 0=>cases ls<;>rfl
 | 1=>match ls with | [] | [_] | _ :: _ :: _=>rfl
 | 2=>match ls with | [] | [_] | [_,_] | _ :: _ :: _ :: _=>rfl
 | 3=>match ls with | [] | [_] | [_,_] | [_,_,_] | _ :: _ :: _ :: _ :: _=>rfl
 | k+4=>show nth (k+4) ls=_;exact Zv _ _
theorem Zx (j:Nat)(h:j<2^60)(ls:List d9)(env:T d9):J4 (.slot j) ls env=(env.get j).getD .undef:=by
 show way 64 j env=_
 exact aj4 64 j env (by have:(2:Nat)^60+1<2^64:=by decide
                        omega)
theorem G5 (s:St P ι n slots done ls env a.tmps){x:Operand}{o:aO}(h:ay P slots done x=some o):
  a.eval x=u7 ι (J4 o ls env)∧(J4 o ls env).lt n:=by
 cases x with
 | tmp t=>
  simp only [ay] at h;cases hk:kX t done 0 with
  | some k=>simp only [hk,lM] at h;subst h;obtain⟨v,b,d,e⟩:=s.ls t k hk;rw [Ji,b];exact⟨e,d⟩
  | none=>
   simp only [hk] at h;cases hj:idxOf t slots 0 with
   | none=>simp [hj] at h
   | some j=>simp only [hj,lM] at h;subst h;obtain⟨_,v,b,d,e⟩:=s.env.val t j hj;rw [Zx j (by have:=(xU hj).2.1;have:=s.env.small;omega),b];exact⟨e,d⟩
 | const v=>
  simp only [ay] at h;cases hv:ofValue v with
  | none=>simp [hv] at h
  | some c=>simp only [hv,lM] at h;subst h;obtain⟨b,d⟩:=qA ι v c hv;exact⟨b.symm,d n⟩
 | global g=>simp only [ay] at h;split at h;rename_i i;cases h;obtain⟨b,d,e⟩:=s.glob g i;refine⟨?_,?_⟩;show Value.pointer (some ⟨g,0,none⟩)=.pointer (some (ι.at g 0));rw [N9.Dh e,b,d];exact s.gn g i;cases h
 | func f=>simp only [ay,lM] at h;subst h;exact⟨by simp [Act.eval,J4,bg,u7,lT,C8],by simp [J4,bg,d9.lt,acU,eU]⟩
theorem oz (s:St P ι n slots done ls env a.tmps):∀{l:List Operand} {os:List aO},mE P slots done l=some os->
  l.map a.eval=C8 ι (evs (jw os) ls env)∧eU n (evs (jw os) ls env)
 | [],os,h=>by simp only [mE,lM] at h;subst h;simp [jw,evs,C8,eU]
 | x::l,os,h=>by
  simp only [mE] at h;cases hx:ay P slots done x with
  | none=>simp [hx] at h
  | some o=>
   cases hl:mE P slots done l with
   | none=>simp [hx,hl] at h
   | some r=>simp only [hx,hl,lM] at h;subst h;obtain⟨h1,h2⟩:=G5 s hx;obtain⟨h3,h4⟩:=oz s hl;refine⟨?_,?_⟩;show a.eval x::l.map a.eval=u7 ι (J4 o ls env)::C8 ι (evs (jw r) ls env);rw [h1,h3];exact⟨h2,h4⟩
end
section
variable {P:Program}{G:Mem}{w:World}
theorem run_underlying {t:TypeId}{d:TypeDesc}(h:P.underlying t=some d):(underlying t).run P w=.ok d w:=by simp [underlying,h]
theorem run_sizeOf {t:TypeId}{k:Nat}(h:gG P t=some k):(sizeOf t).run P w=.ok k w:=by simp only [gG,adV] at h;obtain⟨i,a,b⟩:=h;simp [sizeOf,typeInfo,a,b]
theorem Af {t:TypeId}{k:Nat}(h:lC P t=some k):∃i,(typeInfo t).run P w=.ok i w∧i.bytes=k:=by simp only [lC,adV] at h;obtain⟨i,a,b⟩:=h;exact⟨i,by simp [typeInfo,a],b⟩
theorem uP {t:TypeId}{b:Bool}(h:AV P t=some b):(isAgg t).run P w=.ok b w:=by
 simp only [AV] at h;cases hu:P.underlying t with
 | none=>simp [hu] at h
 | some d=>simp only [isAgg,D5,run_underlying hu,ql];cases d<;>simp_all
theorem Jj {t:TypeId}{s:Option Nat}(h:partT P t=some s):(s=none∧AV P t=some false∧∃k,gG P t=some k)∨(∃k,s=some k∧AV P t=some true∧gG P t=some k):=by simp only [partT] at h;split at h;rename_i k a b;cases h;exact .inr ⟨k,rfl,a,b⟩;rename_i k a b;cases h;exact .inl ⟨rfl,a,k,b⟩;cases h
theorem iM {t:TypeId}{z:List d9}(h:uN P t=some z)(ι:N9):∃v,(zeroValue t).run P w=.ok v w∧v.cells=(C8 ι z).toArray∧∀n,eU n z:=by
 simp only [uN] at h;cases hi:P.info? t with
 | none=>simp [hi] at h
 | some i=>
  cases hz:i.zero with
  | none=>simp [hi,hz] at h
  | some v=>
   cases ha:ofValue v with
   | none=>simp [hi,hz,ha] at h
   | some a=>simp only [hi,hz,ha,U1,lM] at h;subst h;obtain⟨b,c⟩:=qA ι v a ha;exact⟨v,by simp [zeroValue,typeInfo,hi,hz],by rw [← b,rC],λn=>Di (c n)⟩
theorem uQ {t:TypeId}{z:d9}(h:zeroV P t=some z)(ι:N9):(zeroValue t).run P w=.ok (u7 ι z) w∧∀n,z.lt n:=by
 simp only [zeroV] at h;cases hi:P.info? t with
 | none=>simp [hi] at h
 | some i=>
  cases hz:i.zero with
  | none=>simp [hi,hz] at h
  | some v=>simp only [hi,hz,U1] at h;obtain⟨a,b⟩:=qA ι v z h;exact⟨by simp [zeroValue,typeInfo,hi,hz,a],b⟩
end
theorem Dj (n:Int)(h:-9223372036854775808<=n∧n<9223372036854775808):IntKind.i64.wrap n=n:=by
 have a:((2:Int)^IntKind.i64.bits)=18446744073709551616:=rfl;have b:((2:Int)^(IntKind.i64.bits-1))=9223372036854775808:=rfl;unfold IntKind.wrap;rw [a,b];show (if (true&&decide (n%18446744073709551616≥9223372036854775808))=true then n%18446744073709551616-18446744073709551616 else n%18446744073709551616)=n;obtain⟨c,d⟩:=h;by_cases hn:0<=n;have:n%18446744073709551616=n:=Int.emod_eq_of_lt hn (by omega);rw [this,if_neg (by simp only [adW,decide_eq_true_eq];omega)];have:n%18446744073709551616=n+18446744073709551616:=by rw [← Int.add_emod_right];exact Int.emod_eq_of_lt (by omega) (by omega)
 rw [this,if_pos (by simp only [adW,decide_eq_true_eq];omega)];omega
theorem aj5 (n:Int):lI n=IntKind.i64.wrap n:=by
 cases n with
 | ofNat m=>
  simp only [lI];cases h:Nat.blt m 9223372036854775808 with
  | true=>
   have:m<9223372036854775808:=(Eq.mp O6 h)
   have a:=Dj (Int.ofNat m) ⟨by have:(0:Int)<=Int.ofNat m:=Int.natCast_nonneg m
                                omega,by have:Int.ofNat m=(m:Int):=rfl
                                         omega⟩
   exact (aH _ _).trans a.symm
  | false=>exact bA _ _
 | negSucc m=>
  simp only [lI];cases h:Nat.blt m 9223372036854775808 with
  | true=>have:m<9223372036854775808:=(Eq.mp O6 h);have e:=azG m;have a:=Dj (Int.negSucc m) ⟨by omega,by omega⟩;exact (aH _ _).trans a.symm
  | false=>exact bA _ _
theorem xV (k:IntKind)(n:Int):iW k n=k.wrap n:=by cases k<;>first | exact aj5 n | rfl
theorem ni (a b:Int):uJ a b=(a==b):=by
 cases a with
 | ofNat a=>
  cases b with
  | ofNat b=>show Nat.beq a b=_;by_cases h:a=b;subst h;simp [acK];rw [show Nat.beq a b=false from aaD.2 λe=>h (l7 e)];exact (beq_eq_false_iff_ne.2 (λe=>h (Int.ofNat.inj e))).symm
  | negSucc b=>exact (beq_eq_false_iff_ne.2 (λe=>by cases e)).symm
 | negSucc a=>
  cases b with
  | ofNat b=>exact (beq_eq_false_iff_ne.2 (λe=>by cases e)).symm
  | negSucc b=>show Nat.beq a b=_;by_cases h:a=b;subst h;simp [acK];rw [show Nat.beq a b=false from aaD.2 λe=>h (l7 e)];exact (beq_eq_false_iff_ne.2 (λe=>h (Int.negSucc.inj e))).symm
theorem blt_eq (a b:Nat):Nat.blt a b=decide (a<b):=by by_cases h:a<b;rw [decide_eq_true h];exact (Eq.mpr O6 h);rw [decide_eq_false h];exact aaD.2 λe=>h (Eq.mp O6 e)
theorem iO (a b:Int):mQ a b=decide (a<b):=by
 cases a with
 | ofNat a=>
  cases b with
  | ofNat b=>exact (blt_eq a b).trans (decide_eq_decide.2 (by show a<b↔(a:Int)<(b:Int);omega))
  | negSucc b=>exact (decide_eq_false (by rw [azG];show ¬ (a:Int) < _;omega)).symm
 | negSucc a=>
  cases b with
  | ofNat b=>exact (decide_eq_true (by rw [azG];show _<(b:Int);omega)).symm
  | negSucc b=>exact (blt_eq b a).trans (decide_eq_decide.2 (by rw [azG,azG];omega))
theorem Tj (a b:IntKind):kEq a b=decide (a=b):=by cases a<;>cases b<;>rfl
theorem Dk:∀a b:List UInt8,strEq a b=(a==b)
 | [],[]=>rfl
 | [],_ :: _=>rfl
 | _ :: _,[]=>rfl
 | x::a,y::b=>by
  show bi (Nat.beq x.toNat y.toNat) (strEq a b) false=_;rw [Dk a b];by_cases h:x=y;subst h;simp [acK];have:Nat.beq x.toNat y.toNat=false:=by rw [aaD];intro e;exact h (amB.1 (l7 e))
  rw [this];simp [h]
theorem Jk:∀a b:List UInt8,vK a b=Op.bytesLess a b
 | _,[]=>by cases ‹List UInt8› <;> rfl
 | [],_ :: _=>rfl
 | x::a,y::b=>by simp [vK,Op.bytesLess,Jk a b]
theorem N9.rD (ι:N9)(i o k:Nat):(ι.at i o).add k=ι.at i (o+k):=by
 unfold Addr.add N9.at
 split;rename_i h;subst h;rfl;rename_i h;have:¬ (o+k=0):=by omega
 simp [S9,this];intro _ a;exact absurd a h
section
variable {β:Type}{v:d9}{r:β}
theorem lK {k:Nat->Nat->Option β}(h:pG v k=some r):∃i o,v=.ptr i o∧k i o=some r:=by cases v<;>first | exact⟨_,_,rfl,h⟩ | (simp [pG] at h)
theorem oM {k:IntKind->Int->Option β}(h:xD v k=some r):∃i n,v=.int i n∧k i n=some r:=by cases v<;>first | exact⟨_,_,rfl,h⟩ | (simp [xD] at h)
theorem uR {k:Bool->Option β}(h:qU v k=some r):∃b,v=.bool b∧k b=some r:=by cases v<;>first | exact⟨_,rfl,h⟩ | (simp [qU] at h)
theorem sS {k:List UInt8->Option β}(h:xg v k=some r):∃s,v=.str s∧k s=some r:=by cases v<;>first | exact⟨_,rfl,h⟩ | (simp [xg] at h)
theorem jU {k:List d9->Option β}(h:EX v k=some r):∃l,v=.agg l∧k l=some r:=by cases v<;>first | exact⟨_,rfl,h⟩ | (simp [EX] at h)
theorem acX {k:List d9->Option β}(h:PG v k=some r):∃l,v=.tuple l∧k l=some r:=by cases v<;>first | exact⟨_,rfl,h⟩ | (simp [PG] at h)
theorem Ag {a:Option β}{k:Nat->Option β}(h:AR v a k=some r):(v=.nilMap∧a=some r)∨∃i,v=.map i∧k i=some r:=by cases v<;>first | exact .inl ⟨rfl,h⟩ | exact .inr ⟨_,rfl,h⟩ | (simp [AR] at h)
theorem xW {e:Option β}{k u:Nat->Nat->Nat->Nat->Option β}(h:xE v e k u=some r):
  (v=.nilSlice∧e=some r)∨(∃a b c d,v=.slice a b c d∧k a b c d=some r)∨∃a b c d,v=.sliceU a b c d∧u a b c d=some r:=by
 cases v<;>first | exact .inl ⟨rfl,h⟩ | exact .inr (.inl ⟨_,_,_,_,rfl,h⟩) | exact .inr (.inr ⟨_,_,_,_,rfl,h⟩) | (simp [xE] at h)
theorem NT {k:Fn->List d9->List d9->Option β}(h:PI v k=some r):∃f a b,v=.func f a b∧k f a b=some r:=by cases v<;>first | exact⟨_,_,_,rfl,h⟩ | (simp [PI] at h)
theorem acY {n:Int}{k:Nat->Option β}(h:Zd n k=some r):∃m:Nat,n=(m:Int)∧k m=some r:=by
 cases n with
 | ofNat m=>exact⟨m,rfl,h⟩
 | negSucc m=>simp [Zd] at h
theorem jh {k:Nat->Option β}(h:jL v k=some r):∃i,∃m:Nat,v=.int i (m:Int)∧k m=some r:=by obtain⟨i,n,rfl,h⟩:=oM h;obtain⟨m,rfl,h⟩:=acY h;exact⟨i,m,rfl,h⟩
theorem idx_eq {len:Nat}{k:Nat->Option β}(h:idx len v k=some r):∃i,∃m:Nat,v=.int i (m:Int)∧m<len∧k m=some r:=by obtain⟨i,m,rfl,h⟩:=jh h;obtain⟨a,b⟩:=J9 h;exact⟨i,m,rfl,Eq.mp O6 a,b⟩
end
section
variable {P:Program}{G:Mem}{ι:N9}{n:Nm}
theorem vO {c:BinOp}{t:TypeId}{x y:Operand}{a b:Value}{w:World}
  (h:∀p q,a≠.agg p∨b≠.agg q) (h':a≠.nilIface∨b≠.nilIface∨Bl x=true∨Bl y=true):(eqGuard c t x y a b).run P w=.ok () w:=by
 unfold eqGuard;cases c<;>simp<;>(
  split;rename_i d e;rcases h' with h' | h' | h' | h';exact absurd rfl h';exact absurd rfl h';cases x<;>simp_all [Bl]
  cases y<;>simp_all [Bl]
  rename_i p q;rcases h p q with h | h<;>exact absurd rfl h
  rfl)
theorem NU {c:BinOp}(e:c≠.shl)(f:c≠.shr){k:IntKind}{a b:Int}{v:d9}(h:NI c k a b=some v)(t:TypeId)(w:World):
  (binOp c t (.int k a) (.int k b)).run P w=.ok (u7 ι v) w∧v.lt n:=by
 cases c<;>first
  | exact absurd rfl e
  | exact absurd rfl f
  | (simp only [NI,Hu,Hw,IK,EY,Ze,YK,YL,Zf,YM,Lc,iOr,Ld,oK,lM] at h
     subst h;simp [binOp,Op.intArith,Op.intCmp,Op.intBits,u7,d9.lt,xV,ni,iO,PL,bne]
     done)
  | (simp only [NI,Hy,BK,aiZ] at h
     have d:b≠0:=(by rintro rfl;simp at h);split at h;exact absurd rfl d;cases h;simp [binOp,Op.intDiv,d,u7,d9.lt,xV])
  | (simp only [NI,YL,YM,lM] at h
     subst h;simp [binOp,Op.intCmp,u7,d9.lt,iO];rw [acB];simp)
theorem uS (s:List UInt8):(⟨s.toArray⟩:ByteArray).size=s.length:=by simp [ByteArray.size]
theorem NV {c:BinOp}{a b:List UInt8}{v:d9}(h:NJ c a b=some v)(t:TypeId)(w:World):
  (binOp c t (.string ⟨a.toArray⟩) (.string ⟨b.toArray⟩)).run P w=.ok (u7 ι v) w∧v.lt n:=by
 cases c<;>first
  | (simp only [NJ,Ba] at h;cases h;done)
  | (simp only [NJ,EZ,Zg,Zh,sLe,sGt,sGe,lM] at h
     subst h;simp [binOp,Op.stringOp,u7,d9.lt,Dk,Jk]
     done)
  | (simp only [NJ,eH] at h
     obtain⟨d,e⟩:=J9 h;cases e;have f:len' a+len' b<9223372036854775808:=Eq.mp O6 d;simp only [K7] at f;simp [binOp,Op.stringOp,uS,u7,d9.lt];rw [if_neg (by omega)];congr 3)
theorem vP {c:BinOp}(e:c≠.shl)(f:c≠.shr){x y v:d9}(h:Hz (NI c) (NJ c) x y=some v)(t:TypeId)(w:World):
  (binOp c t (u7 ι x) (u7 ι y)).run P w=.ok (u7 ι v) w∧v.lt n:=by
 cases x<;>try (simp [Hz] at h;done)
 rename_i k a;simp only [Hz] at h;obtain⟨i,b,rfl,h⟩:=oM h;obtain⟨d,g⟩:=J9 h;rw [Tj,decide_eq_true_eq] at d;subst d;exact NU e f g t w;rename_i a;simp only [Hz] at h;obtain⟨b,rfl,h⟩:=sS h;exact NV h t w
theorem Xm {b:BinOp}{x y v:d9}(h:Hz (NI b) (NJ b) x y=some v):
  (∃k a,x=.int k a)∨∃a,x=.str a:=by
 cases x<;>first | exact .inl ⟨_,_,rfl⟩ | exact .inr ⟨_,rfl⟩ | (simp [Hz] at h;done)
theorem LV {x y v:d9}(h:aj0 x y=some v)(t:TypeId)(w:World):(binOp .shl t (u7 ι x) (u7 ι y)).run P w=.ok (u7 ι v) w∧v.lt n:=by simp only [aj0] at h;obtain⟨k,a,rfl,h⟩:=oM h;obtain⟨i,m,rfl,h⟩:=jh h;cases h;simp [binOp,Op.shift,u7,d9.lt,xV,show ¬ ((m:Int)<0) from by omega]
theorem LW {x y v:d9}(h:Xj x y=some v)(t:TypeId)(w:World):(binOp .shr t (u7 ι x) (u7 ι y)).run P w=.ok (u7 ι v) w∧v.lt n:=by simp only [Xj] at h;obtain⟨k,a,rfl,h⟩:=oM h;obtain⟨i,m,rfl,h⟩:=jh h;cases h;simp [binOp,Op.shift,u7,d9.lt,show ¬ ((m:Int)<0) from by omega]
theorem Fp (a b:Bool):IL a b=(a==b):=by cases a<;>cases b<;>rfl
theorem vQ {x y:d9}{r:Bool}(h:iC x y=some r):∃k a b,x=.int k a∧y=.int k b∧r=(a==b):=by obtain⟨k,a,d,e⟩:=oM h;obtain⟨j,b,f,g⟩:=oM e;obtain⟨c,i⟩:=J9 g;rw [Tj,decide_eq_true_eq] at c;subst c;cases i;exact⟨_,_,_,d,f,ni _ _⟩
theorem mF {x y:d9}{r:Bool}(h:mR x y=some r):∃a b,x=.bool a∧y=.bool b∧r=(a==b):=by obtain⟨a,c,d⟩:=uR h;obtain⟨b,e,f⟩:=uR d;cases f;exact⟨_,_,c,e,Fp _ _⟩
theorem vR {x y:d9}{r:Bool}(h:eqStr x y=some r):∃a b,x=.str a∧y=.str b∧r=(a==b):=by obtain⟨a,c,d⟩:=sS h;obtain⟨b,e,f⟩:=sS d;cases f;exact⟨_,_,c,e,Dk _ _⟩
end
section
variable {P:Program}{G:Mem}{ι:N9}{n:Nm}
theorem oC (a b:List d9):fH [] a b=some true:=rfl
theorem mG (k:PK)(c:List PK)(x y:d9)(a b:List d9):fH (k::c) (x::a) (y::b)=ob (PN k x y) λr=>bi r (fH c a b) (some false):=rfl
theorem mH {k:PK}{c:List PK}{a b:List d9}{r:Bool}(h:fH (k::c) a b=some r):
  ∃x xs y ys s,a=x::xs∧b=y::ys∧PN k x y=some s∧bi s (fH c xs ys) (some false)=some r:=by
 cases a with
 | nil=>cases h
 | cons x xs=>
  cases b with
  | nil=>cases h
  | cons y ys=>rw [mG] at h;obtain⟨s,d,e⟩:=D9 h;exact⟨x,xs,y,ys,s,rfl,rfl,d,e⟩
theorem Tk (c e:List PK):∀(a b:List d9) (r:Bool),fH (c++e) a b=some r->
  (fH c a b=some false∧r=false)∨(fH c a b=some true∧fH e (a.drop c.length) (b.drop c.length)=some r):=by
 induction c with
 | nil=>intro a b r h;right;exact⟨rfl,by simpa using h⟩
 | cons k c ih=>
  intro a b r h;obtain⟨x,g,y,i,s,rfl,rfl,f,d⟩:=mH h;rw [mG,f];cases s with
  | false=>left;cases d;exact⟨rfl,rfl⟩
  | true=>simpa using ih g i r d
theorem Gw (c:List PK):∀(m:Nat) (a b:List d9),c.length<=m->fH c (a.take m) (b.take m)=fH c a b:=by
 induction c with
 | nil=>intro m a b _;rfl
 | cons k c ih=>
  intro m a b h;obtain⟨m,rfl⟩:∃m',m=m'+1:=⟨m-1,by simp at h;omega⟩;cases a with
  | nil=>rfl
  | cons x xs=>
   cases b with
   | nil=>rfl
   | cons y ys=>rw [List.take_succ_cons,List.take_succ_cons,mG,mG,ih m xs ys (by simpa using h)]
def mkV (ι:N9)(agg:Bool)(l:List d9):Value:=if agg then .agg (C8 ι l).toArray else u7 ι (l.headD .undef)
theorem NW (ι:N9)(l:List d9)(o k:Nat):((C8 ι l).toArray.extract o (o+k))=(C8 ι ((l.drop o).take k)).toArray:=by rw [List.extract_toArray];congr 1;rw [eX,eX,as2,aCP];simp [aAA,aCt]
theorem xX {t:TypeId}{a:Bool}{k:Nat}(b:AV P t=some a)(hs:gG P t=some k)(l:List d9)(o:Nat)(c:a=false->o<l.length∧k=1)(w:World):
  (part t (C8 ι l).toArray o).run P w=.ok (mkV ι a ((l.drop o).take k)) w:=by
 simp only [part,D5,uP b,ql];cases a with
 | true=>simp only [if_true,D5,run_sizeOf hs,ql,aa6,NW];rfl
 | false=>
  obtain⟨h,rfl⟩:=c rfl;have:(C8 ι l).toArray[o]?=some (u7 ι l[o]):=by simp [dZ,cB h]
  simp only [acG,if_false,this,mkV,aa6];congr 2;rw [M0 h];rfl
theorem Jl {t:TypeId}{k:IntKind}(h:P.underlying t=some (.int k)):AV P t=some false:=by simp [AV,h]
theorem Xn {t:TypeId}(h:P.underlying t=some .bool):AV P t=some false:=by simp [AV,h]
theorem Qj {t:TypeId}(h:P.underlying t=some .string):AV P t=some false:=by simp [AV,h]
theorem sU {t:TypeId}{a:Array Field}(h:P.underlying t=some (.struct a)):AV P t=some true:=by simp [AV,h]
theorem xY {t:TypeId}{k:IntKind}(h:P.underlying t=some (.int k)){x y:d9}{r:Bool}(c:iC x y=some r)(d:Nat)(w:World):
  (Op.equalIn (d+1) t (u7 ι x) (u7 ι y)).run P w=.ok r w:=by
 obtain⟨k,a,b,rfl,rfl,rfl⟩:=vQ c;simp [Op.equalIn,run_underlying h,u7]
theorem Dl {t:TypeId}(h:P.underlying t=some .bool){x y:d9}{r:Bool}(c:mR x y=some r)(d:Nat)(w:World):
  (Op.equalIn (d+1) t (u7 ι x) (u7 ι y)).run P w=.ok r w:=by
 obtain⟨a,b,rfl,rfl,rfl⟩:=mF c;simp [Op.equalIn,run_underlying h,u7]
theorem uj (a b:List UInt8):((⟨a.toArray⟩:ByteArray)==⟨b.toArray⟩)=(a==b):=by show ByteArray.beq _ _=_;simp [ByteArray.beq]
theorem Gx {t:TypeId}(h:P.underlying t=some .string){x y:d9}{r:Bool}(c:eqStr x y=some r)(d:Nat)(w:World):
  (Op.equalIn (d+1) t (u7 ι x) (u7 ι y)).run P w=.ok r w:=by
 obtain⟨a,b,rfl,rfl,rfl⟩:=vR c;simp [Op.equalIn,run_underlying h,u7,uj]
def mI (d:Nat)(X Y:Array Value):List Field->Sem Bool
 | []=>pure true
 | f::l=>do
  if f.name≠ "_" then
   if !(← Op.equalIn d f.type (← part f.type X f.offset) (← part f.type Y f.offset)) then return false
  mI d X Y l
theorem NY (d:Nat)(X Y:Array Value)(l:List Field):
  (do
   let s ← forIn l ((none,()):Option Bool×Unit) λf _=>
    if f.name≠ "_" then do
     let a ← part f.type X f.offset
     let b ← part f.type Y f.offset
     let e ← Op.equalIn d f.type a b
     if (!e)=true then pure (ForInStep.done (some false,())) else pure (ForInStep.yield (none,()))
    else pure (ForInStep.yield (none,()))
   match s.fst with
   | some r=>pure r
   | none=>pure true:Sem Bool)=mI d X Y l:=by
 induction l with
 | nil=>simp [mI]
 | cons f l ih=>rw [aCg];simp only [mI];rw [← ih];by_cases hf:f.name= "_";simp [hf];simp only [ne_eq,hf,not_false_eq_true,if_true,bind_assoc];congr 1;funext a;congr 1;funext b;congr 1;funext e;cases e<;>simp
theorem Jm {t:TypeId}{b:Array Field}(h:P.underlying t=some (.struct b))(hs:P.stoodInHeld t=false)(X Y:Array Value)(d:Nat)(w:World):
  (Op.equalIn (d+1) t (.agg X) (.agg Y)).run P w=(mI d X Y b.toList).run P w:=by
 simp only [Op.equalIn,D5,run_underlying h,ql,run_program,hs];rw [← aCn,← NY];simp;congr 1;funext a w';obtain⟨o,u⟩:=a;cases o<;>rfl
theorem LX:∀(d:Nat) (t:TypeId) (ks:List PK),jg P d t=some ks->∃agg,AV P t=some agg∧gG P t=some ks.length∧(agg=false->ks.length=1)∧
  ∀D,d<=D->∀(a b:List d9) (r:Bool),fH ks a b=some r->∀w,(Op.equalIn D t (mkV ι agg a) (mkV ι agg b)).run P w=.ok r w:=by
 intro d;induction d with
 | zero=>intro t ks h;simp [jg] at h
 | succ d ih=>
  intro t ks h;simp only [jg] at h;cases hu:P.underlying t with
  | none=>simp [hu] at h
  | some u=>
   rw [hu] at h;cases u<;>try (simp at h;done)
   ·
    simp only at h;split at h;rename_i k;cases h;refine⟨false,Xn hu,k,λ_=>rfl,λD F a b r n w=>?_⟩;obtain⟨x,I,y,J,s,rfl,rfl,m,q⟩:=mH n;obtain⟨D,rfl⟩:∃D',D=D'+1:=⟨D-1,by omega⟩;have:s=r:=by cases s<;>simpa [oC] using q
    subst this;exact Dl hu m D w;cases h
   simp only at h;split at h;rename_i k;cases h;refine⟨false,Jl hu,k,λ_=>rfl,λD F a b r n w=>?_⟩;obtain⟨x,I,y,J,s,rfl,rfl,m,q⟩:=mH n;obtain⟨D,rfl⟩:∃D',D=D'+1:=⟨D-1,by omega⟩;have:s=r:=by cases s<;>simpa [oC] using q
   subst this;exact xY hu m D w;cases h;simp only at h;split at h;rename_i k;cases h;refine⟨false,Qj hu,k,λ_=>rfl,λD F a b r n w=>?_⟩;obtain⟨x,I,y,J,s,rfl,rfl,m,q⟩:=mH n;obtain⟨D,rfl⟩:∃D',D=D'+1:=⟨D-1,by omega⟩;have:s=r:=by cases s<;>simpa [oC] using q
   subst this;exact Gx hu m D w;cases h;rename_i K;simp only at h;cases hf:rz (jg P d) K.toList 0 with
   | none=>simp [hf] at h
   | some ks'=>
    simp only [hf] at h;split at h;rename_i k;cases h;refine⟨true,sU hu,k.2,(λh=>by cases h),λD F a b r n w=>?_⟩;obtain⟨D,rfl⟩:∃D',D=D'+1:=⟨D-1,by omega⟩;simp only [mkV,if_true];rw [Jm hu k.1];have H:∀(l:List Field) (g:Nat) (e:List PK) (j:List PK),ks=j++e->j.length=g->rz (jg P d) l g=some e->
      ∀r,fH e (a.drop g) (b.drop g)=some r->(mI D (C8 ι a).toArray (C8 ι b).toArray l).run P w=.ok r w:=by
     intro l;induction l with
     | nil=>intro g e j _ _ i r B;simp only [rz,lM] at i;subst i;rw [oC] at B;cases B;simp [mI]
     | cons f l ihl=>
      intro g e j G A i r B;simp only [rz] at i;split at i;rename_i N;cases hk:jg P d f.type with
      | none=>simp [hk] at i
      | some kf=>
       simp only [hk] at i;cases hrest:rz (jg P d) l (g+kf.length) with
       | none=>simp [hrest] at i
       | some kr=>
        simp only [hrest,lM] at i;subst i;obtain⟨agg,M,C,m,L⟩:=ih f.type kf hk;have z:∀(c:List d9),(a=c∨b=c)->agg=false->g<c.length∧kf.length=1:=by
         intro c O v;have p:=m v;refine⟨?_,p⟩;cases kf with
         | nil=>simp at p
         | cons k0 kf=>obtain⟨x,I,y,J,s,o,E,_,_⟩:=mH B;rcases O with rfl | rfl;have:=congrArg List.length o;simp at this;omega;have:=congrArg List.length E;simp at this;omega
        simp only [mI,if_pos N.1,D5];rw [N.2,xX M C _ _ (z a (.inl rfl)),ql,xX M C _ _ (z b (.inr rfl)),ql];rcases Tk kf kr _ _ r B with⟨o,rfl⟩ | ⟨o,E⟩;rw [L D (by omega) _ _ _ ((Gw kf _ _ _ (aA _)).trans o) w];simp;rw [L D (by omega) _ _ _ ((Gw kf _ _ _ (aA _)).trans o) w];simp only [ql,aCu,acG,if_false];refine ihl (g+kf.length) kr (j++kf) (by rw [G];simp) (by simp [A]) hrest r ?_;simpa [ajK] using E
      cases i
    exact H K.toList 0 ks [] rfl rfl hf r (by simpa using n);cases h
end
section
variable {P:Program}{G:Mem}{ι:N9}{n:Nm}
theorem Zy {t:TypeId}{x y:d9}{r:Bool}(d:(∀k a,x≠.int k a)∧∀s,x≠.str s)(h:∀w,(Op.equal t (u7 ι x) (u7 ι y)).run P w=.ok r w)(w:World):
  (binOp .eql t (u7 ι x) (u7 ι y)).run P w=.ok (.bool r) w∧(binOp .neq t (u7 ι x) (u7 ι y)).run P w=.ok (.bool (!r)) w:=by
 have b:binOp .eql t (u7 ι x) (u7 ι y)=(do pure (.bool (← Op.equal t (u7 ι x) (u7 ι y)))):=by cases x<;>simp_all [u7,binOp]
 have c:binOp .neq t (u7 ι x) (u7 ι y)=(do pure (.bool (!(← Op.equal t (u7 ι x) (u7 ι y))))):=by cases x<;>simp_all [u7,binOp]
 rw [b,c];simp [h]
theorem Qk {t e:TypeId}(b:P.underlying t=some (.pointer e)){x y:d9}{r:Bool}(a:qV x y=some r)(d:Nat)(w:World):
  (Op.equalIn (d+1) t (u7 ι x) (u7 ι y)).run P w=.ok r w:=by
 cases x<;>cases y<;>simp only [qV,lM,reduceCtorEq] at a<;>subst a<;>simp [Op.equalIn,run_underlying b,u7]
theorem Ll {t e:TypeId}(b:P.underlying t=some (.slice e)){x y:d9}{r:Bool}(a:dY x y=some r)(d:Nat)(w:World):
  (Op.equalIn (d+1) t (u7 ι x) (u7 ι y)).run P w=.ok r w:=by
 cases x<;>cases y<;>simp only [dY,lM,reduceCtorEq] at a<;>subst a<;>simp [Op.equalIn,run_underlying b,u7]
theorem Ql {t k e:TypeId}(b:P.underlying t=some (.map k e)){x y:d9}{r:Bool}(a:PO x y=some r)(d:Nat)(w:World):
  (Op.equalIn (d+1) t (u7 ι x) (u7 ι y)).run P w=.ok r w:=by
 cases x<;>cases y<;>simp only [PO,lM,reduceCtorEq] at a<;>subst a<;>simp [Op.equalIn,run_underlying b,u7]
theorem NZ {t:TypeId}{a b:Array TypeId}{c:Bool}(f:P.underlying t=some (.func a b c)){x y:d9}{r:Bool}(e:IQ x y=some r)(d:Nat)(w:World):
  (Op.equalIn (d+1) t (u7 ι x) (u7 ι y)).run P w=.ok r w:=by
 cases x<;>cases y<;>simp only [IQ,lM,reduceCtorEq] at e<;>subst e<;>simp [Op.equalIn,run_underlying f,u7]
theorem Lm {t:TypeId}{c:Array (String×TypeId)}(b:P.underlying t=some (.interface c)){x y:d9}{r:Bool}(a:gT x y=some r)(d:Nat)(w:World):
  (Op.equalIn (d+1) t (u7 ι x) (u7 ι y)).run P w=.ok r w:=by
 cases x<;>cases y<;>simp only [gT,lM,reduceCtorEq] at a<;>subst a<;>simp [Op.equalIn,run_underlying b,u7]
theorem Oa {c:Bool}{t:TypeId}{k:Ij}(a:Zr P c t=some k){x y:d9}{r:Bool}(b:xk k x y=some r)(d:Nat)(j:10<=d+1)(w:World):
  (Op.equalIn (d+1) t (u7 ι x) (u7 ι y)).run P w=.ok r w:=by
 simp only [Zr] at a;cases hu:P.underlying t with
 | none=>simp [hu] at a
 | some u=>
  rw [hu] at a;cases u<;>try (simp at a;done)
  simp only [lM] at a;subst a;exact Dl hu b d w;simp only [lM] at a;subst a;exact xY hu b d w;simp only [lM] at a;subst a;exact Gx hu b d w;simp only [lM] at a;subst a;exact Qk hu b d w;simp only [lM] at a;subst a;exact Ll hu b d w;simp only [lM] at a;subst a;exact Ql hu b d w;rename_i o;simp only at a;cases hf:jg P 10 t with
  | none=>simp [hf] at a
  | some ks=>simp only [hf] at a;split at a;cases a;obtain⟨l,rfl,g⟩:=jU b;obtain⟨m,rfl,h⟩:=jU g;obtain⟨f,e,n,p,i⟩:=LX (P:=P) (ι:=ι) 10 t ks hf;rw [sU hu] at e;cases e;have:=i (d+1) j l m r h w;simpa [mkV,u7] using this;cases a
  simp only [lM] at a;subst a;exact NZ hu b d w;simp only at a;split at a;cases a;exact Lm hu b d w;cases a
theorem Gy {c:Bool}{t:TypeId}{k:Ij}(b:Zr P c t=some k){x y:d9}{r:Bool}(a:xk k x y=some r)(w:World):
  (Op.equal t (u7 ι x) (u7 ι y)).run P w=.ok r w:=Oa b a 9999 (by omega) w
theorem Zz {c:Bool}{t:TypeId}{k:Ij}(g:Zr P c t=some k)(e:k≠.prim .i)(f:k≠.prim .s){x y:d9}{r:Bool}(d:xk k x y=some r)(w:World):
  (binOp .eql t (u7 ι x) (u7 ι y)).run P w=.ok (.bool r) w∧(binOp .neq t (u7 ι x) (u7 ι y)).run P w=.ok (.bool (!r)) w:=by
 refine Zy ?_ (λw=>Gy g d w) w;cases k<;>first
  | (rename_i p;cases p<;>first
    | exact absurd rfl e
    | exact absurd rfl f
    | (obtain⟨a,b,rfl,rfl,rfl⟩:=mF d;simp))
  | (obtain⟨l,rfl,_⟩:=jU d;simp)
  | (cases x<;>cases y<;>simp [xk,qV,dY,PO,IQ,gT] at d ⊢)
def sV (d:Nat)(e:TypeId)(X Y:Array Value):List Nat->Sem Bool
 | []=>pure true
 | i::l=>do
  if !(← Op.equalIn d e (← part e X (i*1)) (← part e Y (i*1))) then return false
  sV d e X Y l
theorem Tm (d:Nat)(e:TypeId)(X Y:Array Value)(l:List Nat):
  (do
   let s ← forIn l ((none,()):Option Bool×Unit) λi _=>do
       let a ← part e X (i*1)
       let b ← part e Y (i*1)
       let r ← Op.equalIn d e a b
       if (!r)=true then pure (ForInStep.done (some false,())) else pure (ForInStep.yield (none,()))
   match s.fst with
   | some r=>pure r
   | none=>pure true:Sem Bool)=sV d e X Y l:=by
 induction l with
 | nil=>simp [sV]
 | cons f l ih=>rw [aCg];simp only [sV];rw [← ih];simp only [bind_assoc];congr 1;funext a;congr 1;funext b;congr 1;funext r;cases r<;>simp
theorem Lr {t e:TypeId}{k:Nat}(h:P.underlying t=some (.array k e))(hs:gG P e=some 1)(X Y:Array Value)(d:Nat)(w:World):
  (Op.equalIn (d+1) t (.agg X) (.agg Y)).run P w=(sV d e X Y (List.range k)).run P w:=by
 simp only [Op.equalIn,D5,run_underlying h,ql,run_sizeOf hs];rw [Std.Legacy.Range.forIn_eq_forIn_range'];rw [← Tm,aCf];simp;congr 1;funext a w';obtain⟨o,u⟩:=a;cases o<;>rfl
theorem Xo {e:TypeId}{kk:IntKind}(m:P.underlying e=some (.int kk))(hs:gG P e=some 1)(a b:List d9)(d:Nat)(w:World):∀(j off:Nat) (r:Bool),
  fH (List.replicate j .i) (a.drop off) (b.drop off)=some r->(sV (d+1) e (C8 ι a).toArray (C8 ι b).toArray (List.range' off j)).run P w=.ok r w:=by
 intro j;induction j with
 | zero=>intro off r h;rw [List.replicate_zero,oC] at h;cases h;simp [sV]
 | succ j ih=>
  intro off r h;rw [List.replicate_succ] at h;obtain⟨x,xs,y,ys,s,k,l,p,c⟩:=mH h;have t:off<a.length:=by have:=congrArg List.length k;simp at this;omega
  have u:off<b.length:=by have:=congrArg List.length l;simp at this;omega
  have f:=xX (P:=P) (ι:=ι) (Jl m) hs a off (λ_=>⟨t,rfl⟩) w;have g:=xX (P:=P) (ι:=ι) (Jl m) hs b off (λ_=>⟨u,rfl⟩) w;rw [k] at f;rw [l] at g;have f:(part e (C8 ι a).toArray off).run P w=.ok (u7 ι x) w:=f;have g:(part e (C8 ι b).toArray off).run P w=.ok (u7 ι y) w:=g;have q:=xY (ι:=ι) m p d w;rw [List.range'_succ];simp only [sV,adG,D5,f,g,q,ql];cases s with
  | false=>have c:some false=some r:=c;cases c;simp
  | true=>
   have c:fH (List.replicate j .i) xs ys=some r:=c;simp only [aCu,acG,if_false];refine ih (off+1) r ?_;have n:a.drop (off+1)=xs:=by rw [← ajK,k];rfl
   have o:b.drop (off+1)=ys:=by rw [← ajK,l];rfl
   rw [n,o];exact c
theorem Fq {t:TypeId}{k:Ij}(h:acT P t=some k):∃n e kk,P.underlying t=some (.array n e)∧P.underlying e=some (.int kk)∧gG P e=some 1∧P.eqGuardType P.depth t=false∧k=.flat (List.replicate n .i):=by unfold acT at h;split at h;rename_i n e c;split at h;rename_i kk b;split at h;rename_i a;cases h;exact⟨n,e,kk,c,b,a.1,a.2,rfl⟩;cases h;cases h;cases h
theorem BR {c:Bool}{t:TypeId}{k:Ij}(h:Zt P c t=some k):Zr P c t=some k∨acT P t=some k:=by unfold Zt at h;split at h;rename_i b a;cases h;exact .inl a;exact .inr h
theorem Xp {c:Bool}{t:TypeId}{k:Ij}(a:Zt P c t=some k)(b:k≠.prim .i)(d:k≠.prim .s){x y:d9}{r:Bool}(g:xk k x y=some r)(w:World):
  (binOp .eql t (u7 ι x) (u7 ι y)).run P w=.ok (.bool r) w∧(binOp .neq t (u7 ι x) (u7 ι y)).run P w=.ok (.bool (!r)) w:=by
 rcases BR a with a | a;exact Zz a b d g w;obtain⟨n,e,q,p,f,h,_,rfl⟩:=Fq a;obtain⟨l,rfl,j⟩:=jU g;obtain⟨m,rfl,o⟩:=jU j;refine Zy (by simp) (λw=>?_) w;have:Op.equal t (u7 ι (.agg l)) (u7 ι (.agg m))=Op.equalIn (9999+1) t (.agg (C8 ι l).toArray) (.agg (C8 ι m).toArray):=by simp [u7,Op.equal,Op.maxDepth]
 rw [this,Lr p h,aCf];exact Xo f h l m 9998 w n 0 r (by simpa using o)
end
end
end Go.AM
