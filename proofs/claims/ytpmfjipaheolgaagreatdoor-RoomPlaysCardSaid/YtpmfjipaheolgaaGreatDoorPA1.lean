/- A part of an evaluator for the model, proved sound: what it answers holds of the model; it speaks of every program, no condition. -/
import GoSem.Core.Code
import GoSem.Core.Program
import GoSem.Core.View
import GoSem.Core.World
import GoSem.Core.Region
import GoSem.Core.Layout
import GoSem.Op.Equal
import Derived.CallsIn
import Derived.Laws.Sem
import GoSem.Dispatch
import Derived.Laws.Strings
set_option linter.all false
namespace Go.AM
open Go
open Nat (beq ble blt)
theorem Zs {P:Prop}(h:P:=by omega):P:=h
theorem ZZ {P:Prop}(h:P:=by simp):P:=h
theorem ZS {P:Prop}(h:P:=by decide):P:=h
theorem ZD {P:Prop}(h:P:=by simp;omega):P:=h
theorem Ys {α:Sort _}{a:α}:a=a:=id rfl
abbrev aE:=@if_neg
abbrev cg:=@if_pos
abbrev ci:=@congrArg
abbrev cj:=@absurd
abbrev ck:=@decide_eq_true_eq
abbrev co:=@decide_eq_true
abbrev cG:=World
abbrev cH:=Program
abbrev cI:=TypeId
abbrev cJ:=IntKind
abbrev cL:=UInt8
abbrev cQ:=List Int
abbrev cR:=List Nat
abbrev aA:=@Nat.le_refl
abbrev aP:=@Nat.lt_of_lt_of_le
abbrev cB:=@List.getElem?_eq_getElem
abbrev dn:=@Nat.le_trans
abbrev gB:=@List.getElem?_eq_some_iff
abbrev iE:=@Option.some.injEq
abbrev lM:=@List.mem_singleton
abbrev l7:=@Nat.ble_eq_true_of_le
abbrev nA:=@Nat.eq_of_beq_eq_true
abbrev nM:=@Result.andThen_ok
abbrev oo:=@Bool.and_eq_true
abbrev ql:=@List.getElem_mem
abbrev rW:=@Option.some.inj
abbrev su:=@List.drop_of_length_le
abbrev vo:=@Array.getElem?_eq_some_iff
abbrev wu:=@Sem.run_bind
abbrev zu:=@List.drop_eq_getElem_cons
abbrev D5:=@Nat.le_of_ble_eq_true
abbrev LA:=@List.mem_append
abbrev O0:=@List.getD_eq_getElem?_getD
abbrev O4:=@List.mem_cons
abbrev O5:=@List.mem_of_getElem?
abbrev O6:=@Array.getD_eq_getD_getElem?
abbrev O7:=@List.take_succ_eq_append_getElem
abbrev O8:=@Nat.blt_eq
abbrev O9:=@List.nil_append
abbrev P5:=@Array.getElem?_setIfInBounds_ne
abbrev P6:=@List.length_pos_iff
abbrev P7:=@Nat.zero_add
abbrev P8:=@Array.getElem?_setIfInBounds_self_of_lt
abbrev P9:=@List.take_of_length_le
abbrev U0:=@Nat.mul_le_mul_right
abbrev U1:=@List.length_eq_zero_iff
abbrev W9:=@List.drop_zero
abbrev aaf:=@List.length_append
abbrev aa0:=@Bool.eq_false_iff
abbrev aa1:=@List.mem_cons_of_mem
abbrev aa2:=@Sem.run_pure
abbrev aa5:=@List.length_cons
abbrev abP:=@List.getElem?_map
abbrev acv:=@Bool.eq_iff_iff
abbrev adg:=@List.mem_map
abbrev adh:=@Nat.add_zero
abbrev adi:=@List.getElem?_of_mem
abbrev adl:=@List.getElem?_append_left
abbrev adn:=@List.mem_of_mem_take
abbrev ado:=@Array.getElem?_eq_getElem
abbrev adp:=@Nat.mod_two_eq_zero_or_one
abbrev afp:=@List.map_cons
abbrev agz:=@List.cons_append
abbrev agA:=@List.append_nil
abbrev agB:=@List.getElem_of_mem
abbrev agD:=@List.mem_cons_self
abbrev agT:=@List.all_eq_true
abbrev agU:=@Option.bind_some
abbrev agY:=@Bool.false_eq_true
abbrev ag4:=@List.mem_filter
abbrev ag8:=@Option.map_some
abbrev ahe:=@Nat.zero_le
abbrev ahf:=@List.getElem?_append_right
abbrev ahg:=@Array.toArray_toList
abbrev ahh:=@List.mem_of_mem_drop
abbrev ahk:=@Nat.mul_one
abbrev ahO:=@List.getElem?_take
abbrev ahP:=@List.length_map
abbrev ah3:=@Nat.zero_mul
abbrev ah6:=@Nat.beq_refl
abbrev aic:=@Nat.succ_mul
abbrev aie:=@Nat.add_assoc
abbrev aiC:=@List.length_filter_le
abbrev ai8:=@List.getElem_append_left
abbrev ajn:=@List.getElem?_eq_none
abbrev ajo:=@List.map_append
abbrev ajp:=@List.getElem?_cons_succ
abbrev ajq:=@Nat.mod_lt
abbrev ajr:=@Nat.mul_comm
abbrev ajs:=@List.drop_drop
abbrev ajt:=@Decidable.byContradiction
abbrev aju:=@Nat.mod_eq_of_lt
abbrev ajv:=@List.length_take
abbrev ajx:=@Nat.add_mul
abbrev ajy:=@Bool.true_and
abbrev akg:=@List.mem_range
abbrev akh:=@List.getElem?_inj
abbrev aki:=@Nat.le_of_lt
abbrev akj:=@Option.map_eq_some_iff
abbrev akk:=@List.cons.inj
abbrev akl:=@List.getElem_map
abbrev akv:=@List.getElem?_drop
abbrev aqv:=@List.getElem?_toArray
abbrev aqw:=@List.mem_or_eq_of_mem_set
abbrev aqx:=@List.mem_append_left
abbrev aqR:=@Ne.symm
abbrev aq4:=@List.getElem?_set
abbrev aq8:=@Nat.add_sub_cancel_left
abbrev ari:=@List.filter_cons
abbrev arj:=@List.not_mem_nil
abbrev arO:=@List.take_length
abbrev asa:=@List.length_drop
abbrev asg:=@Calls.mono
abbrev asW:=@Nat.lt_or_ge
abbrev as2:=@Nat.add_comm
abbrev as4:=@Array.ext_getElem?
abbrev ata:=@Nat.pow_succ
abbrev atb:=@List.take_append_drop
abbrev atc:=@Nat.le_div_iff_mul_le
abbrev atd:=@List.mem_append_right
abbrev ate:=@Bool.or_eq_true
abbrev ato:=@List.size_toArray
abbrev atW:=@List.append_assoc
abbrev at1:=@Nat.pow_le_pow_right
abbrev at7:=@List.take_zero
abbrev avr:=@List.filter_eq_self
abbrev avv:=@Option.bind_eq_some_iff
abbrev avw:=@Nat.lt_irrefl
abbrev avx:=@List.map_take
abbrev avy:=@Nat.min_eq_left
abbrev avA:=@List.getElem_range
abbrev avB:=@UInt8.toNat_inj
abbrev avG:=@List.cons.injEq
abbrev avJ:=@List.filter_append
abbrev avK:=@Array.getElem?_eq_none
abbrev avQ:=@List.length_eq_one_iff
abbrev avR:=@List.getElem_cons_zero
abbrev avS:=@List.set_append_right
abbrev avT:=@List.map_nil
abbrev avU:=@Nat.div_eq_of_lt
abbrev avV:=@Nat.le_of_not_lt
abbrev avY:=@Bool.false_or
abbrev awf:=@List.mem_map_of_mem
abbrev awg:=@List.map_congr_left
abbrev awh:=@Option.map_none
abbrev awi:=@List.extract_eq_take_drop
abbrev aww:=@List.length_nil
abbrev awx:=@List.foldl_cons
abbrev awy:=@Nat.div_add_mod
abbrev awz:=@List.getElem?_zip_eq_some
abbrev awC:=@Array.getElem?_replicate
abbrev awD:=@Nat.gcd_comm
abbrev awE:=@Nat.gcd_zero_right
abbrev awF:=@Bool.not_not
abbrev awG:=@Nat.mul_div_cancel
abbrev awH:=@Nat.lt_of_lt_of_eq
abbrev awI:=@UInt8.toNat_lt
abbrev awJ:=@Int.negSucc_eq
abbrev awK:=@List.filter_cons_of_neg
abbrev awL:=@List.filter_cons_of_pos
abbrev awM:=@List.getElem?_cons_zero
abbrev awN:=@List.pairwise_map
abbrev awQ:=@List.flatten_cons
abbrev awR:=@Nat.lt_trichotomy
abbrev awS:=@Bool.not_eq_true'
abbrev awT:=@List.set_eq_take_append_cons_drop
abbrev awU:=@Array.getElem?_push_lt
abbrev awV:=@List.filter_eq_nil_iff
abbrev awW:=@Array.setIfInBounds_eq_of_size_le
abbrev awX:=@Nat.gcd_rec
abbrev awY:=@List.getElem_set
abbrev awZ:=@Bool.and_eq_false_iff
abbrev aw0:=@List.nodup_cons
abbrev aw1:=@List.getElem?_append
abbrev axa:=@List.mem_iff_getElem
abbrev axb:=@List.find?_eq_some_iff_getElem
abbrev axc:=@List.range_eq_range'
abbrev axd:=@Bool.or_eq_false_iff
abbrev axe:=@List.forIn_cons
abbrev axf:=@Int.le_trans
abbrev axg:=@List.eq_nil_of_length_eq_zero
abbrev axh:=@Nat.mul_le_mul_left
abbrev axi:=@Nat.mul_le_mul
abbrev axj:=@Array.forIn_toList
abbrev axk:=@Nat.add_sub_cancel
abbrev axl:=@Nat.lt_or_eq_of_le
abbrev axm:=@Nat.pos_of_ne_zero
abbrev axn:=@Nat.one_le_div_iff
abbrev axo:=@Int.tdiv_eq_ediv_of_nonneg
abbrev axp:=@Array.getElem?_append_left
abbrev axq:=@List.map_drop
abbrev axr:=@Bool.not_true
abbrev axt:=@Nat.le_succ_of_le
abbrev axu:=@List.getElem_take
abbrev axv:=@List.length_range
abbrev axw:=@Int.toNat_natCast
abbrev axx:=@List.pairwise_iff_getElem
abbrev axy:=@Array.mapM_eq_mapM_toList
abbrev axz:=@List.exists_mem_of_ne_nil
abbrev axA:=@List.getElem_append_right
abbrev axB:=@Classical.byContradiction
abbrev axC:=@Array.toList_map
abbrev axD:=@Nat.sub_self
abbrev axE:=@Int.le_of_lt
abbrev axF:=@Nat.min_eq_right
abbrev axG:=@List.mem_reverse
abbrev axH:=@List.map_map
abbrev axI:=@Array.toList_inj
abbrev axJ:=@List.take_append_getElem
abbrev axK:=@List.ext_getElem
abbrev axL:=@List.any_eq_true
abbrev axM:=@Nat.mul_add_mod
abbrev axN:=@Nat.min_le_left
abbrev axO:=@List.find?_cons
abbrev axQ:=@Int.le_refl
abbrev axR:=@List.take_left
abbrev axT:=@Bool.false_and
abbrev axU:=@List.mapM_cons
abbrev axW:=@List.all_cons
end Go.AM
namespace Go.AM
open Go
open Nat (beq ble blt)
noncomputable section
inductive T(α:Type) where
 |e:T α
 |nd:T α->α->T α->T α
inductive j5 where
 |undef
 |bool (b:Bool)
 |int (k:cJ) (n:Int)
 |str (s:List cL)
 |nilPtr
 |ptr (id off:Nat)
 |nilSlice
 |slice (id off len cap:Nat)
 |sliceU (id off len es:Nat)
 |nilMap
 |map (id:Nat)
 |nilFunc
 |func (fn:Fn) (first captured:List j5)
 |nilIface
 |iface (t:cI) (v:j5)
 |agg (l:List j5)
 |tuple (l:List j5)
 |aL (v:j5)
 deriving Inhabited
abbrev cM:=List j5
def j5.cells:j5->cM
 |.agg l=>l
 |v=>[v]
inductive aS where
 |loc (k:Nat)
 |slot (j:Nat)
 |con (v:j5)
 deriving Inhabited
inductive PK where
 |i|b|s
 deriving Inhabited,DecidableEq
inductive Ig where
 |prim (k:PK)|flat (ks:List PK)|ptr|slice|map|func|iface
 deriving Inhabited,DecidableEq
inductive POp where
 |mov (x:aS)
 |pick (c a b:aS)
 |build (zero:cM) (parts:List (Nat×Nat×aS))
 |nilCheck (x:aS)
 |ib (op:BinOp) (x y:aS)
 |eq (neg:Bool) (k:Ig) (x y:aS)
 |not (x:aS)
 |neg (x:aS)
 |conv (k:cJ) (x:aS)
 |mkIface (t:cI) (x:aS)
 |mkFunc (fn:Fn) (first captured:List aS)
 |slStr (x:aS) (lo hi:Option aS)
 |slArr (es n:Nat) (x:aS) (lo hi:Option aS)
 |fAddr (off:Nat) (x:aS)
 |fld (off:Nat) (size:Option Nat) (x:aS)
 |iAddr (es:Nat) (x i:aS)
 |iAddrArr (es n:Nat) (x i:aS)
 |iArr (es n:Nat) (size:Option Nat) (x i:aS)
 |iStr (x i:aS)
 |ext (x:aS) (i:Nat)
 |len (x:aS)
 |lenS (x:aS)
 |cap (x:aS)
 |mm (max:Bool) (x:aS) (xs:List aS)
 |assert (t:cI) (zero:j5) (ok:Bool) (x:aS)
 deriving Inhabited
inductive TN where
 |load (size:Option Nat) (a:aS)
 |look (kk:Ig) (zero:j5) (ok:Bool) (m k:aS)
 |lenM (x:aS)
 |bytesStr (x:aS)
 |entry (it:aS)
 deriving Inhabited
inductive Yf where
 |alloc (zero:cM)
 |box (x:aS)
 |buildSlice (es len:Nat) (zero:cM) (parts:List (Nat×Nat×aS))
 |mkMap
 |mkSlice (es bytes:Nat) (zero:cM) (len cap:aS)
 |strBytes (x:aS)
 |sl (es:Nat) (x:aS) (lo hi:Option aS)
 deriving Inhabited
inductive ZR where
 |store (size:Nat) (a x:aS)
 |mapSet (kk:Ig) (m k x:aS)
 |range (x:aS)
 |next (it:aS)
 |app (es:Nat) (zeros:Bool) (zero:cM) (bytes:Nat) (s x:aS)
 |copy (es:Nat) (d s:aS)
 |clear (zero:cM) (x:aS)
 |call (f:FuncId) (args:List aS)
 |callv (f:aS) (args:List aS)
 |defer (f:aS) (args:List aS)
 |panic (x:aS)
 |recover
 |bad
 deriving Inhabited
inductive Db where
 |p (o:POp)
 |r (o:TN)
 |a (o:Yf)
 |e (o:ZR)
 deriving Inhabited
structure Inst where
 op:Db
 dst:Option Nat
 guard:Option (aS×Bool)
 deriving Inhabited
inductive bM where
 |skip
 |reg (cz:List Inst)
 |dreg (ids:Nat) (cz:List (Nat×Inst))
 |seq (a b:bM)
 |cond (c:aS) (thn els:bM)
 |block (id:Nat) (body:bM)
 |loop (body:bM)
 |exit (id:Nat)
 |ret
 |rangeFunc (f:aS) (params:List (Option Nat)) (assign body:bM)
 deriving Inhabited
inductive bQ where
 |normal
 |exit (id:Nat)
 |ret
 deriving Inhabited,DecidableEq
inductive Mk where
 |c (id:Nat)
 |d (f:j5) (args:cM)
 deriving Inhabited
inductive rC where
 |tmp (j:Nat)
 |cell (j:Nat) (size:Option Nat)
 deriving Inhabited
structure AFn where
 nargs:Nat
 args:List (Option Nat)
 nslots:Nat
 results:List rC
 body:bM
 deriving Inhabited
def jY:POp->List aS
 |.mov x=>[x]
 |.pick a b c=>[a,b,c]
 |.build _ ps=>ps.map (·.2.2)
 |.nilCheck x=>[x]
 |.ib _ x y=>[x,y]
 |.eq _ _ x y=>[x,y]
 |.not x=>[x]
 |.neg x=>[x]
 |.conv _ x=>[x]
 |.mkIface _ x=>[x]
 |.mkFunc _ a b=>a++b
 |.slStr x a b=>x::(a.toList++b.toList)
 |.slArr _ _ x a b=>x::(a.toList++b.toList)
 |.fAddr _ x=>[x]
 |.fld _ _ x=>[x]
 |.iAddr _ x i=>[x,i]
 |.iAddrArr _ _ x i=>[x,i]
 |.iArr _ _ _ x i=>[x,i]
 |.iStr x i=>[x,i]
 |.ext x _=>[x]
 |.len x=>[x]
 |.lenS x=>[x]
 |.cap x=>[x]
 |.mm _ x xs=>x::xs
 |.assert _ _ _ x=>[x]
def IE:TN->List aS
 |.load _ a=>[a]
 |.look _ _ _ m x=>[m,x]
 |.lenM x=>[x]
 |.bytesStr x=>[x]
 |.entry x=>[x]
def opsL:Yf->List aS
 |.alloc _=>[]
 |.box x=>[x]
 |.buildSlice _ _ _ ps=>ps.map (·.2.2)
 |.mkMap=>[]
 |.mkSlice _ _ _ l c=>[l,c]
 |.strBytes x=>[x]
 |.sl _ x a b=>x::(a.toList++b.toList)
def opsE:ZR->List aS
 |.store _ a x=>[a,x]
 |.mapSet _ a b c=>[a,b,c]
 |.range x=>[x]
 |.next x=>[x]
 |.app _ _ _ _ s x=>[s,x]
 |.copy _ d s=>[d,s]
 |.clear _ x=>[x]
 |.call _ a=>a
 |.callv g a=>g::a
 |.defer g a=>g::a
 |.panic x=>[x]
 |.recover=>[]
 |.bad=>[]
def IG:Db->List aS
 |.p o=>jY o
 |.r o=>IE o
 |.a o=>opsL o
 |.e o=>opsE o
variable {α β γ:Type}
def ob(o:Option α)(k:α->Option β):Option β:=Option.rec none (λa=>k a) o
def bi(b:Bool)(x y:α):α:=Bool.rec y x b
def T.get(t:T α):Nat->Option α:=
 T.rec (λ_=>none) (λ_ x _ ihl ihr i=>Nat.rec (some x) (λj _=>Nat.rec (ihl (Nat.div j 2)) (λ_ _=>ihr (Nat.div j 2)) (Nat.mod j 2)) i) t
def T.put(t:T α):Nat->α->T α:=
 T.rec (λ_ x=>.nd .e x .e) (λl y r ihl ihr i x=>Nat.rec (.nd l x r) (λj _=>Nat.rec (.nd (ihl (Nat.div j 2) x) y r) (λ_ _=>.nd l y (ihr (Nat.div j 2) x)) (Nat.mod j 2)) i) t
def T.rD(l:List α):T α->Nat->T α:=
 List.rec (λt _=>t) (λx _ ih t i=>ih (t.put i x) (Nat.succ i)) l
def T.ofList(l:List α):T α:=T.rD l .e 0
def T.slice(t:T α)(n:Nat):Nat->Option (List α):=
 Nat.rec (λ_=>some []) (λ_ ih i=>ob (t.get i) λx=>ob (ih (Nat.succ i)) λxs=>some (x::xs)) n
def T.rep(x:α)(n:Nat):T α->Nat->T α:=
 Nat.rec (λt _=>t) (λ_ ih t i=>ih (t.put i x) (Nat.succ i)) n
def takeN(n:Nat):List α->Option (List α):=
 Nat.rec (λ_=>some []) (λ_ ih l=>List.rec none (λx xs _=>ob (ih xs) λr=>some (x::r)) l) n
def iA(n:Nat):List α->List α:=
 Nat.rec (λl=>l) (λ_ ih l=>List.rec [] (λ_ xs _=>ih xs) l) n
def vU(n:Nat):List α->Option α:=
 Nat.rec (λl=>List.rec none (λx _ _=>some x) l) (λ_ ih l=>List.rec none (λ_ xs _=>ih xs) l) n
def nth(n:Nat):cM->j5:=
 Nat.rec (λl=>List.rec j5.undef (λx _ _=>x) l) (λ_ ih l=>List.rec j5.undef (λ_ xs _=>ih xs) l) n
def dK(l m:List α):List α:=List.rec m (λx _ ih=>x::ih) l
def len'(l:List α):Nat:=List.rec 0 (λ_ _ ih=>Nat.succ ih) l
def pK(n:Nat)(vs:List α):List α->List α:=
 Nat.rec (λl=>dK vs (iA (len' vs) l)) (λ_ ih l=>List.rec [] (λx xs _=>x::ih xs) l) n
def pO(v:j5)(k:Nat->Nat->Option β):Option β:=match v with
 |.ptr i o=>k i o
 |_=>none
def xL(v:j5)(k:cJ->Int->Option β):Option β:=match v with
 |.int a b=>k a b
 |_=>none
def rE(v:j5)(k:Bool->Option β):Option β:=match v with
 |.bool b=>k b
 |_=>none
def xM(v:j5)(k:List cL->Option β):Option β:=match v with
 |.str s=>k s
 |_=>none
def EL(v:j5)(k:cM->Option β):Option β:=match v with
 |.agg l=>k l
 |_=>none
def Qw(v:j5)(k:cM->Option β):Option β:=match v with
 |.tuple l=>k l
 |_=>none
def Ba(v:j5)(nl:Option β)(k:Nat->Option β):Option β:=match v with
 |.nilMap=>nl
 |.map i=>k i
 |_=>none
def xC(v:j5)(nl:Option β)(k:Nat->Nat->Nat->Nat->Option β)(u:Nat->Nat->Nat->Nat->Option β):Option β:=match v with
 |.nilSlice=>nl
 |.slice a b c d=>k a b c d
 |.sliceU a b c d=>u a b c d
 |_=>none
def Qx(v:j5)(k:Fn->cM->cM->Option β):Option β:=match v with
 |.func f a b=>k f a b
 |_=>none
def aa3(n:Int)(k:Nat->Option β):Option β:=match n with
 |.ofNat m=>k m
 |.negSucc _=>none
def jC(v:j5)(k:Nat->Option β):Option β:=xL v λ_ n=>aa3 n k
inductive Y9 where
 |void
 |dead
 |cells (rs n:Nat) (cF:T cM)
 |map (es:List (j5×j5))
 |iter (m:Option Nat) (since:Nat) (seen:cR)
 |tail (parent:Nat)
 |loop (st:LoopState) (pend:Option bQ) (env:T j5) (params:List (Option Nat)) (assign body:bM)
 |deferred
 deriving Inhabited
structure cD where
 t:T Y9
 nx:Nat
 lim:Nat
def cD.get(m:cD)(i:Nat):Option Y9:=m.t.get i
def cD.new(m:cD)(b:Y9):cD:=⟨m.t.put m.nx b,Nat.succ m.nx,m.lim⟩
def cD.set(m:cD)(i:Nat)(b:Y9):cD:=⟨m.t.put i b,m.nx,m.lim⟩
def aY(b:Option Y9)(k:Nat->Nat->T cM->Option β):Option β:=match b with
 |some (.cells rs n cF)=>k rs n cF
 |_=>none
def ZT(b:Option Y9)(k:List (j5×j5)->Option β):Option β:=match b with
 |some (.map es)=>k es
 |_=>none
def cell1(rs n:Nat)(cF:T cM)(off:Nat):Option j5:=
 Bool.rec none (Option.rec none (λrow=>vU (Nat.mod off rs) row) (cF.get (Nat.div off rs))) (blt (Nat.div off rs) n)
def qp(rs n:Nat)(cF:T cM)(off k:Nat):Option cM:=
 bi (blt (Nat.div off rs) n) (ob (cF.get (Nat.div off rs)) λrow=>
  bi (beq (Nat.mod off rs) 0) (bi (beq k rs) (some row) (takeN k row)) (takeN k (iA (Nat.mod off rs) row))) none
def J7(rs n:Nat)(cF:T cM)(k:Nat):Nat->Option cM:=
 Nat.rec (λ_=>some []) (λ_ ih off=>ob (cell1 rs n cF off) λv=>ob (ih (Nat.succ off)) λl=>some (v::l)) k
def bf(rs n:Nat)(cF:T cM)(off:Nat)(vs:cM):Option (T cM):=
 bi (blt (Nat.div off rs) n) (ob (cF.get (Nat.div off rs)) λrow=>
  bi (ble (Nat.add (Nat.mod off rs) (len' vs)) rs) (some (cF.put (Nat.div off rs) (pK (Nat.mod off rs) vs row))) none) none
def kH(rs n:Nat)(vs:cM):T cM->Nat->Option (T cM):=
 List.rec (λcF _=>some cF) (λv _ ih cF off=>ob (bf rs n cF off [v]) λrows'=>ih rows' (Nat.succ off)) vs
def rowsOf(rs n:Nat):cM->Option (List cM):=
 Nat.rec (λl=>List.rec (some []) (λ_ _ _=>none) l) (λ_ ih l=>ob (takeN rs l) λr=>ob (ih (iA rs l)) λrest=>some (r::rest)) n
def D8(v:j5):Bool:=match v with
 |.undef|.agg _|.tuple _|.aL _=>false
 |_=>true
def H8(l:cM):Bool:=List.rec true (λv _ ih=>bi (D8 v) ih false) l
def storeAt(m:cD)(id off:Nat)(vs:cM)(k:cD->Option β):Option β:=
 bi (blt id m.lim) none (bi (H8 vs) (aY (m.get id) λrs n cF=>ob (bf rs n cF off vs) λrows'=>k (m.set id (.cells rs n rows'))) none)
def gY(m:cD)(id off:Nat)(vs:cM)(k:cD->Option β):Option β:=
 List.rec (k m) (λ_ _ _=>bi (blt id m.lim) none (bi (H8 vs) (aY (m.get id) λrs n cF=>ob (kH rs n vs cF off) λrows'=>k (m.set id (.cells rs n rows'))) none)) vs
abbrev OF:=cM->T j5->j5
def bE(k:Nat):OF:=λls _=>nth k ls
def N9:OF:=λls _=>List.rec j5.undef (λx _ _=>x) ls
def uQ:OF:=λls _=>List.rec j5.undef (λ_ l _=>List.rec j5.undef (λx _ _=>x) l) ls
def jJ:OF:=λls _=>List.rec j5.undef (λ_ l _=>List.rec j5.undef (λ_ l _=>List.rec j5.undef (λx _ _=>x) l) l) ls
def vT:OF:=λls _=>List.rec j5.undef (λ_ l _=>List.rec j5.undef (λ_ l _=>List.rec j5.undef (λ_ l _=>List.rec j5.undef (λx _ _=>x) l) l) l) ls
def bO(v:j5):OF:=λ_ _=>v
def gH:T j5->j5:=T.rec .undef (λ_ x _ _ _=>x)
def gL(g:T j5->j5):T j5->j5:=T.rec .undef (λl _ _ _ _=>g l)
def gR(g:T j5->j5):T j5->j5:=T.rec .undef (λ_ _ r _ _=>g r)
def G5(g:T j5->j5):OF:=λ_ env=>g env
def way:Nat->Nat->T j5->j5
 |0,_=>λ_=>.undef
 |_+1,0=>gH
 |n+1,j+1=>match j%2 with
  |0=>gL (way n (j / 2))
  |_=>gR (way n (j / 2))
def J6:aS->OF
 |.loc 0=>N9
 |.loc 1=>uQ
 |.loc 2=>jJ
 |.loc 3=>vT
 |.loc k=>bE k
 |.slot j=>G5 (way 64 j)
 |.con v=>bO v
def jD:List aS->List OF
 |[]=>[]
 |x::l=>J6 x::jD l
def om:Option aS->Option OF
 |none=>none
 |some x=>some (J6 x)
def evs(l:List OF)(ls:cM)(env:T j5):cM:=List.rec [] (λx _ ih=>x ls env::ih) l
def sH:j5->T j5->T j5:=λv=>T.rec .e (λl _ r _ _=>.nd l v r)
def sL(s:j5->T j5->T j5):j5->T j5->T j5:=λv=>T.rec .e (λl x r _ _=>.nd (s v l) x r)
def sR(s:j5->T j5->T j5):j5->T j5->T j5:=λv=>T.rec .e (λl x r _ _=>.nd l x (s v r))
def fM:Nat->Nat->j5->T j5->T j5
 |0,_=>λ_ t=>t
 |_+1,0=>sH
 |n+1,j+1=>match j%2 with
  |0=>sL (fM n (j / 2))
  |_=>sR (fM n (j / 2))
def gT:j5->T j5->T j5:=λ_ t=>t
def fA:Option Nat->j5->T j5->T j5
 |none=>gT
 |some j=>fM 64 j
def kY(n:Int):Int:=match n with
 |.ofNat m=>bi (blt m 9223372036854775808) (.ofNat m) (IntKind.i64.wrap (.ofNat m))
 |.negSucc m=>bi (blt m 9223372036854775808) (.negSucc m) (IntKind.i64.wrap (.negSucc m))
def iB(k:cJ)(n:Int):Int:=match k with
 |.i64=>kY n
 |k=>k.wrap n
def qC:Int->Int->Bool
 |.ofNat a,.ofNat b=>beq a b
 |.negSucc a,.negSucc b=>beq a b
 |_,_=>false
def mX:Int->Int->Bool
 |.ofNat a,.ofNat b=>blt a b
 |.negSucc _,.ofNat _=>true
 |.ofNat _,.negSucc _=>false
 |.negSucc a,.negSucc b=>blt b a
def kEq(a b:cJ):Bool:=match a,b with
 |.i64,.i64=>true
 |a,b=>decide (a=b)
def strEq(a:List cL):List cL->Bool:=
 List.rec (λb=>List.rec true (λ_ _ _=>false) b) (λx _ ih b=>List.rec false (λy ys _=>bi (beq x.toNat y.toNat) (ih ys) false) b) a
def vV:List cL->List cL->Bool
 |_,[]=>false
 |[],_ :: _=>true
 |a::x,b::y=>a<b||(a==b&&vV x y)
def Qy(k:cJ)(f:BitVec k.bits->BitVec k.bits->BitVec k.bits)(a b:Int):j5:=
 .int k (k.wrap (f (BitVec.ofInt k.bits a) (BitVec.ofInt k.bits b)).toNat)
def ahd(b:Int)(r:Option j5):Option j5:=match b with
 |.ofNat 0=>none
 |_=>r
abbrev IB:=cJ->Int->Int->Option j5
def Oe:IB:=λk a b=>some (.int k (iB k (a+b)))
def Qz:IB:=λk a b=>some (.int k (iB k (a-b)))
def TP:IB:=λk a b=>some (.int k (iB k (a*b)))
def QA:IB:=λk a b=>ahd b (some (.int k (iB k (a.tdiv b))))
def EO:IB:=λk a b=>ahd b (some (.int k (a.tmod b)))
def Lv:IB:=λk a b=>some (Qy k (· &&& ·) a b)
def iOr:IB:=λk a b=>some (Qy k (· ||| ·) a b)
def Yg:IB:=λk a b=>some (Qy k (· ^^^ ·) a b)
def Ah:IB:=λk a b=>some (Qy k (λx y=>x &&& ~~~y) a b)
def Hw:IB:=λ_ a b=>some (.bool (qC a b))
def iNe:IB:=λ_ a b=>some (.bool (!qC a b))
def iLt:IB:=λ_ a b=>some (.bool (mX a b))
def iLe:IB:=λ_ a b=>some (.bool (!mX b a))
def iGt:IB:=λ_ a b=>some (.bool (mX b a))
def iGe:IB:=λ_ a b=>some (.bool (!mX a b))
def iNo:IB:=λ_ _ _=>none
abbrev SB:=List cL->List cL->Option j5
def fZ:SB:=λa b=>bi (blt (Nat.add (len' a) (len' b)) 9223372036854775808) (some (.str (dK a b))) none
def Hy:SB:=λa b=>some (.bool (strEq a b))
def sNe:SB:=λa b=>some (.bool (!strEq a b))
def sLt:SB:=λa b=>some (.bool (vV a b))
def sLe:SB:=λa b=>some (.bool (vV a b||strEq a b))
def sGt:SB:=λa b=>some (.bool (!(vV a b||strEq a b)))
def sGe:SB:=λa b=>some (.bool (!vV a b))
def II:SB:=λ_ _=>none
def Og:BinOp->IB
 |.add=>Oe|.sub=>Qz|.mul=>TP|.quo=>QA|.rem=>EO|.and=>Lv|.or=>iOr|.xor=>Yg|.andNot=>Ah
 |.shl=>iNo|.shr=>iNo|.eql=>Hw|.neq=>iNe|.lss=>iLt|.leq=>iLe|.gtr=>iGt|.geq=>iGe
def Oh:BinOp->SB
 |.add=>fZ|.eql=>Hy|.neq=>sNe|.lss=>sLt|.leq=>sLe|.gtr=>sGt|.geq=>sGe
 |_=>II
def Bb(f:IB)(g:SB)(x y:j5):Option j5:=match x with
 |.int k a=>xL y λk' b=>bi (kEq k k') (f k a b) none
 |.str a=>xM y λb=>g a b
 |_=>none
def ahi(x y:j5):Option j5:=xL x λk a=>jC y λm=>some (.int k (iB k (a*2^(min m k.bits))))
def TQ(x y:j5):Option j5:=xL x λk a=>jC y λm=>some (.int k (a.fdiv (2^(min m k.bits))))
def IJ(a b:Bool):Bool:=bi a b (bi b false true)
def jQ(x y:j5):Option Bool:=xL x λk a=>xL y λk' b=>bi (kEq k k') (some (qC a b)) none
def um(x y:j5):Option Bool:=rE x λa=>rE y λb=>some (IJ a b)
def eqStr(x y:j5):Option Bool:=xM x λa=>xM y λb=>some (strEq a b)
def QB(k:PK):j5->j5->Option Bool:=match k with
 |.i=>jQ
 |.b=>um
 |.s=>eqStr
def gu(ks:List PK):cM->cM->Option Bool:=
 List.rec (λ_ _=>some true) (λk _ ih a b=>List.rec none (λx xs _=>List.rec none (λy ys _=>ob (QB k x y) λr=>bi r (ih xs ys) (some false)) b) a) ks
def gy(ks:List PK)(x y:j5):Option Bool:=EL x λa=>EL y λb=>gu ks a b
def xW(x y:j5):Option Bool:=match x,y with
 |.nilPtr,.nilPtr=>some true
 |.nilPtr,.ptr _ _=>some false
 |.ptr _ _,.nilPtr=>some false
 |_,_=>none
def iR(x y:j5):Option Bool:=match x,y with
 |.nilSlice,.nilSlice=>some true
 |.nilSlice,.slice ..|.nilSlice,.sliceU ..=>some false
 |.slice ..,.nilSlice|.sliceU ..,.nilSlice=>some false
 |_,_=>none
def QC(x y:j5):Option Bool:=match x,y with
 |.nilMap,.nilMap=>some true
 |.nilMap,.map _|.map _,.nilMap=>some false
 |_,_=>none
def IK(x y:j5):Option Bool:=match x,y with
 |.nilFunc,.nilFunc=>some true
 |.nilFunc,.func ..|.func ..,.nilFunc=>some false
 |_,_=>none
def kI(x y:j5):Option Bool:=match x,y with
 |.nilIface,.nilIface=>some true
 |.nilIface,.iface ..|.iface ..,.nilIface=>some false
 |_,_=>none
abbrev IL:=j5->j5->Option Bool
def xO:Ig->IL
 |.prim .i=>jQ|.prim .b=>um|.prim .s=>eqStr|.flat ks=>gy ks|.ptr=>xW|.slice=>iR|.map=>QC|.func=>IK|.iface=>kI
abbrev PF:=cM->T j5->Option j5
def fI(x:OF):PF:=λls env=>some (x ls env)
def dw(c a b:OF):PF:=λls env=>rE (c ls env) λt=>some (bi t (a ls env) (b ls env))
def lay(ps:List (Nat×Nat×OF))(ls:cM)(env:T j5):cM->Option cM:=
 List.rec (λcs=>some cs) (λp _ ih cs=>
  bi (beq (len' (p.2.2 ls env).cells) p.2.1) (bi (ble (Nat.add p.1 p.2.1) (len' cs)) (ih (pK p.1 (p.2.2 ls env).cells cs)) none) none) ps
def vW(zero:cM)(ps:List (Nat×Nat×OF)):PF:=λls env=>ob (lay ps ls env zero) λl=>some (.agg l)
def IQ(v:j5):Option j5:=match v with
 |.nilPtr|.nilIface|.nilFunc=>none
 |.func (.func f) a b=>some (.func (.func f) a b)
 |.func ..=>none
 |v=>some v
def ou(x:OF):PF:=λls env=>IQ (x ls env)
def Hz(f:IB)(g:SB)(x y:OF):PF:=λls env=>Bb f g (x ls env) (y ls env)
def Yh(x y:OF):PF:=λls env=>ahi (x ls env) (y ls env)
def TR(x y:OF):PF:=λls env=>TQ (x ls env) (y ls env)
def IU(f:IL)(x y:OF):PF:=λls env=>ob (f (x ls env) (y ls env)) λb=>some (.bool b)
def pNe(f:IL)(x y:OF):PF:=λls env=>ob (f (x ls env) (y ls env)) λb=>some (.bool (!b))
def Oi(x:OF):PF:=λls env=>rE (x ls env) λb=>some (.bool (!b))
def TS(x:OF):PF:=λls env=>xL (x ls env) λk n=>some (.int k (iB k (0-n)))
def IV(k:cJ)(x:OF):PF:=λls env=>xL (x ls env) λ_ n=>some (.int k (iB k n))
def BI(t:cI)(x:OF):PF:=λls env=>some (.iface t (x ls env))
def Me(fn:Fn)(a b:List OF):PF:=λls env=>some (.func fn (evs a ls env) (evs b ls env))
def jk(o:Option OF)(d:Nat)(ls:cM)(env:T j5)(k:Nat->Option β):Option β:=
 Option.rec (k d) (λx=>jC (x ls env) k) o
def vX(x:OF)(lo hi:Option OF):PF:=λls env=>xM (x ls env) λs=>jk lo 0 ls env λl=>jk hi (len' s) ls env λh=>bi (ble l h) (bi (ble h (len' s)) (ob (takeN (Nat.sub h l) (iA l s)) λr=>some (.str r)) none) none
def EP(es n:Nat)(x:OF)(lo hi:Option OF):PF:=λls env=>pO (x ls env) λid off=>jk lo 0 ls env λl=>jk hi n ls env λh=>bi (ble l h) (bi (ble h n) (some (.slice id (bi (beq l n) off (Nat.add off (Nat.mul l es))) (Nat.sub h l) (Nat.sub n l))) none) none
def H9(o:Nat)(x:OF):PF:=λls env=>pO (x ls env) λid off=>some (.ptr id (Nat.add off o))
def IW(off:Nat)(x:OF):PF:=λls env=>EL (x ls env) λcs=>vU off cs
def Mf(off k:Nat)(x:OF):PF:=λls env=>EL (x ls env) λcs=>ob (takeN k (iA off cs)) λl=>some (.agg l)
def idx(len:Nat)(v:j5)(k:Nat->Option β):Option β:=jC v λi=>bi (blt i len) (k i) none
def ow(es:Nat)(x i:OF):PF:=λls env=>
 xC (x ls env) none (λid off len _=>idx len (i ls env) λk=>some (.ptr id (Nat.add off (Nat.mul k es))))
  (λid off len _=>idx len (i ls env) λk=>some (.ptr id (Nat.add off (Nat.mul k es))))
def qV(es n:Nat)(x i:OF):PF:=λls env=>pO (x ls env) λid off=>idx n (i ls env) λk=>some (.ptr id (Nat.add off (Nat.mul k es)))
def aa4(es n:Nat)(x i:OF):PF:=λls env=>EL (x ls env) λcs=>idx n (i ls env) λk=>vU (Nat.mul k es) cs
def ER(es n sz:Nat)(x i:OF):PF:=λls env=>EL (x ls env) λcs=>idx n (i ls env) λk=>ob (takeN sz (iA (Nat.mul k es) cs)) λl=>some (.agg l)
def Dc(x i:OF):PF:=λls env=>xM (x ls env) λs=>jC (i ls env) λk=>ob (vU k s) λb=>some (.int .u8 b.toNat)
def pExt(x:OF)(i:Nat):PF:=λls env=>Qw (x ls env) λl=>vU i l
def lenOf(v:j5):Option Nat:=match v with
 |.nilSlice=>some 0
 |.slice _ _ n _=>some n
 |.sliceU _ _ n _=>some n
 |.str s=>some (len' s)
 |_=>none
def QD(x:OF):PF:=λls env=>xC (x ls env) (some (.int .i64 0)) (λ_ _ n _=>some (.int .i64 (.ofNat n))) (λ_ _ n _=>some (.int .i64 (.ofNat n)))
def IX(x:OF):PF:=λls env=>xM (x ls env) λs=>some (.int .i64 (.ofNat (len' s)))
def Yi(x:OF):PF:=λls env=>xC (x ls env) (some (.int .i64 0)) (λ_ _ _ c=>some (.int .i64 (.ofNat c))) (λ_ _ _ _=>none)
def mm2(mx:Bool)(x y:j5):Option j5:=xL x λk a=>xL y λ_ b=>some (.int k (bi mx (bi (mX a b) b a) (bi (mX b a) b a)))
def QE(mx:Bool)(ys:cM):j5->Option j5:=List.rec (λx=>some x) (λy _ ih x=>ob (mm2 mx x y) ih) ys
def pMm(mx:Bool)(x:OF)(xs:List OF):PF:=λls env=>QE mx (evs xs ls env) (x ls env)
def WI(t:cI)(zero:j5)(ok:Bool)(v:j5):Option j5:=match v with
 |.iface u y=>bi (beq u t) (some (bi ok (.tuple [y,.bool true]) y)) (bi ok (some (.tuple [zero,.bool false])) none)
 |.nilIface=>bi ok (some (.tuple [zero,.bool false])) none
 |_=>none
def oQ(t:cI)(zero:j5)(ok:Bool)(x:OF):PF:=λls env=>WI t zero ok (x ls env)
def ES:List (Nat×Nat×aS)->List (Nat×Nat×OF)
 |[]=>[]
 |p::l=>(p.1,p.2.1,J6 p.2.2)::ES l
def qW:POp->PF
 |.mov x=>fI (J6 x)
 |.pick c a b=>dw (J6 c) (J6 a) (J6 b)
 |.build z ps=>vW z (ES ps)
 |.nilCheck x=>ou (J6 x)
 |.ib op x y=>match op with
  |.shl=>Yh (J6 x) (J6 y)
  |.shr=>TR (J6 x) (J6 y)
  |op=>Hz (Og op) (Oh op) (J6 x) (J6 y)
 |.eq neg k x y=>match neg with
  |true=>pNe (xO k) (J6 x) (J6 y)
  |false=>IU (xO k) (J6 x) (J6 y)
 |.not x=>Oi (J6 x)
 |.neg x=>TS (J6 x)
 |.conv k x=>IV k (J6 x)
 |.mkIface t x=>BI t (J6 x)
 |.mkFunc fn a b=>Me fn (jD a) (jD b)
 |.slStr x lo hi=>vX (J6 x) (om lo) (om hi)
 |.slArr es n x lo hi=>EP es n (J6 x) (om lo) (om hi)
 |.fAddr o x=>H9 o (J6 x)
 |.fld off size x=>match size with
  |none=>IW off (J6 x)
  |some k=>Mf off k (J6 x)
 |.iAddr es x i=>ow es (J6 x) (J6 i)
 |.iAddrArr es n x i=>qV es n (J6 x) (J6 i)
 |.iArr es n size x i=>match size with
  |none=>aa4 es n (J6 x) (J6 i)
  |some k=>ER es n k (J6 x) (J6 i)
 |.iStr x i=>Dc (J6 x) (J6 i)
 |.ext x i=>pExt (J6 x) i
 |.len x=>QD (J6 x)
 |.lenS x=>IX (J6 x)
 |.cap x=>Yi (J6 x)
 |.mm mx x xs=>pMm mx (J6 x) (jD xs)
 |.assert t z ok x=>oQ t z ok (J6 x)
abbrev RF:=cM->T j5->cD->Option j5
def U6(a:OF):RF:=λls env m=>pO (a ls env) λid off=>aY (m.get id) λrs n cF=>cell1 rs n cF off
def ak(k:Nat)(a:OF):RF:=λls env m=>pO (a ls env) λid off=>aY (m.get id) λrs n cF=>ob (qp rs n cF off k) λl=>some (.agg l)
def findKey(f:IL)(k:j5)(es:List (j5×j5)):Nat->Option (Option (Nat×j5)):=
 List.rec (λ_=>some none) (λe _ ih i=>ob (f k e.1) λb=>bi b (some (some (i,e.2))) (ih (Nat.succ i))) es
def found(ok:Bool)(zero:j5)(o:Option (Nat×j5)):Option j5:=
 Option.rec (some (bi ok (.tuple [zero,.bool false]) zero)) (λp=>some (bi ok (.tuple [p.2,.bool true]) p.2)) o
def gD(f:IL)(n:Nat)(k:j5)(es:List (j5×j5)):Option (Option (Nat×j5)):=
 bi (beq (len' k.cells) n) (List.rec (ob (f k k) λ_=>some none) (λ_ _ _=>findKey f k es 0) es) none
def nX(f:IL)(n:Nat)(zero:j5)(ok:Bool)(mp k:OF):RF:=λls env m=>Ba (mp ls env) (ob (gD f n (k ls env) []) λr=>found ok zero r) λid=>ZT (m.get id) λes=>ob (gD f n (k ls env) es) λr=>found ok zero r
def agC(x:OF):RF:=λls env m=>Ba (x ls env) (some (.int .i64 0)) λid=>ZT (m.get id) λes=>some (.int .i64 (.ofNat (len' es)))
def bytesOf:List cL->cM
 |[]=>[]
 |b::l=>.int .u8 b.toNat::bytesOf l
def byteOf:cM->Option (List cL)
 |[]=>some []
 |.int .u8 (.ofNat n)::l=>match byteOf l with
  |some s=>some (UInt8.ofNat n::s)
  |none=>none
 |_ :: _=>none
def Z6(m:cD)(id off n:Nat):Option cM:=
 Nat.rec (some []) (λ_ _=>aY (m.get id) λrs k cF=>J7 rs k cF n off) n
def Z8(m:cD)(es n:Nat)(v:j5):Option cM:=match v with
 |.nilSlice=>some []
 |.slice id off _ _=>Z6 m id off (Nat.mul n es)
 |.sliceU id off _ _=>Z6 m id off (Nat.mul n es)
 |.str s=>some (bytesOf (s.take n))
 |_=>none
def dH(x:OF):RF:=λls env m=>
 xC (x ls env) (some (.str [])) (λid off len _=>ob (Z6 m id off len) λl=>ob (byteOf l) λs=>some (.str s))
  (λid off len _=>ob (Z6 m id off len) λl=>ob (byteOf l) λs=>some (.str s))
def WJ(b:Option Y9)(nl:Option β)(k:Nat->Nat->cR->Option β):Option β:=match b with
 |some (.iter none _ _)=>nl
 |some (.iter (some mp) since seen)=>k mp since seen
 |_=>none
def ET(it:OF):RF:=λls env m=>pO (it ls env) λid off=>bi (beq off 0)
 (WJ (m.get id) none λmp since seen=>List.rec none (λi _ _=>ZT (m.get mp) λes=>bi (beq (len' es) since) (ob (vU i es) λe=>some (.tuple [e.1,e.2])) none) seen) none
def Oj:Ig->Nat
 |.flat ks=>ks.length
 |_=>1
def xX:TN->RF
 |.load size a=>match size with
  |none=>U6 (J6 a)
  |some k=>ak k (J6 a)
 |.look kk zero ok m k=>nX (xO kk) (Oj kk) zero ok (J6 m) (J6 k)
 |.lenM x=>agC (J6 x)
 |.bytesStr x=>dH (J6 x)
 |.entry it=>ET (J6 it)
abbrev LR:=Option (j5×Option Y9)
abbrev LF:=cM->T j5->Nat->LR
def j6(cs:cM):Y9:=.cells (len' cs) 1 (.nd .e cs .e)
def jR(es n:Nat)(cells:cM)(k:Y9->Option β):Option β:=ob (rowsOf es n cells) λcF=>k (.cells es n (T.ofList cF))
def xY(zero:cM):LF:=λ_ _ nid=>some (.ptr nid 0,some (j6 zero))
def uR(x:OF):LF:=λls env nid=>some (.ptr nid 0,some (j6 (x ls env).cells))
def U4(zero:cM)(n:Nat):cM:=Nat.rec [] (λ_ ih=>dK zero ih) n
def J2(es len:Nat)(zero:cM)(ps:List (Nat×Nat×OF)):LF:=λls env nid=>ob (lay ps ls env (U4 zero len)) λcells=>jR es len cells λb=>some (.slice nid 0 len len,some b)
def EU:LF:=λ_ _ nid=>some (.map nid,some (.map []))
def mY(es bytes:Nat)(zero:cM)(len cap:OF):LF:=λls env nid=>
 jC (len ls env) λl=>jC (cap ls env) λc=>
  bi (ble l c) (bi (ble (Nat.mul bytes c) 281474976710656) (bi (blt c 9223372036854775808)
   (some (.slice nid 0 l c,some (.cells es c (T.rep zero c .e 0)))) none) none) none
def qX(x:OF):LF:=λls env nid=>xM (x ls env) λs=>jR 1 (len' s) (bytesOf s) λb=>some (.sliceU nid 0 (len' s) 1,some b)
def K6(nid es:Nat)(x:j5)(lo:Nat)(hi:Option Nat):LR:=
 xC x (bi (beq lo 0) (Option.rec (some (.nilSlice,none)) (λh=>bi (beq h 0) (some (.nilSlice,none)) none) hi) none)
  (λid off len cap=>Option.rec (known id off cap len) (λh=>known id off cap h) hi)
  (λid off len es'=>Option.rec (unk id off len es' len) (λh=>unk id off len es' h) hi)
where
 known (id off cap h:Nat):LR:=bi (ble lo h) (bi (ble h cap)
  (some (.slice id (bi (beq lo cap) off (Nat.add off (Nat.mul lo es))) (Nat.sub h lo) (Nat.sub cap lo),none)) none) none
 unk (id off len es' h:Nat):LR:=bi (ble lo h) (bi (ble h len) (bi (beq es es')
  (bi (blt lo len) (some (.sliceU id (Nat.add off (Nat.mul lo es)) (Nat.sub h lo) es,none))
   (bi (beq lo 0) (some (.sliceU id off (Nat.sub h lo) es,none)) (some (.sliceU nid 0 0 es,some (.tail id))))) none) none) none
def TU(es:Nat)(x:OF)(lo hi:Option OF):LF:=λls env nid=>jk lo 0 ls env λl=>Option.rec (K6 nid es (x ls env) l none) (λh=>jC (h ls env) λh=>K6 nid es (x ls env) l (some h)) hi
def Gr:Yf->LF
 |.alloc zero=>xY zero
 |.box x=>uR (J6 x)
 |.buildSlice es len zero ps=>J2 es len zero (ES ps)
 |.mkMap=>EU
 |.mkSlice es bytes zero l c=>mY es bytes zero (J6 l) (J6 c)
 |.strBytes x=>qX (J6 x)
 |.sl es x lo hi=>TU es (J6 x) (om lo) (om hi)
structure VM where
 v:j5
 m:cD
abbrev pQ:=Option (List VM)
abbrev G6:=Fn->cM->cD->pQ
abbrev EF:=G6->cM->T j5->cD->pQ
def one(v:j5)(m:cD):pQ:=some [⟨v,m⟩]
def kZ(size:Nat)(a x:OF):EF:=λ_ ls env m=>pO (a ls env) λid off=>bi (beq (len' (x ls env).cells) size) (storeAt m id off (x ls env).cells λm'=>one .undef m') none
def mZ(es:List (j5×j5))(k v:j5):Nat->List (j5×j5):=
 List.rec (λ_=>[]) (λe es ih i=>Nat.rec ((k,v)::es) (λj _=>e::ih j) i) es
def vY(f:IL)(n:Nat)(mp k x:OF):EF:=λ_ ls env m=>Ba (mp ls env) none λid=>bi (blt id m.lim) none
 (ZT (m.get id) λes=>ob (gD f n (k ls env) es) λr=>
  Option.rec (one .undef (m.set id (.map (dK es [(k ls env,x ls env)])))) (λp=>ob (vU p.1 es) λe=>
   bi (beq (len' e.1.cells) n) (one .undef (m.set id (.map (mZ es (k ls env) (x ls env) p.1)))) none) r)
def EW(x:OF):EF:=λ_ ls env m=>Ba (x ls env) (one (.ptr m.nx 0) (m.new (.iter none 0 [])))
 λid=>ZT (m.get id) λes=>one (.ptr m.nx 0) (m.new (.iter (some id) (len' es) []))
def aa6(n:Nat)(l:cR):Bool:=List.rec false (λx _ ih=>bi (beq x n) true ih) l
def nexts(m:cD)(id mp since:Nat)(seen:cR)(es:List (j5×j5)):Nat->List VM:=
 List.rec (λ_=>[]) (λe _ ih i=>bi (aa6 i seen) (ih (Nat.succ i))
  (⟨.tuple [.bool true,e.1,e.2],m.set id (.iter (some mp) since (i::seen))⟩::ih (Nat.succ i))) es
def TV(m:cD)(l:List VM):List VM:=List.rec [⟨.tuple [.bool false],m⟩] (λx xs _=>x::xs) l
def Mg(it:OF):EF:=λ_ ls env m=>pO (it ls env) λid off=>bi (beq off 0) (bi (blt id m.lim) none
 (WJ (m.get id) (one (.tuple [.bool false]) m) λmp since seen=>ZT (m.get mp) λes=>
  bi (beq (len' es) since) (some (TV m (nexts m id mp since seen es 0))) none)) none
def big(n bytes es:Nat):Bool:=bi (ble (Nat.mul (Nat.add (Nat.mul 2 n) 2048) bytes) 281474976710656) (bi (ble 1 es) (ble 1 bytes) false) false
def grown(m:cD)(es n:Nat)(cells:cM):pQ:=jR es n cells λb=>one (.sliceU m.nx 0 n es) (m.new b)
def IY(m:cD)(es bytes n:Nat)(new:cM):pQ:=
 Nat.rec (one .nilSlice m) (λ_ _=>bi (big n bytes es) (grown m es n new) none) n
def gF(m:cD)(es bytes n:Nat)(new:cM)(id off len cap:Nat):pQ:=
 bi (ble (Nat.add len n) cap) (gY m id (Nat.add off (Nat.mul len es)) new λm'=>one (.slice id off (Nat.add len n) cap) m')
  (bi (big (Nat.add len n) bytes es) (ob (Z6 m id off (Nat.mul len es)) λold=>grown m es (Nat.add len n) (dK old new)) none)
def uS(b:Option Y9)(c:Nat->Nat->T cM->Option β)(k:Nat->Option β):Option β:=match b with
 |some (.cells rs n cF)=>c rs n cF
 |some (.tail p)=>k p
 |_=>none
def ng(m:cD)(es bytes n:Nat)(new:cM)(id off len es':Nat):pQ:=
 Nat.rec (one (.sliceU id off len es') m) (λ_ _=>bi (beq es es') (bi (big (Nat.add len n) bytes es) (bi (ble m.lim id) (bi (H8 new)
  (uS (m.get id)
   (λrs k cF=>
    bi (bi (beq rs es) (bi (beq off 0) (bi (ble len k) (bi (beq n 1) (beq (len' new) es) false) false) false) false)
     (one (.sliceU m.nx 0 (Nat.succ len) es) ((m.set id .dead).new (.cells es (Nat.succ len) (cF.put len new))))
     (ob (J7 rs k cF (Nat.mul len es) off) λold=>grown (m.set id .dead) es (Nat.add len n) (dK old new)))
   (λp=>aY (m.get p) λ_ _ _=>bi (ble m.lim p) (bi (beq len 0) (grown (m.set p .dead) es n new) none) none)) none) none) none) none) n
def jS(m:cD)(es bytes n:Nat)(new:cM)(s:j5):pQ:=
 xC s (IY m es bytes n new) (λa b c d=>gF m es bytes n new a b c d) (λa b c d=>ng m es bytes n new a b c d)
def lu(es bytes:Nat)(s x:OF):EF:=λ_ ls env m=>ob (lenOf (x ls env)) λn=>ob (Z8 m es n (x ls env)) λnew=>jS m es bytes n new (s ls env)
def Mh(es:Nat)(zero:cM)(bytes:Nat)(s x:OF):EF:=λ_ ls env m=>jC (x ls env) λn=>bi (ble (Nat.mul n bytes) 281474976710656) (bi (blt n 9223372036854775808) (jS m es bytes n (U4 zero n) (s ls env)) none) none
def IZ(es:Nat)(d s:OF):EF:=λ_ ls env m=>ob (lenOf (s ls env)) λn=>xC (d ls env) (one (.int .i64 0) m) (λid off len _=>go m n id off len (s ls env)) (λid off len _=>go m n id off len (s ls env))
where
 go (m:cD) (n id off len:Nat) (s:j5):pQ:=ob (Z8 m es (Nat.min n len) s) λcells=>gY m id off cells λm'=>one (.int .i64 (.ofNat (Nat.min n len))) m'
def BJ(zero:cM)(x:OF):EF:=λ_ ls env m=>
 xC (x ls env) (one (.tuple []) m) (λid off len _=>gY m id off (U4 zero len) λm'=>one (.tuple []) m')
  (λid off len _=>gY m id off (U4 zero len) λm'=>one (.tuple []) m')
def jZ(f:FuncId)(args:List OF):EF:=λcf ls env m=>cf (.func f) (evs args ls env) m
def aa7(cf:G6)(m:cD)(args:cM)(v:j5):pQ:=Qx v λfn a b=>match fn with
 |.func f=>cf (.func f) (dK a (dK args b)) m
 |.yield l=>cf (.yield l) (dK a args) m
 |_=>none
def BK(f:OF)(args:List OF):EF:=λcf ls env m=>aa7 cf m (evs args ls env) (f ls env)
def adq(v:j5)(m:cD):pQ:=match v with
 |.iface t x=>one (.aL (.iface t x)) m
 |_=>none
def vZ(x:OF):EF:=λ_ ls env m=>adq (x ls env) m
def TW:EF:=λ_ _ _ _=>none
def xD:ZR->EF
 |.store size a x=>kZ size (J6 a) (J6 x)
 |.mapSet kk m k x=>vY (xO kk) (Oj kk) (J6 m) (J6 k) (J6 x)
 |.range x=>EW (J6 x)
 |.next it=>Mg (J6 it)
 |.app es zeros zero bytes s x=>match zeros with
  |true=>Mh es zero bytes (J6 s) (J6 x)
  |false=>lu es bytes (J6 s) (J6 x)
 |.copy es d s=>IZ es (J6 d) (J6 s)
 |.clear zero x=>BJ zero (J6 x)
 |.call f args=>jZ f (jD args)
 |.callv f args=>BK (J6 f) (jD args)
 |.panic x=>vZ (J6 x)
 |.defer _ _=>TW
 |.recover=>TW
 |.bad=>TW
def Mi(f:α->Option (List β))(l:List α):Option (List β):=
 List.rec (some []) (λa _ ih=>ob (f a) λx=>ob ih λy=>some (x++y)) l
def bnd(x:Option (List α))(f:α->Option (List β)):Option (List β):=
 Option.rec none (λl=>List.rec (some []) (λa t _=>List.rec (f a) (λ_ _ _=>Mi f l) t) l) x
structure EM where
 env:T j5
 m:cD
 px:Option j5
 mks:List Mk
def iK(v:j5)(p:j5->β)(q:β):β:=match v with
 |.aL x=>p x
 |_=>q
abbrev RC:=G6->cM->T j5->cD->Option (List EM)
def dz:RC:=λ_ _ env m=>some [⟨env,m,none,[]⟩]
def xV(f:PF)(d:j5->T j5->T j5)(k:RC):RC:=λcf ls env m=>Option.rec none (λv=>k cf (v::ls) (d v env) m) (f ls env)
def K8(f:PF)(k:RC):RC:=λcf ls env m=>Option.rec none (λv=>k cf (v::ls) env m) (f ls env)
def rcR(f:RF)(d:j5->T j5->T j5)(k:RC):RC:=λcf ls env m=>Option.rec none (λv=>k cf (v::ls) (d v env) m) (f ls env m)
def cZ(f:RF)(k:RC):RC:=λcf ls env m=>Option.rec none (λv=>k cf (v::ls) env m) (f ls env m)
def Lx(m:cD)(b:Option Y9):cD:=Option.rec m (λb=>m.new b) b
def Ol(f:LF)(d:j5->T j5->T j5)(k:RC):RC:=λcf ls env m=>ob (f ls env m.nx) λr=>k cf (r.1::ls) (d r.1 env) (Lx m r.2)
def QF(f:LF)(k:RC):RC:=λcf ls env m=>Option.rec none (λr=>k cf (r.1::ls) env (Lx m r.2)) (f ls env m.nx)
def qE(f:EF)(k:RC):RC:=λcf ls env m=>bnd (f cf ls env m) λr=>iK r.v (λx=>some [⟨env,r.m,some x,[]⟩]) (k cf (r.v::ls) env r.m)
def rcE(f:EF)(d:j5->T j5->T j5)(k:RC):RC:=λcf ls env m=>bnd (f cf ls env m) λr=>iK r.v (λx=>some [⟨env,r.m,some x,[]⟩]) (k cf (r.v::ls) (d r.v env) r.m)
def Df(f:OF)(args:List OF):RC:=λ_ ls env m=>Qx (f ls env) λfn a b=>some [⟨env,m,none,[.d (.func fn a b) (evs args ls env)]⟩]
def sJ(w:Bool)(v:j5):Bool:=match v with
 |.bool b=>IJ b w
 |_=>false
def gP(x:OF)(w:Bool)(f:PF):PF:=λls env=>bi (sJ w (x ls env)) (f ls env) (some .undef)
def kJ(x:OF)(w:Bool)(f:RF):RF:=λls env m=>bi (sJ w (x ls env)) (f ls env m) (some .undef)
def gLk(x:OF)(w:Bool)(f:LF):LF:=λls env i=>bi (sJ w (x ls env)) (f ls env i) (some (.undef,none))
def gE(x:OF)(w:Bool)(f:EF):EF:=λcf ls env m=>bi (sJ w (x ls env)) (f cf ls env m) (one .undef m)
def HV(g:Option (aS×Bool))(f:PF):PF:=match g with
 |none=>f
 |some (x,w)=>gP (J6 x) w f
def Dg(g:Option (aS×Bool))(f:RF):RF:=match g with
 |none=>f
 |some (x,w)=>kJ (J6 x) w f
def TY(g:Option (aS×Bool))(f:LF):LF:=match g with
 |none=>f
 |some (x,w)=>gLk (J6 x) w f
def Om(g:Option (aS×Bool))(f:EF):EF:=match g with
 |none=>f
 |some (x,w)=>gE (J6 x) w f
def ZU(o:Db)(d:Option Nat)(g:Option (aS×Bool))(k:RC):RC:=match o with
 |.p o=>match d with
  |none=>K8 (HV g (qW o)) k
  |some j=>xV (HV g (qW o)) (fA (some j)) k
 |.r o=>match d with
  |none=>cZ (Dg g (xX o)) k
  |some j=>rcR (Dg g (xX o)) (fA (some j)) k
 |.a o=>match d with
  |none=>QF (TY g (Gr o)) k
  |some j=>Ol (TY g (Gr o)) (fA (some j)) k
 |.e o=>match d with
  |none=>qE (Om g (xD o)) k
  |some j=>rcE (Om g (xD o)) (fA (some j)) k
def sQ(i:Inst):Option (aS×List aS):=match i.op,i.guard,i.dst with
 |.e (.defer f as),none,none=>some (f,as)
 |_,_,_=>none
def Ja(i:Inst):RC:=match sQ i with
 |some p=>Df (J6 p.1) (jD p.2)
 |none=>ZU i.op i.dst i.guard dz
def jE:List Inst->RC
 |[]=>dz
 |[i]=>Ja i
 |i::j::l=>ZU i.op i.dst i.guard (jE (j::l))
def oz(f:aS->aS):POp->POp
 |.mov x=>.mov (f x)
 |.pick a b c=>.pick (f a) (f b) (f c)
 |.build z ps=>.build z (ps.map λp=>(p.1,p.2.1,f p.2.2))
 |.nilCheck x=>.nilCheck (f x)
 |.ib o x y=>.ib o (f x) (f y)
 |.eq n k x y=>.eq n k (f x) (f y)
 |.not x=>.not (f x)
 |.neg x=>.neg (f x)
 |.conv k x=>.conv k (f x)
 |.mkIface t x=>.mkIface t (f x)
 |.mkFunc g a b=>.mkFunc g (a.map f) (b.map f)
 |.slStr x a b=>.slStr (f x) (a.map f) (b.map f)
 |.slArr e n x a b=>.slArr e n (f x) (a.map f) (b.map f)
 |.fAddr o x=>.fAddr o (f x)
 |.fld o s x=>.fld o s (f x)
 |.iAddr e x i=>.iAddr e (f x) (f i)
 |.iAddrArr e n x i=>.iAddrArr e n (f x) (f i)
 |.iArr e n s x i=>.iArr e n s (f x) (f i)
 |.iStr x i=>.iStr (f x) (f i)
 |.ext x i=>.ext (f x) i
 |.len x=>.len (f x)
 |.lenS x=>.lenS (f x)
 |.cap x=>.cap (f x)
 |.mm m x xs=>.mm m (f x) (xs.map f)
 |.assert t z ok x=>.assert t z ok (f x)
def LB(f:aS->aS):TN->TN
 |.load s a=>.load s (f a)
 |.look k z o m x=>.look k z o (f m) (f x)
 |.lenM x=>.lenM (f x)
 |.bytesStr x=>.bytesStr (f x)
 |.entry x=>.entry (f x)
def QG(f:aS->aS):Yf->Yf
 |.alloc z=>.alloc z
 |.box x=>.box (f x)
 |.buildSlice e l z ps=>.buildSlice e l z (ps.map λp=>(p.1,p.2.1,f p.2.2))
 |.mkMap=>.mkMap
 |.mkSlice e b z l c=>.mkSlice e b z (f l) (f c)
 |.strBytes x=>.strBytes (f x)
 |.sl e x a b=>.sl e (f x) (a.map f) (b.map f)
def EX(f:aS->aS):ZR->ZR
 |.store s a x=>.store s (f a) (f x)
 |.mapSet k a b c=>.mapSet k (f a) (f b) (f c)
 |.range x=>.range (f x)
 |.next x=>.next (f x)
 |.app e z zs b s x=>.app e z zs b (f s) (f x)
 |.copy e d s=>.copy e (f d) (f s)
 |.clear z x=>.clear z (f x)
 |.call g a=>.call g (a.map f)
 |.callv g a=>.callv (f g) (a.map f)
 |.defer g a=>.defer (f g) (a.map f)
 |.panic x=>.panic (f x)
 |.recover=>.recover
 |.bad=>.bad
def mapA(f:aS->aS):Db->Db
 |.p o=>.p (oz f o)
 |.r o=>.r (LB f o)
 |.a o=>.a (QG f o)
 |.e o=>.e (EX f o)
def bump:aS->aS
 |.loc k=>.loc (k+1)
 |x=>x
def rn(r:List aS):aS->aS
 |.loc k=>r.getD k (.con .undef)
 |x=>x
def BL(j:Nat):List Inst->Bool
 |[]=>false
 |i::l=>i.dst==some j||BL j l
def qw(r:List aS):List Inst->List Inst
 |[]=>[]
 |i::l=>
  let keep:=⟨mapA (rn r) i.op,i.dst,i.guard.map λp=>(rn r p.1,p.2)⟩::qw (.loc 0::r.map bump) l
  match i.op,i.dst,i.guard with
  |.p (.mov x),none,none=>match rn r x with
   |.slot j=>bif BL j l then keep else qw (.slot j::r) l
   |y=>qw (y::r) l
  |_,_,_=>keep
def wh(f:j5->j5->Bool)(a:cM):cM->Bool:=
 List.rec (λb=>List.rec true (λ_ _ _=>false) b) (λx _ ih b=>List.rec false (λy ys _=>bi (f x y) (ih ys) false) b) a
def bg(n:Nat):j5->j5->Bool:=Nat.rec (λ_ _=>false) (λ_ ih x y=>match x,y with
  |.bool a,.bool b=>IJ a b
  |.int k a,.int k' b=>bi (kEq k k') (qC a b) false
  |.str a,.str b=>strEq a b
  |.nilPtr,.nilPtr=>true
  |.ptr a b,.ptr c d=>bi (beq a c) (beq b d) false
  |.nilSlice,.nilSlice=>true
  |.slice a b c d,.slice a' b' c' d'=>bi (beq a a') (bi (beq b b') (bi (beq c c') (beq d d') false) false) false
  |.sliceU a b c d,.sliceU a' b' c' d'=>bi (beq a a') (bi (beq b b') (bi (beq c c') (beq d d') false) false) false
  |.nilMap,.nilMap=>true
  |.map a,.map b=>beq a b
  |.nilFunc,.nilFunc=>true
  |.func (.func f) a b,.func (.func g) c d=>bi (beq f g) (bi (wh ih a c) (wh ih b d) false) false
  |.func (.yield f) a b,.func (.yield g) c d=>bi (beq f g) (bi (wh ih a c) (wh ih b d) false) false
  |.nilIface,.nilIface=>true
  |.iface t a,.iface u b=>bi (beq t u) (ih a b) false
  |.agg a,.agg b=>wh ih a b
  |.tuple a,.tuple b=>wh ih a b
  |.undef,.undef=>true
  |_,_=>false) n
abbrev DC:=G6->Nat->cM->T j5->cD->List cD->Option (List EM)
def stable(f:RF)(ls:cM)(env:T j5)(v:j5)(n:Nat):List cD->Bool:=
 Nat.rec (λ_=>true) (λ_ ih gs=>List.rec false (λm ms _=>bi (Option.rec false (λu=>bg 100 u v) (f ls env m)) (ih ms) false) gs) n
def tl(l:List cD):List cD:=List.rec [] (λ_ t _=>t) l
def xZ:DC:=λ_ _ _ env m _=>some [⟨env,m,none,[]⟩]
def mE(f:PF)(d:j5->T j5->T j5)(k:DC):DC:=λcf b ls env m gs=>ob (f ls env) λv=>k cf b (v::ls) (d v env) m gs
def hd(m:cD)(gs:List cD):cD:=List.rec m (λg _ _=>g) gs
def isVoid(b:Option Y9):Bool:=match b with
 |some .void=>true
 |_=>false
def iC(i:Nat)(gs:List cD):Bool:=List.rec true (λg _ ih=>bi (isVoid (g.get i)) ih false) gs
def Ua(x:Option (List α))(f:α->Option β):Option β:=
 Option.rec none (λl=>List.rec none (λa t _=>List.rec (f a) (λ_ _ _=>none) t) l) x
def yG(f:RF)(c:Nat)(d:j5->T j5->T j5)(k:DC):DC:=λcf b ls env m gs=>ob (f ls env (hd m gs)) λv=>bi (stable f ls env v c (tl gs)) (k cf b (v::ls) (d v env) m gs) none
def isCells(b:Option Y9):Bool:=match b with
 |some (.cells _ _ _)=>true
 |_=>false
def Oo(x:OF)(c:Nat)(d:j5->T j5->T j5)(k:DC):DC:=λcf b ls env m gs=>match x ls env with
 |.slice id _ _ _=>bi (isVoid ((hd m gs).get id)) (bi (isCells (m.get id)) (ob (dH x ls env m) λv=>k cf b (v::ls) (d v env) m gs) none) (yG (dH x) c d k cf b ls env m gs)
 |_=>yG (dH x) c d k cf b ls env m gs
def ahj(c:Nat)(o:TN)(d:Option Nat)(g:Option (aS×Bool))(k:DC):DC:=match o,g with
 |.bytesStr y,none=>Oo (J6 y) c (fA d) k
 |o,g=>yG (Dg g (xX o)) c (fA d) k
def Ub(m:cD)(i:Nat)(b:Option Y9):cD:=Option.rec m (λb=>m.set i b) b
def dcL(f:LF)(c:Nat)(d:j5->T j5->T j5)(k:DC):DC:=λcf b ls env m gs=>ob (f ls env (Nat.add b c)) λr=>bi (isVoid (m.get (Nat.add b c))) (bi (iC (Nat.add b c) gs) (k cf b (r.1::ls) (d r.1 env) (Ub m (Nat.add b c) r.2) gs) none) none
abbrev GF:=cM->T j5->Bool
def Mj:GF:=λ_ _=>true
def Ls:GF:=λ_ _=>false
def ghD(k:GF):GF:=λls env=>k (.undef::ls) env
def ghP(f:PF)(k:GF):GF:=λls env=>Option.rec false (λv=>k (v::ls) env) (f ls env)
def aa8(ds:List Bool):aS->Bool
 |.loc k=>ds.getD k false
 |_=>false
def Gs(ds:List Bool)(i:Inst):Bool:=(IG i.op).any (aa8 ds)||(match i.guard with
 |some p=>aa8 ds p.1
 |none=>false)
def Dh:List (Nat×Inst)->List Bool->GF
 |[],_=>Mj
 |x::l,ds=>match x.2.dst with
  |some _=>Ls
  |none=>match x.2.op with
   |.e _=>ghD (Dh l (true::ds))
   |.a _=>Ls
   |.r _=>bif Gs ds x.2 then ghD (Dh l (true::ds))else Ls
   |.p o=>bif Gs ds x.2 then ghD (Dh l (true::ds))else ghP (HV x.2.guard (qW o)) (Dh l (false::ds))
def QH:List (Nat×Inst)->List Bool->Bool
 |[],_=>true
 |x::l,ds=>match x.2.dst with
  |some _=>false
  |none=>match x.2.op with
   |.e _=>QH l (true::ds)
   |.a _=>false
   |.r _=>bif Gs ds x.2 then QH l (true::ds)else false
   |.p _=>QH l (Gs ds x.2::ds)
def adr(o:Db)(l:List (Nat×Inst)):GF:=match o with
 |.e (.call _ _)=>bif QH l [true]then Dh l [true]else Ls
 |.e (.callv _ _)=>bif QH l [true]then Dh l [true]else Ls
 |.e (.panic _)=>bif QH l [true]then Dh l [true]else Ls
 |_=>Ls
def Uc(f:EF)(gh:GF)(d:j5->T j5->T j5)(k:DC):DC:=λcf b ls env m gs=>Ua (f cf ls env m) λr=>iK r.v (λx=>bi (gh (.undef::ls) (d .undef env)) (some [⟨env,r.m,some x,[]⟩]) none) (k cf b (r.v::ls) (d r.v env) r.m (r.m::gs))
def ahl(c:Nat)(o:Db)(d:Option Nat)(g:Option (aS×Bool))(gh:GF)(k:DC):DC:=match o with
 |.p o=>mE (HV g (qW o)) (fA d) k
 |.r o=>ahj c o d g k
 |.a o=>dcL (TY g (Gr o)) c (fA d) k
 |.e o=>Uc (Om g (xD o)) gh (fA d) k
def EY:List (Nat×Inst)->DC
 |[]=>xZ
 |(c,i)::l=>ahl c i.op i.dst i.guard (adr i.op l) (EY l)
def reserve(n:Nat)(m:cD):cD:=Nat.rec (λm=>m) (λ_ ih m=>ih (m.new .void)) n m
structure Out where
 x:bQ
 env:T j5
 m:cD
 marks:List Mk
 pv:Option j5
abbrev SC:=G6->Nat->Option Nat->T j5->cD->List Mk->Option (List Out)
def uo(x:bQ)(env:T j5)(m:cD)(k:List Mk):Option (List Out):=some [⟨x,env,m,k,none⟩]
def qx:SC:=λ_ _ _ env m k=>uo .normal env m k
def oC(k:List Mk)(e:EM):Option (List Out):=
 Option.rec (uo .normal e.env e.m (dK e.mks k)) (λx=>some [⟨.ret,e.env,e.m,dK e.mks k,some x⟩]) e.px
def dB(r:RC):SC:=λcf _ _ env m k=>bnd (r cf [] env m) (oC k)
def yH(r:RC):SC:=λcf _ ir env m k=>Option.rec (bnd (r cf [] env m) (oC k)) (λ_=>none) ir
def lU:List Inst->Bool
 |[]=>false
 |i::l=>(sQ i).isSome||lU l
def rF(n:Nat)(r:DC):SC:=λcf _ _ env m k=>bnd (r cf m.nx [] env (reserve n m) [reserve n m]) (oC k)
def dX(a b:SC):SC:=λcf fuel ir env m k=>bnd (a cf fuel ir env m k) λo=>bQ.rec (b cf fuel ir o.env o.m o.marks) (λ_=>some [o]) (some [o]) o.x
def wm(c:OF)(a b:SC):SC:=λcf fuel ir env m k=>rE (c [] env) λt=>bi t (a cf fuel ir env m k) (b cf fuel ir env m k)
def qF(id:Nat)(a:SC):SC:=λcf fuel ir env m k=>bnd (a cf fuel ir env m k) λo=>bQ.rec (some [o]) (λid'=>bi (beq id id') (uo .normal o.env o.m o.marks) (some [o])) (some [o]) o.x
def I9(body:T j5->cD->List Mk->Option (List Out))(n:Nat):T j5->cD->List Mk->Option (List Out):=
 Nat.rec (λ_ _ _=>none) (λ_ ih env m k=>bnd (body env m k) λo=>bQ.rec (ih o.env o.m o.marks) (λ_=>some [o]) (some [o]) o.x) n
def yI(a:SC):SC:=λcf fuel ir env m k=>I9 (λenv m k=>a cf fuel ir env m k) fuel env m k
def BM(id:Nat):SC:=λ_ _ _ env m k=>uo (.exit id) env m k
def rG:SC:=λ_ _ _ env m k=>uo .ret env m k
def sS(b:Option Y9)(f:LoopState->Option bQ->T j5->List (Option Nat)->bM->bM->Option β):Option β:=match b with
 |some (.loop st pend env params assign body)=>f st pend env params assign body
 |_=>none
def aa9(cf:G6)(m:cD)(args:cM)(v:j5):pQ:=Qx v λfn a b=>match fn with
 |.func f=>cf (.func f) (dK a (dK args b)) m
 |_=>none
def Ud(cf:G6)(f:j5)(params:List (Option Nat))(assign body:bM)(env:T j5)(m:cD)(k:List Mk):Option (List Out):=
 bnd (aa9 cf (m.new (.loop .ready none env params assign body)) [.func (.yield m.nx) [] []] f) λr=>iK r.v (λ_=>none) <|
  sS (r.m.get m.nx) λst pend _ _ _ _=>match st with
   |.busy=>none
   |_=>match pend with
    |none=>uo .normal env (r.m.set m.nx .dead) k
    |some x=>uo x env (r.m.set m.nx .dead) k
def Ai(f:OF)(params:List (Option Nat))(assign body:bM):SC:=λcf _ ir env m k=>
 Option.rec (Ud cf (f [] env) params assign body env (m.new .deferred) (.c m.nx::k))
  (λl=>sS (m.get l) λ_ _ _ _ _ _=>Ud cf (f [] env) params assign body env m k) ir
def yJ:bM->SC
 |.skip=>qx
 |.reg cz=>bif lU cz then yH (jE cz)else dB (jE (qw [] cz))
 |.dreg n cz=>rF n (EY cz)
 |.seq a b=>dX (yJ a) (yJ b)
 |.cond c a b=>wm (J6 c) (yJ a) (yJ b)
 |.block id a=>qF id (yJ a)
 |.loop a=>yI (yJ a)
 |.exit id=>BM id
 |.ret=>rG
 |.rangeFunc f params assign body=>Ai (J6 f) params assign body
def gZ(js:List (Option Nat)):cM->T j5->Option (T j5):=
 List.rec (λvs env=>List.rec (some env) (λ_ _ _=>none) vs) (λj _ ih vs env=>List.rec none (λv vs _=>ih vs (fA j v env)) vs) js
def results(rs:List rC)(env:T j5)(m:cD):Option cM:=
 List.rec (some []) (λr _ ih=>ob (match r with
  |.tmp j=>T.get env j
  |.cell j size=>ob (T.get env j) λp=>pO p λid off=>aY (m.get id) λrs n cF=>match size with
   |none=>cell1 rs n cF off
   |some k=>ob (qp rs n cF off k) λl=>some (.agg l)) λv=>ob ih λl=>some (v::l)) rs
def result(l:cM):j5:=List.rec (.tuple l) (λv t _=>List.rec v (λ_ _ _=>.tuple l) t) l
def aac(b:Option Y9)(k:Option β):Option β:=match b with
 |some .deferred=>k
 |_=>none
abbrev ni:=FuncId->cM->Option j5->cD->Option (List (cD×Option j5))
def aad(dcf:ni)(v:j5)(args:cM)(md:Option j5)(m:cD):Option (List (cD×Option j5)):=Qx v λfn a b=>match fn with
 |.func f=>dcf f (dK a (dK args b)) md m
 |_=>none
def Jb(dcf:ni)(fin:Option j5->cD->pQ):List Mk->Option j5->cD->pQ:=
 List.rec (λmd m=>fin md m) (λx _ ih md m=>match x with
  |.c id=>aac (m.get id) (ih md (m.set id .dead))
  |.d v args=>bnd (aad dcf v args md m) λr=>ih r.2 r.1)
def BN(rs:List rC)(env:T j5)(md:Option j5)(m:cD):pQ:=
 Option.rec (ob (results rs env m) λl=>one (result l) m) (λx=>one (.aL x) m) md
def leave(dcf:ni)(rs:List rC)(o:Out):pQ:=bQ.rec (Jb dcf (BN rs o.env) o.marks none o.m) (λ_=>none) (Jb dcf (BN rs o.env) o.marks o.pv o.m) o.x
def roundEnd(l:Nat)(o:Out):pQ:=match o.marks,o.pv with
 |_ :: _,_=>none
 |_,some _=>none
 |[],none=>sS (o.m.get l) λst pend env params assign body=>match st,pend with
  |.busy,none=>match o.x with
   |.normal=>one (.bool true) (o.m.set l (.loop .ready none env params assign body))
   |x=>one (.bool false) (o.m.set l (.loop .done (some x) env params assign body))
  |_,_=>none
mutual
def LC(lo:Nat):j5->cR
 |.ptr i _|.slice i _ _ _|.sliceU i _ _ _|.map i=>bi (ble lo i) [i] []
 |.func _ a b=>sK lo a++sK lo b
 |.iface _ v=>LC lo v
 |.agg l=>sK lo l
 |.tuple l=>sK lo l
 |_=>[]
def sK(lo:Nat):cM->cR
 |[]=>[]
 |v::l=>LC lo v++sK lo l
end
inductive NB where
 |cells (rs:Nat) (cF:List cM)
 |map (es:List (j5×j5))
 |tail (p:Nat)
 |dead
 deriving Inhabited
def Bc(b:Y9):Option NB:=match b with
 |.cells rs n cF=>ob (cF.slice n 0) λl=>some (.cells rs l)
 |.map es=>some (.map es)
 |.tail p=>some (.tail p)
 |.dead=>some .dead
 |_=>none
def QI(lo:Nat):List cM->cR
 |[]=>[]
 |l::ls=>sK lo l++QI lo ls
def aae(lo:Nat):List (j5×j5)->cR
 |[]=>[]
 |e::es=>LC lo e.1++(LC lo e.2++aae lo es)
def QJ(lo:Nat):NB->cR
 |.cells _ cF=>QI lo cF
 |.map es=>aae lo es
 |.tail p=>bi (ble lo p) [p] []
 |.dead=>[]
def Ml(n:Nat)(l:List (Nat×NB)):Bool:=List.rec false (λx _ ih=>bi (beq x.1 n) true ih) l
def reach(m:cD)(lo n:Nat):cR->List (Nat×NB)->Option (List (Nat×NB)):=
 Nat.rec (λ_ _=>none) (λ_ ih work seen=>List.rec (some seen.reverse) (λw ws _=>
  bi (Ml w seen) (ih ws seen) (ob (m.get w) λb=>ob (Bc b) λnb=>ih (QJ lo nb++ws) ((w,nb)::seen))) work) n
def placeOf(i:Nat)(l:cR):Nat->Option Nat:=List.rec (λ_=>none) (λx _ ih k=>bi (beq x i) (some k) (ih (Nat.succ k))) l
mutual
def iT(r:Nat->Option Nat):j5->Option j5
 |.ptr i o=>ob (r i) λj=>some (.ptr j o)
 |.slice i o l c=>ob (r i) λj=>some (.slice j o l c)
 |.sliceU i o l c=>ob (r i) λj=>some (.sliceU j o l c)
 |.map i=>ob (r i) λj=>some (.map j)
 |.func fn a b=>match fn with
  |.yield _=>none
  |fn=>ob (pR r a) λx=>ob (pR r b) λy=>some (.func fn x y)
 |.iface t v=>ob (iT r v) λx=>some (.iface t x)
 |.agg l=>ob (pR r l) λx=>some (.agg x)
 |.tuple l=>ob (pR r l) λx=>some (.tuple x)
 |.aL _=>none
 |v=>some v
def pR(r:Nat->Option Nat):cM->Option cM
 |[]=>some []
 |v::l=>ob (iT r v) λx=>ob (pR r l) λy=>some (x::y)
end
def nY(r:Nat->Option Nat):List cM->Option (List cM)
 |[]=>some []
 |l::ls=>ob (pR r l) λx=>ob (nY r ls) λy=>some (x::y)
def HY(r:Nat->Option Nat):List (j5×j5)->Option (List (j5×j5))
 |[]=>some []
 |e::es=>ob (iT r e.1) λx=>ob (iT r e.2) λy=>ob (HY r es) λz=>some ((x,y)::z)
def sM(r:Nat->Option Nat):NB->Option NB
 |.cells rs cF=>ob (nY r cF) λx=>some (.cells rs x)
 |.map es=>ob (HY r es) λx=>some (.map x)
 |.tail p=>ob (r p) λq=>some (.tail q)
 |.dead=>some .dead
def xE(r:Nat->Option Nat):List NB->Option (List NB)
 |[]=>some []
 |p::l=>ob (sM r p) λx=>ob (xE r l) λy=>some (x::y)
structure CO where
 ids:cR
 vs:cM
 bs:List NB
def uq(lo:Nat)(ids:cR)(i:Nat):Option Nat:=bi (ble lo i) (placeOf i ids lo) (some i)
def kK(lo:Nat)(vs:cM)(m:cD):Option CO:=
 ob (reach m lo 100000 (sK lo vs) []) λseen=>ob (pR (uq lo (seen.map (·.1))) vs) λxs=>ob (xE (uq lo (seen.map (·.1))) (seen.map (·.2))) λbs=>some ⟨seen.map (·.1),xs,bs⟩
def fB:NB->Y9
 |.cells rs cF=>.cells rs (len' cF) (T.ofList cF)
 |.map es=>.map es
 |.tail p=>.tail p
 |.dead=>.dead
def layAll(bs:List NB):cD->cD:=List.rec (λm=>m) (λb _ ih m=>ih (m.new (fB b))) bs
def EZ:List cM->List cM->Bool
 |[],[]=>true
 |a::x,b::y=>bi (wh (bg 100) a b) (EZ x y) false
 |_,_=>false
def Mq:List (j5×j5)->List (j5×j5)->Bool
 |[],[]=>true
 |a::x,b::y=>bi (bg 100 a.1 b.1) (bi (bg 100 a.2 b.2) (Mq x y) false) false
 |_,_=>false
def bX:NB->NB->Bool
 |.cells r a,.cells s b=>bi (beq r s) (EZ a b) false
 |.map a,.map b=>Mq a b
 |.tail p,.tail q=>beq p q
 |.dead,.dead=>true
 |_,_=>false
def oD:List NB->List NB->Bool
 |[],[]=>true
 |a::x,b::y=>bi (bX a b) (oD x y) false
 |_,_=>false
structure EK where
 v:j5
 bs:List NB
def Bh(lo:Nat)(r:VM):Option EK:=ob (kK lo [r.v] r.m) λc=>List.rec none (λv _ _=>some ⟨v,c.bs⟩) c.vs
def Oq(lo:Nat)(l:List VM):Option EK:=
 List.rec none (λr rs ih=>ob (Bh lo r) λa=>List.rec (some a) (λ_ _ _=>ob ih λb=>bi (bg 100 a.v b.v) (bi (oD a.bs b.bs) (some a) none) none) rs) l
structure L6 where
 pure:Bool
 args:List (Option Nat)
 nslots:Nat
 results:List rC
 code:SC
 rcode:Option bM
structure Known where
 fns:FuncId->Option L6
 base:cD
 sum:FuncId->cM->List NB->Option EK
def dD(cf:G6)(dcf:ni)(fuel:Nat)(f:L6)(args:cM)(m:cD):pQ:=
 ob (gZ f.args args (T.rep .undef f.nslots .e 0)) λenv=>bnd (f.code cf fuel none env m []) (leave dcf f.results)
structure Ue where
 o:Out
 md:Option j5
def isRec(i:Inst):Bool:=match i.op,i.guard with
 |.e .recover,none=>true
 |_,_=>false
def Jc:List Inst->Bool
 |[]=>false
 |i::l=>isRec i||Jc l
def yK:List Inst->G6->cM->T j5->cD->Option j5->Option (List (EM×Option j5))
 |[],_,_,env,m,md=>some [(⟨env,m,none,[]⟩,md)]
 |i::l,cf,ls,env,m,md=>match isRec i with
  |true=>match md with
   |some x=>yK l cf (x::ls) (fA i.dst x env) m none
   |none=>yK l cf (.nilIface::ls) (fA i.dst .nilIface env) m none
  |false=>match i.op with
   |.p o=>ob (HV i.guard (qW o) ls env) λv=>yK l cf (v::ls) (fA i.dst v env) m md
   |.r o=>ob (Dg i.guard (xX o) ls env m) λv=>yK l cf (v::ls) (fA i.dst v env) m md
   |_=>none
def Bj:bM->G6->Nat->T j5->cD->Option j5->Option (List Ue)
 |.seq a b,cf,fuel,env,m,md=>bnd (Bj a cf fuel env m md) λr=>match r.o.x with
  |.normal=>match r.o.marks with
   |[]=>Bj b cf fuel r.o.env r.o.m r.md
   |_=>none
  |_=>some [r]
 |.cond c a b,cf,fuel,env,m,md=>rE (J6 c [] env) λt=>bi t (Bj a cf fuel env m md) (Bj b cf fuel env m md)
 |.reg cz,cf,fuel,env,m,md=>match Jc cz with
  |true=>bnd (yK cz cf [] env m md) λr=>some [⟨⟨.normal,r.1.env,r.1.m,[],none⟩,r.2⟩]
  |false=>bnd (yJ (.reg cz) cf fuel none env m []) λo=>some [⟨o,md⟩]
 |c,cf,fuel,env,m,md=>bnd (yJ c cf fuel none env m []) λo=>some [⟨o,md⟩]
def Uf(rs:List rC)(r:Ue):Option (List (cD×Option j5)):=match r.o.x,r.o.marks,r.o.pv with
 |.exit _,_,_=>none
 |_,[],none=>ob (results rs r.o.env r.o.m) λ_=>some [(r.o.m,r.md)]
 |_,_,_=>none
def ads(cf:G6)(fuel:Nat)(f:L6)(args:cM)(md:Option j5)(m:cD):Option (List (cD×Option j5)):=
 ob f.rcode λc=>ob (gZ f.args args (T.rep .undef f.nslots .e 0)) λenv=>bnd (Bj c cf fuel env m md) (Uf f.results)
def cD.shut(m:cD):cD:=⟨m.t,m.nx,m.nx⟩
def Di(K:Known)(cf:G6)(fuel:Nat):ni:=λf args md m=>ob (K.fns f) λsf=>ads cf fuel sf args md m
def Gt(K:Known)(cf:G6)(fuel:Nat)(f:FuncId)(sf:L6)(args:cM)(bs:List NB):Option EK:=
 Option.rec (ob (dD cf (Di K cf fuel) fuel sf args (layAll bs K.base).shut) λl=>Oq (layAll bs K.base).nx l) (λa=>some a) (K.sum f args bs)
def iU(g:Nat)(ids:cR)(next i:Nat):Option Nat:=
 bi (blt i g) (some i) (bi (blt (Nat.sub i g) (len' ids)) (vU (Nat.sub i g) ids) (some (Nat.add next (Nat.sub (Nat.sub i g) (len' ids)))))
def yL(K:Known)(cf:G6)(fuel:Nat)(f:FuncId)(sf:L6)(args:cM)(m:cD):pQ:=
 ob (kK K.base.nx args m) λc=>ob (Gt K cf fuel f sf c.vs c.bs) λa=>ob (iT (iU K.base.nx c.ids m.nx) a.v) λv=>ob (xE (iU K.base.nx c.ids m.nx) a.bs) λbs=>one v (layAll bs m)
def Ot(cf:G6)(fuel l:Nat)(args:cM)(m:cD):pQ:=
 bi (blt l m.lim) none (sS (m.get l) λst pend env params assign body=>match st,pend with
  |.ready,none=>ob (gZ params args env) λenv1=>bnd (yJ assign cf fuel (some l) env1 m []) λo=>match o.x,o.marks with
   |.normal,[]=>sS (o.m.get l) λst2 pend2 env2 params2 assign2 body2=>match st2,pend2 with
    |.ready,none=>bnd (yJ body cf fuel (some l) o.env (o.m.set l (.loop .busy none env2 params2 assign2 body2)) []) (roundEnd l)
    |_,_=>none
   |_,_=>none
  |_,_=>none)
def l9(K:Known)(fuel n:Nat):G6:=
 Nat.rec (λ_ _ _=>none) (λ_ ih fn args m=>match fn with
  |.func f=>ob (K.fns f) λsf=>bi sf.pure (yL K ih fuel f sf args m) (dD ih (Di K ih fuel) fuel sf args m)
  |.yield l=>Ot ih fuel l args m
  |_=>none) n
mutual
def ofValue:Value->Option j5
 |.bool b=>some (.bool b)
 |.int k n=>some (.int k n)
 |.string s=>some (.str s.data.toList)
 |.pointer none=>some .nilPtr
 |.slice none 0 0=>some .nilSlice
 |.map none=>some .nilMap
 |.func (.func f) ⟨[]⟩ ⟨[]⟩=>some (.func (.func f) [] [])
 |.nilFunc=>some .nilFunc
 |.nilIface=>some .nilIface
 |.agg ⟨l⟩=>match ofValues l with
  |some x=>some (.agg x)
  |none=>none
 |.tuple ⟨[]⟩=>some (.tuple [])
 |_=>none
def ofValues:List Value->Option cM
 |[]=>some []
 |v::l=>match ofValue v,ofValues l with
  |some x,some y=>some (x::y)
  |_,_=>none
end
section
variable (P:cH)
def gV(t:cI):Option Nat:=(P.info? t).map (·.size)
def lG(t:cI):Option Nat:=(P.info? t).map (·.bytes)
def Bd(t:cI):Option Bool:=match P.underlying t with
 |some (.struct _)|some (.array _ _)=>some true
 |some _=>some false
 |none=>none
def partT(t:cI):Option (Option Nat):=match Bd P t,gV P t with
 |some true,some n=>some (some n)
 |some false,some _=>some none
 |_,_=>none
def uT(t:cI):Option cM:=match (P.info? t).bind (·.zero)with
 |some z=>match ofValue z with
  |some a=>some a.cells
  |none=>none
 |none=>none
def zeroV(t:cI):Option j5:=match (P.info? t).bind (·.zero)with
 |some z=>ofValue z
 |none=>none
def rH(f:cI->Option (List PK)):List Field->Nat->Option (List PK)
 |[],_=>some []
 | fd::l,off=>if fd.name≠ "_"∧fd.offset=off then match f fd.type with
   |some ks=>match rH f l (off+ks.length)with
    |some r=>some (ks++r)
    |none=>none
   |none=>none
  else none
def jl:Nat->cI->Option (List PK)
 |0,_=>none
 |d+1,t=>match P.underlying t with
  |some .bool=>if gV P t=some 1 then some [.b]else none
  |some (.int _)=>if gV P t=some 1 then some [.i]else none
  |some .string=>if gV P t=some 1 then some [.s]else none
  |some (.struct fs)=>match rH (jl d) fs.toList 0 with
   |some ks=>if P.stoodInHeld t=false∧gV P t=some ks.length then some ks else none
   |none=>none
  |_=>none
def eqT(cst:Bool)(t:cI):Option Ig:=match P.underlying t with
 |some .bool=>some (.prim .b)
 |some (.int _)=>some (.prim .i)
 |some .string=>some (.prim .s)
 |some (.struct _)=>match jl P 10 t with
  |some k=>if P.eqGuardType P.depth t=false then some (.flat k)else none
  |none=>none
 |some (.pointer _)=>some .ptr
 |some (.slice _)=>some .slice
 |some (.map _ _)=>some .map
 |some (.func ..)=>some .func
 |some (.interface _)=>if cst then some .iface else none
 |_=>none
def adt(t:cI):Option Ig:=match P.underlying t with
 |some (.array n e)=>match P.underlying e with
  |some (.int _)=>if gV P e=some 1∧P.eqGuardType P.depth t=false then some (.flat (List.replicate n .i))else none
  |_=>none
 |_=>none
def aag(cst:Bool)(t:cI):Option Ig:=match eqT P cst t with
 |some k=>some k
 |none=>adt P t
def QK(t:cI):Option cM:=match uT P t,gV P t with
 |some z,some k=>if z.length=k then some z else none
 |_,_=>none
def Dj(t:cI):Option Ig:=match eqT P false t with
 |some (.prim j)=>some (.prim j)
 |some (.flat ks)=>some (.flat ks)
 |_=>none
end
def idxOf(t:Nat):cR->Nat->Option Nat
 |[],_=>none
 |x::l,i=>bif beq x t then some i else idxOf t l (i+1)
def lC(t:Nat):List (Option Nat)->Nat->Option Nat
 |[],_=>none
 |some x::l,i=>bif beq x t then some i else lC t l (i+1)
 |none::l,i=>lC t l (i+1)
section
variable (P:cH)(cr:cR)(done:List (Option Nat))
def aD:Operand->Option aS
 |.tmp t=>match lC t done 0 with
  |some k=>some (.loc k)
  |none=>match idxOf t cr 0 with
   |some j=>some (.slot j)
   |none=>none
 |.const v=>match ofValue v with
  |some a=>some (.con a)
  |none=>none
 |.global g=>if g<P.globals.size then some (.con (.ptr g 0))else none
 |.func f=>some (.con (.func (.func f) [] []))
def mF:List Operand->Option (List aS)
 |[]=>some []
 |x::l=>match aD P cr done x,mF l with
  |some a,some b=>some (a::b)
  |_,_=>none
def cOpt:Option Operand->Option (Option aS)
 |none=>some none
 |some x=>match aD P cr done x with
  |some a=>some (some a)
  |none=>none
def Bn:Operand->Bool
 |.const _=>true
 |_=>false
def yM(place:Nat->Option (Nat×Nat)):List (Nat×Operand)->Option (List (Nat×Nat×aS))
 |[]=>some []
 |p::l=>match place p.1,aD P cr done p.2,yM place l with
  |some (o,s),some x,some r=>some ((o,s,x)::r)
  |_,_,_=>none
def placesOf:List Field->Option (List (Nat×Nat))
 |[]=>some []
 |f::l=>match gV P f.type,placesOf l with
  |some s,some r=>some ((f.offset,s)::r)
  |_,_=>none
def BO(t:cI)(parts:List (Nat×Operand)):Option Db:=
 match uT P t,P.underlying t with
 |some zero,some (.struct fields)=>match placesOf P fields.toList with
  |some pl=>match yM P cr done (λi=>pl[i]?) parts with
   |some ps=>some (.p (.build zero ps))
   |none=>none
  |none=>none
 |some zero,some (.array _ elem)=>match gV P elem with
  |some s=>match yM P cr done (λi=>some (i*s,s)) parts with
   |some ps=>some (.p (.build zero ps))
   |none=>none
  |none=>none
 |_,_=>none
def yN(b:Builtin)(ts:List cI)(args:List Operand):Option Db:=do
 match b,ts,args with
 |.len,[t],[x]=>match ← P.underlying t with
  |.string=>do pure (.p (.lenS (← aD P cr done x)))
  |.slice _=>do pure (.p (.len (← aD P cr done x)))
  |.array n _=>pure (.p (.mov (.con (.int .i64 n))))
  |.map _ _=>do pure (.r (.lenM (← aD P cr done x)))
  |_=>none
 |.cap,[t],[x]=>match ← P.underlying t with
  |.slice _=>do pure (.p (.cap (← aD P cr done x)))
  |_=>none
 |.append,[t,u],[s,x]=>match ← P.underlying t with
  |.slice e=>do
   let d ← P.underlying u
   let zs:=match d with|.int _=>true|_=>false
   pure (.e (.app (← gV P e) zs (← QK P e) (← lG P e) (← aD P cr done s) (← aD P cr done x)))
  |_=>none
 |.copy,[t,_],[d,s]=>match ← P.underlying t with
  |.slice e=>do pure (.e (.copy (← gV P e) (← aD P cr done d) (← aD P cr done s)))
  |_=>none
 |.clear,[t],[x]=>match ← P.underlying t with
  |.slice e=>do pure (.e (.clear (← uT P e) (← aD P cr done x)))
  |_=>none
 |.max,_,x::xs=>do pure (.p (.mm true (← aD P cr done x) (← mF P cr done xs)))
 |.min,_,x::xs=>do pure (.p (.mm false (← aD P cr done x) (← mF P cr done xs)))
 |.recover,[],[]=>pure (.e .recover)
 |_,_,_=>none
def jT(o:Op):Option Db:=do
 let r:=aD P cr done
 match o with
 |.move x|.assign x=>pure (.p (.mov (← r x)))
 |.pick c a b=>pure (.p (.pick (← r c) (← r a) (← r b)))
 |.alloc t=>pure (.a (.alloc (← uT P t)))
 |.box _ x=>pure (.a (.box (← r x)))
 |.build t parts=>BO P cr done t parts.toList
 |.buildSlice t len parts=>match ← P.underlying t with
  |.slice e=>do
   let es ← gV P e
   let ps ← yM P cr done (λi=>some (i*es,es)) parts.toList
   if len*es<=16777216 then pure (.a (.buildSlice es len (← uT P e) ps))else none
  |_=>none
 |.load t a=>pure (.r (.load (← partT P t) (← r a)))
 |.store t a x=>pure (.e (.store (← gV P t) (← r a) (← r x)))
 |.nilCheck x=>pure (.p (.nilCheck (← r x)))
 |.binOp op t x y _=>match op with
  |.eql|.neq=>do
   let k ← aag P (Bn x||Bn y) t
   let neg:=match op with|.neq=>true|_=>false
   match k with
   |.prim .i=>pure (.p (.ib op (← r x) (← r y)))
   |.prim .s=>pure (.p (.ib op (← r x) (← r y)))
   |k=>pure (.p (.eq neg k (← r x) (← r y)))
  |_=>pure (.p (.ib op (← r x) (← r y)))
 |.unOp op _ x=>match op with
  |.not=>do pure (.p (.not (← r x)))
  |.neg=>do pure (.p (.neg (← r x)))
  |_=>none
 |.convert s d x=>match ← P.underlying s,← P.underlying d with
  |.int _,.int k=>do pure (.p (.conv k (← r x)))
  |.string,.slice e=>match ← P.underlying e with
   |.int .u8=>do pure (.a (.strBytes (← r x)))
   |_=>none
  |.slice e,.string=>match ← P.underlying e with
   |.int .u8=>do pure (.r (.bytesStr (← r x)))
   |_=>none
  |_,_=>none
 |.makeInterface t x=>match ← P.underlying t with
  |.interface _=>none
  |_=>do pure (.p (.mkIface t (← r x)))
 |.makeFunc fn a b=>match fn with
  |.func f=>do pure (.p (.mkFunc (.func f) (← mF P cr done a.toList) (← mF P cr done b.toList)))
  |_=>none
 |.makeMap t res=>match res with
  |none=>pure (.a .mkMap)
  |some (.const (.int _ _))=>match P.underlying t with
   |some (.map _ _)=>pure (.a .mkMap)
   |_=>none
  |_=>none
 |.makeSlice t l c=>match ← P.underlying t with
  |.slice e=>do pure (.a (.mkSlice (← gV P e) (← lG P e) (← QK P e) (← r l) (← r c)))
  |_=>none
 |.slice t x lo hi none=>match ← P.underlying t with
  |.string=>do pure (.p (.slStr (← r x) (← cOpt P cr done lo) (← cOpt P cr done hi)))
  |.slice e=>do pure (.a (.sl (← gV P e) (← r x) (← cOpt P cr done lo) (← cOpt P cr done hi)))
  |.array n e=>do pure (.p (.slArr (← gV P e) n (← r x) (← cOpt P cr done lo) (← cOpt P cr done hi)))
  |_=>none
 |.fieldAddr s x f=>match ← P.underlying s with
  |.struct fs=>do
   let fd ← fs[f]?
   let sz ← gV P fd.type
   if sz=0 then none else pure (.p (.fAddr fd.offset (← r x)))
  |_=>none
 |.field s x f=>match ← P.underlying s with
  |.struct fs=>do
   let fd ← fs[f]?
   pure (.p (.fld fd.offset (← partT P fd.type) (← r x)))
  |_=>none
 |.indexAddr t x i=>match ← P.underlying t with
  |.slice e=>do pure (.p (.iAddr (← gV P e) (← r x) (← r i)))
  |.array n e=>do pure (.p (.iAddrArr (← gV P e) n (← r x) (← r i)))
  |_=>none
 |.index t x i=>match ← P.underlying t with
  |.string=>do pure (.p (.iStr (← r x) (← r i)))
  |.array n e=>do pure (.p (.iArr (← gV P e) n (← partT P e) (← r x) (← r i)))
  |_=>none
 |.lookup t x k ok=>match ← P.underlying t with
  |.map kt e=>do pure (.r (.look (← Dj P kt) (← zeroV P e) ok (← r x) (← r k)))
  |_=>none
 |.mapUpdate t m k x|.insert t m k x=>match ← P.underlying t with
  |.map kt _=>do pure (.e (.mapSet (← Dj P kt) (← r m) (← r k) (← r x)))
  |_=>none
 |.range t x=>match ← P.underlying t with
  |.map _ _=>do pure (.e (.range (← r x)))
  |_=>none
 |.next it false=>pure (.e (.next (← r it)))
 |.entry it=>pure (.r (.entry (← r it)))
 |.extract x i=>pure (.p (.ext (← r x) i))
 |.typeAssert x _ t ok=>match ← P.underlying t with
  |.interface _=>none
  |_=>do pure (.p (.assert t (← zeroV P t) ok (← r x)))
 |.panic x=>pure (.e (.panic (← r x)))
 |.defer c=>match c.callee with
  |.value f=>do pure (.e (.defer (← r f) (← mF P cr done c.args.toList)))
  |_=>none
 |.call c=>match c.callee with
  |.builtin b=>yN P cr done b c.argTypes.toList c.args.toList
  |.value (.func f)=>do
   let fn ← P.funcs[f]?
   if fn.body.isSome&&fn.name != "runtime.NumGoroutine" then pure (.e (.call f (← mF P cr done c.args.toList))) else none
  |.value f=>do pure (.e (.callv (← r f) (← mF P cr done c.args.toList)))
  |_=>none
 |_=>none
def QL:Option Tmp->Option Nat
 |none=>none
 |some t=>idxOf t cr 0
def rJ(o:Op):Db:=match jT P cr done o with
 |some a=>a
 |none=>.e .bad
def QM(cz:Array Oper)(i:Nat):Option (Inst×Option Nat):=do
 let o ← cz[i]?
 let a:=rJ P cr done o.op
 let g ← match o.guard with
  |none=>pure none
  |some (j,w)=>do
   let og ← cz[j]?
   let d ← og.dst
   let k ← lC d done 0
   pure (some (aS.loc k,w))
 pure (⟨a,QL cr o.dst,g⟩,o.dst)
end
def nk(P:cH)(cr:cR)(cz:Array Oper):List (Option Nat)->cR->Option (List Inst)
 |_,[]=>some []
 |done,i::rest=>match QM P cr done cz i with
  |some (x,d)=>match nk P cr cz (d::done) rest with
   |some l=>some (x::l)
   |none=>none
  |none=>none
def bitsOf(e:Array Edge)(acc:cR):Nat:=
 e.toList.foldl (λs x=>if Region.binds .any x then s ||| (1 <<< x.on) ||| (acc.getD x.on 0)else s) 0
def masks(cz:List Oper):cR:=cz.foldl (λacc o=>acc++[bitsOf o.after acc]) []
def mOf(ms:cR)(i j:Nat):Bool:=Nat.testBit (ms.getD i 0) j
def akm:Op->Bool
 |.store ..|.mapUpdate ..|.insert ..|.range ..|.next ..|.mapEntry ..|.entryStore ..|.panic _|.defer _|.typeAssert ..=>true
 |.call {callee:=.builtin b,..}=>match b with
  |.append|.copy|.clear|.delete=>true
  |_=>false
 |.call _=>true
 |_=>false
def Jd(cz:Array Oper)(i:Nat):Bool:=
 match cz[i]? with
 |some o=>akm o.op
 |none=>false
def canon(eff:Nat->Bool)(ms:cR)(n:Nat):cR:=
 let effs:=(List.range n).filter eff
 let step (acc:cR) (e:Nat):cR:=acc++(List.range n).filter (λi=>!acc.contains i&&mOf ms e i)++[e]
 let acc:=effs.foldl (λacc e=>if acc.contains e then acc else step acc e) []
 acc++(List.range n).filter (λi=>!acc.contains i)
def K9(x:Inst):Bool:=match x.op with
 |.e _=>true
 |_=>false
def isA(x:Inst):Bool:=match x.op with
 |.a _=>true
 |_=>false
def isR(x:Inst):Bool:=match x.op with
 |.r _=>true
 |_=>false
def ahm(ms:cR)(i:Nat)(x:Inst)(effs:cR)(nal:Nat):Nat:=
 if isR x then(effs.takeWhile λe=>!mOf ms i e).length else nal
def numbered(ms:cR):List (Nat×Inst)->cR->Nat->List (Nat×Inst)
 |[],_,_=>[]
 |(i,x)::rest,effs,nal=>(ahm ms i x effs nal,x)::numbered ms rest (if K9 x then i::effs else effs) (if isA x then nal+1 else nal)
def BP(cz:Array Oper)(o:Oper):cR:=
 (o.op.operands.toList.filterMap fun|.tmp t=>some t|_=>none) ++
 (match o.guard with
  |some (g,_)=>((cz[g]?).bind (·.dst)).toList
  |none=>[])
def QN:cR->Bool
 |[]=>true
 |x::l=>!l.contains x&&QN l
def Ou:List Inst->Nat
 |[]=>0
 |x::l=>(if isA x then 1 else 0)+Ou l
def WK(ms:cR)(i:Nat)(before:List (Nat×Inst)):aS->Bool
 |.loc k=>match before[k]? with
  |some y=>mOf ms i y.1
  |none=>false
 |.slot j=>before.all λy=>y.2.dst != some j
 |.con _=>true
def yO(ms:cR)(cz:Array Oper)(i:Nat)(x:Inst)(before:List (Nat×Inst)):Bool:=
 (match x.op with
  |.e _=>before.all λy=>mOf ms i y.1
  |_=>true) &&
 (match cz[i]? with
  |some o=>(o.after.toList.all λe=>!Region.binds .any e||before.any λy=>y.1==e.on) &&
   ((BP cz o).all λt=>(List.range cz.size).all λq=>q==i||(match cz[q]? with
    |some oq=>oq.dst != some t
    |none=>true)||mOf ms i q||mOf ms q i)
  |none=>false) &&
 ((IG x.op).all λy=>WK ms i before y) &&
 (match x.guard with
  |some (y,_)=>WK ms i before y
  |none=>true)
def Aj(ms:cR)(cz:Array Oper):List (Nat×Inst)->List (Nat×Inst)->Bool
 |[],_=>true
 |y::rest,before=>yO ms cz y.1 y.2 before&&Aj ms cz rest (y::before)
def aah(ms:cR)(cz:Array Oper)(ord:cR)(insts:List Inst):Bool:=
 QN ord&&(ord.all λi=>blt i cz.size)&&((List.range cz.size).all λi=>ord.contains i)&&QN (cz.toList.filterMap (·.dst))&&Aj ms cz (ord.zip insts) []
def Gu(P:cH)(cr:cR)(cz:Array Oper):Option bM:=
 match nk P cr cz [] (canon (Jd cz) (masks cz.toList) cz.size)with
 |none=>none
 |some insts=>
  if aah (masks cz.toList) cz (canon (Jd cz) (masks cz.toList) cz.size) insts then
   some (.dreg (Ou insts) (numbered (masks cz.toList) ((canon (Jd cz) (masks cz.toList) cz.size).zip insts) [] 0))
  else none
def aT(P:cH)(cr:cR):Code->Option bM
 |.skip=>some .skip
 |.region _ cz false=>match nk P cr cz [] (List.range cz.size)with
  |some l=>some (.reg l)
  |none=>none
 |.region _ cz true=>Gu P cr cz
 |.seq a b=>match aT P cr a,aT P cr b with
  |some x,some y=>some (.seq x y)
  |_,_=>none
 |.cond c a b=>match aD P cr [] c,aT P cr a,aT P cr b with
  |some z,some x,some y=>some (.cond z x y)
  |_,_,_=>none
 |.block id a=>match aT P cr a with
  |some x=>some (.block id x)
  |none=>none
 |.loop a=>match aT P cr a with
  |some x=>some (.loop x)
  |none=>none
 |.exit id=>some (.exit id)
 |.ret=>some .ret
 |.rangeFunc f ps a b=>match aD P cr [] f,aT P cr a,aT P cr b with
  |some z,some x,some y=>some (.rangeFunc z (ps.toList.map λt=>idxOf t cr 0) x y)
  |_,_,_=>none
 |_=>none
def tmpsIn(nt:Nat):Code->Bool
 |.region _ cz _=>cz.toList.all λo=>match o.dst with
  |some t=>blt t nt
  |none=>true
 |.seq a b=>tmpsIn nt a&&tmpsIn nt b
 |.cond _ a b=>tmpsIn nt a&&tmpsIn nt b
 |.block _ a=>tmpsIn nt a
 |.loop a=>tmpsIn nt a
 |.rangeFunc _ _ a b=>tmpsIn nt a&&tmpsIn nt b
 |_=>true
def HZ(P:cH)(cr:cR):List ResultVar->Option (List rC)
 |[]=>some []
 |.tmp t::l=>match idxOf t cr 0,HZ P cr l with
  |some j,some r=>some (.tmp j::r)
  |_,_=>none
 |.cell t ty::l=>match idxOf t cr 0,partT P ty,HZ P cr l with
  |some j,some s,some r=>some (.cell j s::r)
  |_,_,_=>none
def ZV(P:cH)(cr:cR)(f:FuncId):Option AFn:=
 match P.funcs[f]? with
 |none=>none
 |some fn=>match fn.body with
  |none=>none
  |some c=>match aT P cr c,HZ P cr fn.results.toList with
   |some b,some r=>
    if tmpsIn fn.ntmps c&&(cr.all λt=>blt t fn.ntmps)&&blt cr.length 1152921504606846976&&fn.name != "runtime.NumGoroutine" then
     some ⟨fn.params.size+fn.nfree,(List.range (fn.params.size+fn.nfree)).map λt=>idxOf t cr 0,cr.length,r,b⟩
    else none
   |_,_=>none
section
variable {α β γ:Type}
@[simp] theorem I6(a:α)(k:α->Option β):ob (some a) k=k a:=rfl
@[simp] theorem as8(k:α->Option β):ob none k=none:=rfl
def D7{o:Option α}{k:α->Option β}{b:β}(h:ob o k=some b):∃a,o=some a∧k a=some b:=by
 cases o with
 |none=>simp at h
 |some a=>exact⟨a,rfl,h⟩
@[simp] theorem aC(x y:α):bi true x y=x:=rfl
@[simp] theorem bA(x y:α):bi false x y=y:=rfl
def K4{b:Bool}{x:Option α}{a:α}(h:bi b x none=some a):b=true∧x=some a:=by
 cases b with
 |true=>exact⟨rfl,h⟩
 |false=>simp at h
def Dk{b:Bool}{x:Option α}{a:α}(h:bi b none x=some a):b=false∧x=some a:=by
 cases b with
 |true=>simp at h
 |false=>exact⟨rfl,h⟩
end
namespace T
variable {α:Type}
@[simp] theorem avZ(i:Nat):(T.e:T α).get i=none:=rfl
@[simp] theorem akn(l:T α)(x:α)(r:T α):(T.nd l x r).get 0=some x:=rfl
def iD(l:T α)(x:α)(r:T α)(i:Nat):(T.nd l x r).get (i+1)=if i%2=0 then l.get (i / 2)else r.get (i / 2):=by show(Nat.rec (l.get (Nat.div i 2)) (λ_ _=>r.get (Nat.div i 2)) (Nat.mod i 2):Option α)=_;have h:Nat.mod i 2=i%2:=rfl;rcases adp i with h0|h1;rw[h,h0];rfl;rw[h,h1];rfl
@[simp] theorem ako(i:Nat)(x:α):(T.e:T α).put i x=.nd .e x .e:=rfl
@[simp] theorem QO(l:T α)(y:α)(r:T α)(x:α):(T.nd l y r).put 0 x=.nd l x r:=rfl
def cK(l:T α)(y:α)(r:T α)(i:Nat)(x:α):(T.nd l y r).put (i+1) x=if i%2=0 then .nd (l.put (i / 2) x) y r else .nd l y (r.put (i / 2) x):=by show(Nat.rec (T.nd (l.put (Nat.div i 2) x) y r) (λ_ _=>T.nd l y (r.put (Nat.div i 2) x)) (Nat.mod i 2):T α)=_;have h:Nat.mod i 2=i%2:=rfl;rcases adp i with h0|h1;rw[h,h0];rfl;rw[h,h1];rfl
inductive Ok:T α->Nat->Prop
 |e:Ok .e 0
 |nd {l r:T α} {x:α} {n:Nat} (hl:Ok l ((n+1) / 2)) (hr:Ok r (n / 2)):Ok (.nd l x r) (n+1)
def Ok.get{t:T α}{n:Nat}(h:Ok t n):∀i,(∃x,t.get i=some x)↔i<n:=by
 induction h with
 |e=>intro i;simp
 |@nd l r x n hl hr ihl ihr=>
  intro i;cases i with
  |zero=>simp
  |succ i=>rw[iD];split;rw[ihl];omega;rw[ihr];omega
def Ok.put{t:T α}{n:Nat}(h:Ok t n):∀i (x:α),i<n->Ok (t.put i x) n:=by
 induction h with
 |e=>intro i x a;omega
 |@nd l r y n hl hr ihl ihr=>
  intro i x a;cases i with
  |zero=>exact .nd hl hr
  |succ i=>rw[cK];split;exact .nd (ihl _ _ Zs) hr;exact .nd hl (ihr _ _ Zs)
def Ok.push{t:T α}{n:Nat}(h:Ok t n):∀(x:α),Ok (t.put n x) (n+1):=by
 induction h with
 |e=>intro x;exact .nd .e .e
 |@nd l r y n hl hr ihl ihr=>intro x;rw[cK];split;rename_i a;refine .nd ?_ ?_;have:=ihl x;rw[show(n+1) / 2=n / 2 from by omega]at this;rw[show(n+1+1) / 2=n / 2+1 from by omega];exact this;rw[show(n+1) / 2=n / 2 from by omega];exact hr;rename_i a;refine .nd ?_ ?_;rw[show(n+1+1) / 2=(n+1) / 2 from by omega];exact hl;have:=ihr x;rw[show(n+1) / 2=n / 2+1 from by omega];exact this
def aN{t:T α}{n:Nat}(h:Ok t n):∀i (x:α),i<=n->(t.put i x).get i=some x:=by
 induction h with
 |e=>intro i x b;obtain rfl:i=0:=Zs
     rfl
 |@nd l r y n hl hr ihl ihr=>
  intro i x b;cases i with
  |zero=>rfl
  |succ i=>rw[cK];split;rename_i a;rw[iD,cg a];exact ihl _ _ Zs;rename_i a;rw[iD,aE a];exact ihr _ _ Zs
def bU{t:T α}{n:Nat}(h:Ok t n):∀i j (x:α),i<=n->i≠j->(t.put i x).get j=t.get j:=by
 induction h with
 |e=>
  intro i j x b d;obtain rfl:i=0:=Zs
  cases j with
  |zero=>omega
  |succ j=>rw[ako,iD];simp
 |@nd l r y n hl hr ihl ihr=>
  intro i j x b c;cases i with
  |zero=>
   cases j with
   |zero=>omega
   |succ j=>rw[QO,iD,iD]
  |succ i=>
   rw[cK];cases j with
   |zero=>split<;>rfl
   |succ j=>split;rename_i a;rw[iD,iD];split;exact ihl _ _ _ Zs Zs;rfl;rename_i a;rw[iD,iD];split;rfl;exact ihr _ _ _ Zs Zs
def xG(x:α)(l:List α)(t:T α)(i:Nat):rD (x::l) t i=rD l (t.put i x) (i+1):=rfl
def LD(l:List α):∀(t:T α) (i:Nat),Ok t i->Ok (rD l t i) (i+l.length):=by
 induction l with
 |nil=>intro t i h;exact h
 |cons x l ih=>intro t i h;rw[xG,aa5,show i+(l.length+1)=i+1+l.length from by omega];exact ih _ _ (h.push x)
def Je(l:List α):∀(t:T α) (i:Nat),Ok t i->∀j,(rD l t i).get j=if j<i then t.get j else l[j-i]?:=by
 induction l with
 |nil=>
  intro t i h j;show t.get j=_;split;rfl;rename_i a;cases hg:t.get j with
  |none=>simp
  |some x=>exact cj ((h.get j).1 ⟨x,hg⟩) a
 |cons x l ih=>intro t i h j;rw[xG,ih _ _ (h.push x)];by_cases h1:j<i;rw[cg Zs,cg h1,bU h _ _ _ (aA _) Zs];by_cases h2:j=i;subst h2;rw[cg Zs,aN h _ _ (aA _)];simp;rw[aE Zs,aE h1,show j-i=(j-(i+1))+1 from by omega];simp
def bV(l:List α)(j:Nat):(ofList l).get j=l[j]?:=by have:=Je l .e 0 .e j;simpa[ofList]using this
def kL(l:List α):Ok (ofList l) l.length:=by have:=LD l .e 0 .e;simpa[ofList]using this
def Jf(x:α)(n:Nat)(t:T α)(i:Nat):rep x (n+1) t i=rep x n (t.put i x) (i+1):=rfl
def Ov(x:α)(n:Nat):∀(t:T α) (i:Nat),Ok t i->Ok (rep x n t i) (i+n):=by
 induction n with
 |zero=>intro t i h;exact h
 |succ n ih=>intro t i h;rw[Jf,show i+(n+1)=i+1+n from by omega];exact ih _ _ (h.push x)
def Ow(x:α)(n:Nat):∀(t:T α) (i:Nat),Ok t i->∀j,(rep x n t i).get j=if j<i then t.get j else if j<i+n then some x else none:=by
 induction n with
 |zero=>
  intro t i h j;show t.get j=_;split;rfl;rename_i a;rw[aE Zs];cases hg:t.get j with
  |none=>rfl
  |some y=>exact cj ((h.get j).1 ⟨y,hg⟩) a
 |succ n ih=>intro t i h j;rw[Jf,ih _ _ (h.push x)];by_cases h1:j<i;rw[cg Zs,cg h1,bU h _ _ _ (aA _) Zs];by_cases h2:j=i;subst h2;rw[cg Zs,aN h _ _ (aA _),aE h1,cg Zs];rw[aE Zs,aE h1];by_cases h3:j<i+1+n;rw[cg h3,cg Zs];rw[aE h3,aE Zs]
def Jg(t:T α)(i:Nat):t.slice 0 i=some []:=rfl
def BQ(t:T α)(n i:Nat):t.slice (n+1) i=ob (t.get i) λx=>ob (t.slice n (i+1)) λxs=>some (x::xs):=rfl
def Ug(t:T α)(n:Nat):∀i l,t.slice n i=some l->l.length=n∧∀j,j<n->t.get (i+j)=l[j]?:=by
 induction n with
 |zero=>intro i l h;rw[Jg]at h;cases h;simp
 |succ n ih=>
  intro i l h;rw[BQ]at h;let⟨x,d,h⟩:=D7 h;let⟨f,a,h⟩:=D7 h;cases h;let⟨c,b⟩:=ih _ _ a;refine⟨by simp[c],λj e=>?_⟩;cases j with
  |zero=>simpa using d
  |succ j=>rw[show i+(j+1)=i+1+j from by omega,b j Zs];simp
end T
section
variable {α:Type}
@[simp] theorem K7(l:List α):len' l=l.length:=by
 induction l with
 |nil=>rfl
 |cons x l ih=>show Nat.succ (len' l)=_;rw[ih];rfl
@[simp] theorem V9(l m:List α):dK l m=l++m:=by
 induction l with
 |nil=>rfl
 |cons x l ih=>show x::dK l m=_;rw[ih];rfl
@[simp] theorem fC(n:Nat):∀l:List α,iA n l=l.drop n:=by
 induction n with
 |zero=>intro l;rfl
 |succ n ih=>
  intro l;cases l with
  |nil=>rfl
  |cons x l=>exact ih l
@[simp] theorem nu(n:Nat):∀l:List α,vU n l=l[n]?:=by
 induction n with
 |zero=>intro l;cases l<;>rfl
 |succ n ih=>
  intro l;cases l with
  |nil=>rfl
  |cons x l=>show vU n l=_;rw[ih];rfl
@[simp] theorem aai(n:Nat):∀l:cM,nth n l=l[n]?.getD .undef:=by
 induction n with
 |zero=>intro l;cases l<;>rfl
 |succ n ih=>
  intro l;cases l with
  |nil=>rfl
  |cons x l=>show nth n l=_;rw[ih];rfl
def oF(n:Nat):∀(l r:List α),takeN n l=some r->r=l.take n∧n<=l.length:=by
 induction n with
 |zero=>intro l r h;cases h;simp
 |succ n ih=>
  intro l r h;cases l with
  |nil=>cases h
  |cons x l=>
   change ob (takeN n l) (λr=>some (x::r))=some r at h
   let⟨d,b,h⟩:=D7 h;cases h;let⟨a,c⟩:=ih _ _ b;exact⟨by simp[a],ZD⟩
def iL(n:Nat):∀(l:List α),n<=l.length->takeN n l=some (l.take n):=by
 induction n with
 |zero=>intro l _;rfl
 |succ n ih=>
  intro l h;cases l with
  |nil=>simp at h
  |cons x l=>
   change ob (takeN n l) (λr=>some (x::r))=_
   rw[ih l (by simpa using h)];rfl
def pU(n:Nat)(vs:List α):∀(l:List α),n<=l.length->pK n vs l=l.take n++(vs++l.drop (n+vs.length)):=by
 induction n with
 |zero=>intro l _;show dK vs (iA (len' vs) l)=_;simp
 |succ n ih=>
  intro l h;cases l with
  |nil=>simp at h
  |cons x l=>show x::pK n vs l=_;rw[ih l (by simpa using h),show n+1+vs.length=(n+vs.length)+1 from by omega];simp
def Dl(n:Nat)(vs l:List α)(h:n+vs.length<=l.length):(pK n vs l).length=l.length:=by rw[pU n vs l Zs];simp;omega
def Yj(n:Nat)(vs l:List α)(h:n+vs.length<=l.length)(j:Nat):
   (pK n vs l)[j]?=if n<=j∧j<n+vs.length then vs[j-n]? else l[j]?:=by
 rw[pU n vs l Zs];rw[aw1];simp only[ajv,show min n l.length=n from by omega];split;rw[aE Zs,ahO,cg Zs];rw[aw1];split;rw[cg Zs];rw[aE Zs,akv];congr 1;omega
end
structure Loc where
 b:Nat
 base:Nat
 cap:Nat
 spot:Option Nat
abbrev Q0:=Nat->Loc
def Q0.at(ι:Q0)(i o:Nat):Addr:=⟨(ι i).b,(ι i).base+o,if o=0 then(ι i).spot else none⟩
def Q0.Dm{ι:Q0}{i:Nat}(h:(ι i).spot=none)(o:Nat):ι.at i o=⟨(ι i).b,(ι i).base+o,none⟩:=by simp[Q0.at,h]
def lV(ι:Q0):Fn->Fn
 |.yield l=>.yield (ι l).b
 |f=>f
mutual
def u7(ι:Q0):j5->Value
 |.undef=>.tuple #[]
 |.bool b=>.bool b
 |.int k n=>.int k n
 |.str s=>.string ⟨s.toArray⟩
 |.nilPtr=>.pointer none
 |.ptr i o=>.pointer (some (ι.at i o))
 |.nilSlice=>.slice none 0 0
 |.slice i o l c=>.slice (some (ι.at i o)) l c
 |.sliceU i o l es=>.slice (some (ι.at i o)) l (((ι i).cap-o) / es)
 |.nilMap=>.map none
 |.map i=>.map (some (ι i).b)
 |.nilFunc=>.nilFunc
 |.func fn a b=>.func (lV ι fn) (A9 ι a).toArray (A9 ι b).toArray
 |.nilIface=>.nilIface
 |.iface t v=>.iface t (u7 ι v)
 |.agg l=>.agg (A9 ι l).toArray
 |.tuple l=>.tuple (A9 ι l).toArray
 |.aL v=>.tuple #[u7 ι v]
def A9(ι:Q0):cM->List Value
 |[]=>[]
 |v::l=>u7 ι v::A9 ι l
end
structure Nm where
 has:Nat->Prop
 cap:Nat->Nat
instance:CoeFun Nm (λ_=>Nat->Prop):=⟨Nm.has⟩
def Nm.le(n m:Nm):Prop:=∀i,n i->m i∧m.cap i=n.cap i
def Nm.le_refl(n:Nm):n.le n:=λ_ h=>⟨h,rfl⟩
def Nm.le_trans{a b c:Nm}(h:a.le b)(k:b.le c):a.le c:=λi d=>⟨(k i (h i d).1).1,(k i (h i d).1).2.trans (h i d).2⟩
def adu(n:Nm):Fn->Prop
 |.yield l=>n l
 |_=>True
mutual
def j5.lt(n:Nm):j5->Prop
 |.ptr i _=>n i
 |.slice i _ _ _=>n i
 |.sliceU i o l es=>n i∧1<=es∧o+l*es<=n.cap i
 |.map i=>n i
 |.func fn a b=>adu n fn∧fD n a∧fD n b
 |.iface _ v=>v.lt n
 |.agg l=>fD n l
 |.tuple l=>fD n l
 |.aL _=>False
 |_=>True
def fD(n:Nm):cM->Prop
 |[]=>True
 |v::l=>v.lt n∧fD n l
end
def fF(ι:Q0)(l:cM):A9 ι l=l.map (u7 ι):=by
 induction l with
 |nil=>simp[A9]
 |cons v l ih=>simp[A9,ih]
def gK{n:Nm}{l:cM}:fD n l↔∀v∈l,v.lt n:=by
 induction l with
 |nil=>simp[fD]
 |cons v l ih=>simp[fD,ih]
@[simp] theorem dN(ι:Q0)(l:cM):(A9 ι l).length=l.length:=by simp[fF]
def eU(ι:Q0)(l:cM)(i:Nat):(A9 ι l)[i]?=l[i]?.map (u7 ι):=by simp[fF]
mutual
def aZ{n:Nm}{ι ι':Q0}(h:∀i,n i->ι' i=ι i):∀v:j5,v.lt n->u7 ι' v=u7 ι v
 |.undef,_|.bool _,_|.int _ _,_|.str _,_|.nilPtr,_|.nilSlice,_|.nilMap,_|.nilFunc,_|.nilIface,_=>by simp[u7]
 |.ptr i o,hv=>by simp only[j5.lt]at hv;simp[u7,Q0.at,h i hv]
 |.slice i o l c,hv=>by simp only[j5.lt]at hv;simp[u7,Q0.at,h i hv]
 |.sliceU i o l c,hv=>by simp only[j5.lt]at hv;simp[u7,Q0.at,h i hv.1]
 |.map i,hv=>by simp only[j5.lt]at hv;simp[u7,h i hv]
 |.func fn a b,hv=>by
  simp only[j5.lt]at hv;let⟨hf,ha,hb⟩:=hv;have e:lV ι' fn=lV ι fn:=by cases fn<;>simp_all[lV,adu]
  simp[u7,e,jg h a ha,jg h b hb]
 |.iface t v,hv=>by simp only[j5.lt]at hv;simp[u7,aZ h v hv]
 |.agg l,hv=>by simp only[j5.lt]at hv;simp[u7,jg h l hv]
 |.tuple l,hv=>by simp only[j5.lt]at hv;simp[u7,jg h l hv]
 |.aL v,hv=>by simp only[j5.lt]at hv
def jg{n:Nm}{ι ι':Q0}(h:∀i,n i->ι' i=ι i):∀l:cM,fD n l->A9 ι' l=A9 ι l
 |[],_=>by simp[A9]
 |v::l,hl=>by simp only[fD]at hl;simp[A9,aZ h v hl.1,jg h l hl.2]
end
mutual
def j5.aU{n m:Nm}(h:n.le m):∀v:j5,v.lt n->v.lt m
 |.undef,_|.bool _,_|.int _ _,_|.str _,_|.nilPtr,_|.nilSlice,_|.nilMap,_|.nilFunc,_|.nilIface,_=>by simp[j5.lt]
 |.ptr i o,hv=>by simp only[j5.lt]at *;exact(h _ hv).1
 |.slice i o l c,hv=>by simp only[j5.lt]at *;exact(h _ hv).1
 |.sliceU i o l c,hv=>by simp only[j5.lt]at *;exact⟨(h _ hv.1).1,hv.2.1,by rw[(h _ hv.1).2];exact hv.2.2⟩
 |.map i,hv=>by simp only[j5.lt]at *;exact(h _ hv).1
 |.func fn a b,hv=>by simp only[j5.lt]at *;exact⟨by cases fn<;>first|trivial|exact(h _ hv.1).1,iW h a hv.2.1,iW h b hv.2.2⟩
 |.iface t v,hv=>by simp only[j5.lt]at *;exact j5.aU h v hv
 |.agg l,hv=>by simp only[j5.lt]at *;exact iW h l hv
 |.tuple l,hv=>by simp only[j5.lt]at *;exact iW h l hv
 |.aL v,hv=>by simp only[j5.lt]at hv
def iW{n m:Nm}(h:n.le m):∀l:cM,fD n l->fD m l
 |[],_=>by simp[fD]
 |v::l,hl=>by simp only[fD]at *;exact⟨j5.aU h v hl.1,iW h l hl.2⟩
end
def rM(ι:Q0)(v:j5):(u7 ι v).cells=(A9 ι v.cells).toArray:=by cases v<;>simp[u7,Value.cells,j5.cells,A9]
def Dn{n:Nm}{v:j5}(h:v.lt n):fD n v.cells:=by cases v<;>simp_all[j5.lt,j5.cells,fD]
mutual
def qG(ι:Q0):∀(v:Value) (a:j5),ofValue v=some a->u7 ι a=v∧∀n,a.lt n
 |.bool b,a,h=>by simp only[ofValue,iE]at h;subst h;simp[u7,j5.lt]
 |.int k n,a,h=>by simp only[ofValue,iE]at h;subst h;simp[u7,j5.lt]
 |.string s,a,h=>by simp only[ofValue,iE]at h;subst h;simp[u7,j5.lt]
 |.pointer none,a,h=>by simp only[ofValue,iE]at h;subst h;simp[u7,j5.lt]
 |.pointer (some _),a,h=>by simp[ofValue]at h
 |.slice none 0 0,a,h=>by simp only[ofValue,iE]at h;subst h;simp[u7,j5.lt]
 |.slice (some _) _ _,a,h=>by simp[ofValue]at h
 |.slice none (_+1) _,a,h=>by simp[ofValue]at h
 |.slice none 0 (_+1),a,h=>by simp[ofValue]at h
 |.map none,a,h=>by simp only[ofValue,iE]at h;subst h;simp[u7,j5.lt]
 |.map (some _),a,h=>by simp[ofValue]at h
 |.nilFunc,a,h=>by simp only[ofValue,iE]at h;subst h;simp[u7,j5.lt]
 |.nilIface,a,h=>by simp only[ofValue,iE]at h;subst h;simp[u7,j5.lt]
 |.func (.func f) ⟨[]⟩ ⟨[]⟩,a,h=>by simp only[ofValue,iE]at h;subst h;simp[u7,j5.lt,lV,A9,adu,fD]
 |.func (.func f) ⟨_ :: _⟩ _,a,h=>by simp[ofValue]at h
 |.func (.func f) ⟨[]⟩ ⟨_ :: _⟩,a,h=>by simp[ofValue]at h
 |.func (.method _) _ _,a,h=>by simp[ofValue]at h
 |.func (.methodOf _ _) _ _,a,h=>by simp[ofValue]at h
 |.func (.via _ _ _ _) _ _,a,h=>by simp[ofValue]at h
 |.func (.yield _) _ _,a,h=>by simp[ofValue]at h
 |.agg ⟨l⟩,a,h=>by
  simp only[ofValue]at h;cases hx:ofValues l with
  |none=>simp[hx]at h
  |some x=>simp only[hx,iE]at h;subst h;let⟨h1,h2⟩:=yP ι l x hx;simp[u7,j5.lt,h1];exact h2
 |.tuple ⟨[]⟩,a,h=>by simp only[ofValue,iE]at h;subst h;simp[u7,j5.lt,A9,fD]
 |.tuple ⟨_ :: _⟩,a,h=>by simp[ofValue]at h
 |.float _ _,a,h=>by simp[ofValue]at h
 |.complex _ _ _,a,h=>by simp[ofValue]at h
 |.chan _,a,h=>by simp[ofValue]at h
 |.iface _ _,a,h=>by simp[ofValue]at h
def yP(ι:Q0):∀(l:List Value) (x:cM),ofValues l=some x->A9 ι x=l∧∀n,fD n x
 |[],x,h=>by simp only[ofValues,iE]at h;subst h;simp[A9,fD]
 |v::l,x,h=>by
  simp only[ofValues]at h;cases hv:ofValue v with
  |none=>simp[hv]at h
  |some a=>
   cases hl:ofValues l with
   |none=>simp[hv,hl]at h
   |some y=>simp only[hv,hl,iE]at h;subst h;let⟨h1,h2⟩:=qG ι v a hv;let⟨h3,h4⟩:=yP ι l y hl;simp[A9,fD,h1,h3];exact λn=>⟨h2 n,h4 n⟩
end
def ahn:∀(n j:Nat) (t:T j5),j+1<2^n->way n j t=(t.get j).getD .undef:=by
 intro n;induction n with
 |zero=>intro j t h;simp at h
 |succ n ih=>
  intro j t h;cases j with
  |zero=>cases t<;>rfl
  |succ j=>
   have a:j / 2+1<2^n:=by rw[ata]at h;omega
   rcases adp j with h0|h0;simp only[way,h0];cases t with
   |e=>rfl
   |nd l x r=>rw[T.iD,cg h0];exact ih _ l a
   simp only[way,h0];cases t with
   |e=>rfl
   |nd l x r=>rw[T.iD,aE Zs];exact ih _ r a
def adv(v:j5):∀(n j:Nat) (t:T j5) (x:j5),j+1<2^n->t.get j=some x->fM n j v t=t.put j v:=by
 intro n;induction n with
 |zero=>intro j t x h;simp at h
 |succ n ih=>
  intro j t x h a;cases t with
  |e=>simp at a
  |nd l y r=>
   cases j with
   |zero=>rfl
   |succ j=>have b:j / 2+1<2^n:=(by rw[ata]at h;omega);rw[T.iD]at a;rcases adp j with h0|h0;rw[cg h0]at a;simp only[fM,h0];rw[T.cK,cg h0];show T.nd (fM n (j / 2) v l) y r=_;rw[ih _ l x b a];rw[aE Zs]at a;simp only[fM,h0];rw[T.cK,aE Zs];show T.nd l y (fM n (j / 2) v r)=_;rw[ih _ r x b a]
def yQ{t:Nat}{l:cR}{i j:Nat}(h:idxOf t l i=some j):i<=j∧j<i+l.length∧l[j-i]?=some t:=by
 induction l generalizing i with
 |nil=>simp[idxOf]at h
 |cons x l ih=>
  simp only[idxOf]at h;cases hx:beq x t with
  |true=>simp only[hx,cond_true,iE]at h;subst h;have:=nA hx;simp[this]
  |false=>simp only[hx,cond_false]at h;let⟨b,c,a⟩:=ih h;refine⟨Zs,ZD,?_⟩;rw[show j-i=(j-(i+1))+1 from by omega];simpa using a
def Yk{t u:Nat}{l:cR}{i j:Nat}(h:idxOf t l i=some j)(h':idxOf u l i=some j):t=u:=by have a:=(yQ h).2.2;have b:=(yQ h').2.2;rw[a]at b;exact rW b
structure dI(ι:Q0)(n:Nm)(cr:cR)(env:T j5)(tmps:Array Value):Prop where
 ok:T.Ok env cr.length
 small:cr.length<2^60
 val:∀t j,idxOf t cr 0=some j->t<tmps.size∧∃v,env.get j=some v∧v.lt n∧tmps.getD t undef=u7 ι v
variable {ι':Q0}{tmps:Array Value}
def dI.mono{ι:Q0}{n c:Nm}{a:cR}{env:T j5}(h:dI ι n a env tmps)
   (hi:∀i,n i->ι' i=ι i) (hn:n.le c):dI ι' c a env tmps:=
 ⟨h.ok,h.small,λt j g=>by
  let⟨d,v,e,b,f⟩:=h.val t j g;exact⟨d,v,e,v.aU hn b,by rw[f,aZ hi v b]⟩⟩
def dY(a:Array Value)(i j:Nat)(v:Value)(hi:i<a.size):
   (a.setIfInBounds i v).getD j undef=if i=j then v else a.getD j undef:=by
 rw[O6,O6];by_cases h:i=j;subst h;rw[cg rfl,P8 hi];rfl;rw[aE h,P5 h]
def dI.put{ι:Q0}{n:Nm}{a:cR}{env:T j5}(h:dI ι n a env tmps)(d:Option Tmp){v:j5}(w:v.lt n):
   dI ι n a (fA (QL a d) v env) (match d with|some t=>tmps.setIfInBounds t (u7 ι v)|none=>tmps):=by
 cases d with
 |none=>exact h
 |some t=>
  simp only[QL];cases ht:idxOf t a 0 with
  |none=>
   refine⟨h.ok,h.small,λu j b=>?_⟩;let⟨f,l,g,s,m⟩:=h.val u j b;refine⟨by simpa using f,l,g,s,?_⟩;have i:t≠u:=λe=>by subst e;rw[ht]at b;cases b
   by_cases hts:t<tmps.size;rw[dY _ _ _ _ hts,aE i];exact m;rw[show tmps.setIfInBounds t (u7 ι v)=tmps from awW (avV hts)];exact m
  |some k=>
   let⟨f,x,g,_,_⟩:=h.val t k ht;have y:=(yQ ht).2.1
   have c:fA (some k) v env=env.put k v:=adv v 64 k env x (by have:=h.small;have:(2:Nat)^60<2^64:=ZS
                                                              omega) g
   rw[c];refine⟨h.ok.put _ _ Zs,h.small,λu j b=>?_⟩;let⟨o,l,p,q,r⟩:=h.val u j b;refine⟨by simpa using o,?_⟩;rw[dY _ _ _ _ f];by_cases he:t=u;subst he;rw[ht]at b;cases b;exact⟨v,T.aN h.ok _ _ Zs,w,ZZ⟩;refine⟨l,?_,q,by rw[aE he];exact r⟩;rw[T.bU h.ok _ _ _ Zs (λe=>he (by subst e;exact Yk ht b))];exact p
def bN:Y9->Bool
 |.cells ..|.map _|.iter ..|.loop ..|.deferred=>true
 |_=>false
def exitCode:bQ->Code
 |.normal=>.skip
 |.exit id=>.exit id
 |.ret=>.ret
section
variable (P:cH)
structure BR(ι:Q0)(n:Nm)(L:Loop)(st:LoopState)(pend:Option bQ)(env:T j5)(params:List (Option Nat))(assign body:bM):Prop where
 state:L.state=st
 pending:L.pending=pend.map exitCode
 code:∃cr,dI ι n cr env L.tmps∧params=L.params.toList.map (λt=>idxOf t cr 0)∧aT P cr L.assign=some assign∧aT P cr L.body=some body∧
  ∃nt,nt<=L.tmps.size∧tmpsIn nt L.assign=true∧tmpsIn nt L.body=true
def L8(ι:Q0):List (j5×j5)->Nat->List MapEntry
 |[],_=>[]
 |e::es,i=>{key:=u7 ι e.1,val:=u7 ι e.2,born:=i}::L8 ι es (i+1)
def iF(ι:Q0)(n:Nm)(h:Array Obj)(l:Loc):Y9->Prop
 |.void=>True
 |.dead=>True
 |.cells rs k cF=>∃c e fz,h[l.b]?=some (.cells c e fz)∧l.base+l.cap<=c.size∧(k*rs<=l.cap∧∃N,k<=N∧T.Ok cF N)∧
  ∀i,i<k->∃row,cF.get i=some row∧row.length=rs∧fD n row∧∀j,j<rs->c[l.base+(i*rs+j)]?=(row[j]?).map (u7 ι)
 |.map es=>h[l.b]?=some (.map (L8 ι es 0).toArray es.length)∧∀e∈es,e.1.lt n∧e.2.lt n
 |.iter mp since seen=>l.base=0∧(∀x,mp=some x->n x)∧∃sn st,h[l.b]?=some (.mapIter (mp.map λx=>(ι x).b) since sn st)∧sn.toList.reverse=seen∧(mp≠none->st=since)
 |.tail p=>n p∧(l.cap=0∨(l.b=(ι p).b∧l.base+l.cap<=(ι p).base+(ι p).cap∧((ι p).spot=none->l.spot=none)))
 |.loop st pend env params assign body=>∃L,h[l.b]?=some (.loop L)∧BR P ι n L st pend env params assign body
 |.deferred=>h[l.b]?=some (.deferred (some []))
structure atf(ι:Q0)(m:cD)(h:Array Obj)(i:Nat):Prop where
 alone:∀j b,j≠i->m.get j=some b->bN b=true->(ι j).b≠(ι i).b
 free:∀c e fz,h[(ι i).b]?=some (.cells c e fz)->∀k,k<c.size->¬ (fz.1<=k∧k<fz.2)
def jU:Y9->Bool
 |.void=>true
 |_=>false
def cD.has(m:cD)(i:Nat):Prop:=∃b,m.get i=some b∧jU b=false
def cD.nm(m:cD)(ι:Q0):Nm:=⟨m.has,λi=>(ι i).cap⟩
def cD.dL{m b:cD}{ι:Q0}(h:∀i,m.has i->b.has i)(hi:∀i,m.has i->ι' i=ι i):(m.nm ι).le (b.nm ι'):=
 λi a=>⟨h i a,ci Loc.cap (hi i a)⟩
def GSz(P:cH)(G:cD)(h:Array Obj):Prop:=∀i rs k cF,i<P.globals.size->G.get i=some (.cells rs k cF)->∃c e fz,h[i]?=some (.cells c e fz)∧c.size=k*rs
structure RM(G:cD)(ι:Q0)(m:cD)(h:Array Obj):Prop where
 ok:T.Ok m.t m.nx
 blk:∀i b,m.get i=some b->iF P ι (m.nm ι) h (ι i) b
 own:∀i b,m.lim<=i->m.get i=some b->bN b=true->atf ι m h i
 glim:G.nx<=m.lim
 limn:m.lim<=m.nx
 gle:P.globals.size<=G.nx
 base:∀i,i<G.nx->m.get i=G.get i
 ghas:∀i,i<P.globals.size->m.has i
 glob:∀i,i<P.globals.size->(ι i).b=i∧(ι i).base=0∧(ι i).spot=none
 spot:∀i b,m.get i=some b->bN b=true->(ι i).spot=none
 gsz:GSz P G h
end
def QS(ι:Q0)(m:cD)(b:Nat):Prop:=∃i x,m.lim<=i∧m.get i=some x∧bN x=true∧(ι i).b=b
variable {h:Array Obj}
def RM.QT{P:cH}{G:cD}{ι:Q0}{m:cD}{h':Array Obj}(d:RM P G ι m h)(u:∀b,b<h.size->¬ QS ι m b->h'[b]?=h[b]?):GSz P G h':=by
 intro i r k a g q;let⟨c,e,s,p,t⟩:=d.gsz i r k a g q;have l:i<h.size:=(vo.1 p).1;have f:i<G.nx:=aP g d.gle;have n:m.get i=some (.cells r k a):=(d.base i f).trans q;refine⟨c,e,s,?_,t⟩;rw[u i l];exact p;rintro⟨j,x,hj,hx,hlx,hb⟩;have o:i≠j:=by have:=d.glim;omega
 exact(d.own j x hj hx hlx).alone i _ o n rfl (by rw[(d.glob i g).1,hb])
structure Step(P:cH)(G:cD)(ι:Q0)(m:cD)(w:cG)(ι':Q0)(m':cD)(w':cG):Prop where
 rm:RM P G ι' m' w'.heap
 ext:∀i,m.has i->ι' i=ι i
 has:∀i,m.has i->m'.has i
 nx:m.nx<=m'.nx
 lim:m'.lim=m.lim
 old:∀i,i<m.lim->m'.get i=m.get i
 size:w.heap.size<=w'.heap.size
 frame:∀b,b<w.heap.size->¬ QS ι m b->w'.heap[b]?=w.heap[b]?
 own:∀b,QS ι' m' b->QS ι m b∨w.heap.size<=b
 os:w'.os=w.os
 out:w'.output=w.output
 tape:w'.tape=w.tape
def Step.refl{P:cH}{G:cD}{ι:Q0}{m:cD}{w:cG}(h:RM P G ι m w.heap):Step P G ι m w ι m w:=
 ⟨h,λ_ _=>rfl,λ_ h=>h,aA _,rfl,λ_ _=>rfl,aA _,λ_ _ _=>rfl,λ_ h=>.inl h,rfl,rfl,rfl⟩
def Step.drew{P:cH}{G:cD}{ι:Q0}{m:cD}{w:cG}(h:RM P G ι m w.heap)(n:Nat):Step P G ι m w ι m {w with drawn:=n}:=
 ⟨h,λ_ _=>rfl,λ_ h=>h,aA _,rfl,λ_ _=>rfl,aA _,λ_ _ _=>rfl,λ_ h=>.inl h,rfl,rfl,rfl⟩
def Step.trans{P:cH}{G:cD}{c d e:Q0}{f g j:cD}{k l m:cG}(a:Step P G c f k d g l)(b:Step P G d g l e j m):
   Step P G c f k e j m where
 rm:=b.rm
 ext i hi:=(b.ext i (a.has i hi)).trans (a.ext i hi)
 has i hi:=b.has i (a.has i hi)
 nx:=dn a.nx b.nx
 lim:=b.lim.trans a.lim
 old i hi:=(b.old i (by rw[a.lim];exact hi)).trans (a.old i hi)
 size:=dn a.size b.size
 frame x hx ho:=by refine(b.frame x (aP hx a.size) λh=>?_).trans (a.frame x hx ho);rcases a.own x h with h|h;exact ho h;omega
 own x h:=by rcases b.own x h with h|h;exact a.own x h;exact .inr (dn a.size h)
 os:=b.os.trans a.os
 out:=b.out.trans a.out
 tape:=b.tape.trans a.tape
variable {w':cG}
def Step.u7{P:cH}{G:cD}{ι:Q0}{m b:cD}{w:cG}(a:Step P G ι m w ι' b w'){v:j5}(h:v.lt (m.nm ι)):AM.u7 ι' v=AM.u7 ι v:=
 aZ (n:=m.nm ι) a.ext v h
def Step.env{P:cH}{G:cD}{ι ι':Q0}{m c:cD}{w w':cG}(a:Step P G ι m w ι' c w'){b:cR}{env:T j5}{tmps:Array Value}
   (h:dI ι (m.nm ι) b env tmps):dI ι' (c.nm ι') b env tmps:=h.mono (n:=m.nm ι) a.ext (cD.dL a.has a.ext)
def BR.mono{P:cH}{ι:Q0}{n e:Nm}{L:Loop}{f:LoopState}{c:Option bQ}{env:T j5}{b:List (Option Nat)}{a body:bM}
   (h:BR P ι n L f c env b a body) (hi:∀i,n i->ι' i=ι i) (hn:n.le e):BR P ι' e L f c env b a body:=by
 let⟨g,j,d,k,l⟩:=h;exact⟨g,j,d,k.mono hi hn,l⟩
def Bo{ι ι':Q0}{n:Nm}(hi:∀i,n i->ι' i=ι i):∀(es:List (j5×j5)) (i:Nat),(∀e∈es,e.1.lt n∧e.2.lt n)->L8 ι' es i=L8 ι es i
 |[],_,_=>rfl
 |e::es,i,h=>by simp only[L8];rw[aZ hi _ (h e ZZ).1,aZ hi _ (h e ZZ).2,Bo hi es (i+1) (λe he=>h e (by simp[he]))]
@[simp] theorem Jh(ι:Q0):∀(es:List (j5×j5)) (i:Nat),(L8 ι es i).length=es.length
 |[],_=>rfl
 |e::es,i=>by simp[L8,Jh ι es]
def pV(ι:Q0):∀(es:List (j5×j5)) (i j:Nat),(L8 ι es i)[j]?=(es[j]?).map λe=>{key:=u7 ι e.1,val:=u7 ι e.2,born:=i+j}
 |[],_,_=>by simp[L8]
 |e::es,i,0=>by simp[L8]
 |e::es,i,j+1=>by simp[L8,pV ι es,show i+1+j=i+(j+1)from by omega]
def iF.mono{P:cH}{ι:Q0}{n s:Nm}{h':Array Obj}{l:Loc}{b:Y9}(hb:iF P ι n h l b)
   (hi:∀i,n i->ι' i=ι i) (hn:n.le s) (g:bN b=true->h'[l.b]?=h[l.b]?):iF P ι' s h' l b:=by
 cases b with
 |void=>trivial
 |dead=>trivial
 |cells rs k cF=>
  let⟨c,e,u,a,d,m,o⟩:=hb;refine⟨c,e,u,by rw[g rfl];exact a,d,m,λi C=>?_⟩;let⟨f,w,y,q,z⟩:=o i C;refine⟨f,w,y,iW hn f q,λj B=>?_⟩;rw[z j B];cases hr:f[j]? with
  |none=>rfl
  |some v=>simp[aZ hi v (gK.1 q v (O5 hr))]
 |map es=>let⟨a,d⟩:=hb;refine⟨?_,λe r=>⟨e.1.aU hn (d e r).1,e.2.aU hn (d e r).2⟩⟩;rw[g rfl,a,Bo hi es 0 d]
 |iter mp since seen=>
  let⟨A,a,E,t,d,m,o⟩:=hb;refine⟨A,λx D=>(hn x (a x D)).1,E,t,?_,m,o⟩;rw[g rfl,d];cases mp with
  |none=>rfl
  |some x=>simp[hi x (a x rfl)]
 |tail p=>let⟨a,d⟩:=hb;exact⟨(hn p a).1,by rw[hi p a];exact d⟩
 |loop t pend env params assign body=>let⟨L,a,d⟩:=hb;exact⟨L,by rw[g rfl];exact a,d.mono hi hn⟩
 |deferred=>exact(g rfl).trans hb
def cD.Q5{m:cD}(h:T.Ok m.t m.nx)(b:Y9)(i:Nat):(m.new b).get i=if i=m.nx then some b else m.get i:=by show(m.t.put m.nx b).get i=_;split;rename_i e;subst e;exact T.aN h _ _ (aA _);rename_i e;exact T.bU h _ _ _ (aA _) (λh=>e h.symm)
def cD.R9{m:cD}(h:T.Ok m.t m.nx){j:Nat}(a:j<m.nx)(b:Y9)(i:Nat):(m.set j b).get i=if i=j then some b else m.get i:=by show(m.t.put j b).get i=_;split;rename_i e;subst e;exact T.aN h _ _ (aki a);rename_i e;exact T.bU h _ _ _ (aki a) (λh=>e h.symm)
def cD.Q9{m:cD}(h:T.Ok m.t m.nx){i:Nat}{b:Y9}(hi:m.get i=some b):i<m.nx:=(h.get i).1 ⟨b,hi⟩
@[simp] theorem cD.QU(m:cD)(b:Y9):(m.new b).nx=m.nx+1:=rfl
@[simp] theorem cD.adw(m:cD)(b:Y9):(m.new b).lim=m.lim:=rfl
@[simp] theorem cD.akp(m:cD)(i:Nat)(b:Y9):(m.set i b).nx=m.nx:=rfl
@[simp] theorem cD.as9(m:cD)(i:Nat)(b:Y9):(m.set i b).lim=m.lim:=rfl
def Q0.upd(ι:Q0)(i:Nat)(l:Loc):Q0:=λj=>if j=i then l else ι j
@[simp] theorem Q0.aF(ι:Q0)(i:Nat)(l:Loc):ι.upd i l i=l:=by simp[Q0.upd]
def Q0.upd_ne(ι:Q0){i j:Nat}(l:Loc)(h:j≠i):ι.upd i l j=ι j:=by simp[Q0.upd,h]
def iG{P:cH}{ι:Q0}{n:Nm}{l:Loc}{b:Y9}(hb:iF P ι n h l b)(d:bN b=true):l.b<h.size:=by
 cases b with
 |void=>cases d
 |dead=>cases d
 |tail=>cases d
 |cells rs k cF=>let⟨c,e,f,a,_⟩:=hb;exact(vo.1 a).1
 |map es=>let⟨a,_⟩:=hb;exact(vo.1 a).1
 |iter mp since seen=>let⟨_,_,g,i,a,_⟩:=hb;exact(vo.1 a).1
 |loop=>let⟨L,a,_⟩:=hb;exact(vo.1 a).1
 |deferred=>exact(vo.1 hb).1
structure Laid(m m':cD)(nid:Nat)(b:Y9):Prop where
 ok:T.Ok m'.t m'.nx
 get:∀i,m'.get i=if i=nid then some b else m.get i
 lim:m'.lim=m.lim
 nx:m.nx<=m'.nx
 le:m.lim<=nid
 free:¬ m.has nid
 live:jU b=false
def Laid.new{m:cD}(h:T.Ok m.t m.nx)(a:m.lim<=m.nx)(b:Y9)(hb:jU b=false):Laid m (m.new b) m.nx b:=
 ⟨h.push b,cD.Q5 h b,rfl,Nat.le_succ _,a,λ⟨_,h1,_⟩=>avw _ (cD.Q9 h h1),hb⟩
def Laid.set{m:cD}(h:T.Ok m.t m.nx){i:Nat}(hi:m.get i=some .void)(a:m.lim<=i)(b:Y9)(hb:jU b=false):Laid m (m.set i b) i b:=
 ⟨h.put i b (cD.Q9 h hi),cD.R9 h (cD.Q9 h hi) b,rfl,aA _,a,λ⟨_,h1,h2⟩=>(by rw[hi]at h1;cases h1;cases h2),hb⟩
variable {nid:Nat}
def Laid.has{m c:cD}{b:Y9}(h:Laid m c nid b)(i:Nat)(hi:m.has i):c.has i:=by have a:i≠nid:=λe=>h.free (e▸hi);let⟨x,d,f⟩:=hi;exact⟨x,by rw[h.get,aE a];exact d,f⟩
def Laid.self{m a:cD}{b:Y9}(h:Laid m a nid b):a.has nid:=⟨b,by rw[h.get,cg rfl],h.live⟩
def uU{m:cD}{i:Nat}{b:Y9}(h:m.get i=some b)(a:bN b=true):m.has i:=⟨b,h,by cases b<;>first|rfl|cases a⟩
structure aaj(w w':cG)(o:Obj):Prop where
 heap:w'.heap=w.heap.push o
 os:w'.os=w.os
 out:w'.output=w.output
 tape:w'.tape=w.tape
def Step.lay{P:cH}{G:cD}{ι:Q0}{m E:cD}{w:cG}(h:RM P G ι m w.heap){b:Y9}(a:Laid m E nid b){o:Obj}(v:aaj w w' o){l:Loc}
   (C:l.b=w.heap.size) (hs:l.spot=none)
   (hb:iF P (ι.upd nid l) (E.nm (ι.upd nid l)) (w.heap.push o) l b)
   (hf:∀c e fz,o=.cells c e fz->∀k,k<c.size->¬ (fz.1<=k∧k<fz.2)):
   Step P G ι m w (ι.upd nid l) E w':=by
 have r:∀i x,m.get i=some x->bN x=true->(ι i).b<w.heap.size:=λi x f d=>iG (h.blk i x f) d;have g:∀k,k<w.heap.size->w'.heap[k]?=w.heap[k]?:=λk B=>by rw[v.heap];exact awU B |>.trans (ado B).symm
 have p:∀j,m.has j->ι.upd nid l j=ι j:=λj A=>ι.upd_ne l λe=>a.free (e▸A);refine⟨⟨a.ok,?_,?_,by rw[a.lim];exact h.glim,by rw[a.lim];exact dn h.limn a.nx,h.gle,λi q=>by rw[a.get,aE (by have:=a.le;have:=h.glim;omega)];exact h.base i q,λi q=>a.has i (h.ghas i q),?_,?_,h.QT λk B _=>g k B⟩,p,a.has,a.nx,a.lim,?_,by rw[v.heap];simp,?_,?_,v.os,v.out,v.tape⟩;intro i x f;rw[a.get]at f;split at f;rename_i e;subst e;cases f;rw[v.heap];simpa using hb;rename_i e;rw[ι.upd_ne l e];exact(h.blk i x f).mono (n:=m.nm ι) p (cD.dL a.has p) (λd=>g _ (r i x f d));intro i x q f d;rw[a.lim]at q;rw[a.get]at f;split at f;rename_i e;subst e;cases f;refine⟨λj y A z u=>?_,λc e fz t=>?_⟩;rw[a.get,aE A]at z;rw[ι.upd_ne l A,ι.aF,C];have:=r j y z u;omega;rw[ι.aF,C,v.heap]at t;simp at t;exact hf c e fz t;rename_i e;have H:=h.own i x q f d;have s:=r i x f d;refine⟨λj y A z u=>?_,λc I fz t=>?_⟩;rw[ι.upd_ne l e];rw[a.get]at z;split at z;rename_i D;subst D;cases z;rw[ι.aF,C];omega;rename_i D;rw[ι.upd_ne l D];exact H.alone j y A z u;rw[ι.upd_ne l e]at t;rw[g _ s]at t;exact H.free c I fz t;intro i q;rw[p i (h.ghas i q)];exact h.glob i q;intro i x f d;rw[a.get]at f;split at f;rename_i e;subst e;rw[ι.aF];exact hs;rename_i e;rw[ι.upd_ne l e];exact h.spot i x f d;intro i q;rw[a.get,aE (by have:=a.le;omega)];intro F s _;exact g F s;rintro F ⟨i,x,q,f,d,rfl⟩;rw[a.lim]at q;rw[a.get]at f;split at f;rename_i e;subst e;right;rw[ι.aF,C];exact aA _;rename_i e;left;rw[ι.upd_ne l e];exact⟨i,x,q,f,d,rfl⟩
def Step.name{P:cH}{G:cD}{ι:Q0}{m s:cD}{w:cG}(h:RM P G ι m w.heap){b:Y9}(d:Laid m s nid b)(D:bN b=false){l:Loc}
   (hb:iF P (ι.upd nid l) (s.nm (ι.upd nid l)) w.heap l b):Step P G ι m w (ι.upd nid l) s w:=by
 have g:∀j,m.has j->ι.upd nid l j=ι j:=λj t=>ι.upd_ne l λe=>d.free (e▸t);have o:∀i x,s.get i=some x->bN x=true->i≠nid∧m.get i=some x:=λi x f a=>by rw[d.get]at f;split at f;cases f;rw[D]at a;cases a;exact⟨by assumption,f⟩
 refine⟨⟨d.ok,?_,?_,by rw[d.lim];exact h.glim,by rw[d.lim];exact dn h.limn d.nx,h.gle,λi k=>by rw[d.get,aE (by have:=d.le;have:=h.glim;omega)];exact h.base i k,λi k=>d.has i (h.ghas i k),?_,?_,h.gsz⟩,g,d.has,d.nx,d.lim,?_,aA _,λ_ _ _=>rfl,?_,rfl,rfl,rfl⟩;intro i x f;rw[d.get]at f;split at f;rename_i e;subst e;cases f;simpa using hb;rename_i e;rw[ι.upd_ne l e];exact(h.blk i x f).mono (n:=m.nm ι) g (cD.dL d.has g) (λ_=>rfl);intro i x k f a;rw[d.lim]at k;let⟨p,q⟩:=o i x f a;have v:=h.own i x k q a;refine⟨λj y t E r=>?_,λc z A u=>?_⟩;let⟨B,C⟩:=o j y E r;rw[ι.upd_ne l p,ι.upd_ne l B];exact v.alone j y t C r;rw[ι.upd_ne l p]at u;exact v.free c z A u;intro i k;rw[g i (h.ghas i k)];exact h.glob i k;intro i x f a;let⟨p,q⟩:=o i x f a;rw[ι.upd_ne l p];exact h.spot i x q a;intro i k;rw[d.get,aE (by have:=d.le;omega)];rintro b' ⟨i,x,k,f,a,rfl⟩;rw[d.lim]at k;let⟨p,q⟩:=o i x f a;rw[ι.upd_ne l p];exact .inl ⟨i,x,k,q,a,rfl⟩
def atg(ι:Q0)(n:Nm)(done:List (Option Nat))(ls:cM)(tmps:Array Value):Prop:=
 ∀t k,lC t done 0=some k->∃v,ls[k]?=some v∧v.lt n∧tmps.getD t undef=u7 ι v
structure St(P:cH)(ι:Q0)(n:Nm)(cr:cR)(done:List (Option Nat))(ls:cM)(env:T j5)(tmps:Array Value):Prop where
 ls:atg ι n done ls tmps
 env:dI ι n cr env tmps
 glob:∀i,i<P.globals.size->(ι i).b=i∧(ι i).base=0∧(ι i).spot=none
 gn:∀g,g<P.globals.size->n g
section
variable {P:cH}{G:cD}{ι:Q0}{n:Nm}{cr:cR}{done:List (Option Nat)}{ls:cM}{env:T j5}{a:Act}
def Ji(k:Nat):∀(ls:cM) (env:T j5),J6 (.loc k) ls env=ls[k]?.getD .undef:=by
 intro ls env;match k with
 |0=>cases ls<;>rfl
 |1=>match ls with|[]|[_]|_ :: _ :: _=>rfl
 |2=>match ls with|[]|[_]|[_,_]|_ :: _ :: _ :: _=>rfl
 |3=>match ls with|[]|[_]|[_,_]|[_,_,_]|_ :: _ :: _ :: _ :: _=>rfl
 |k+4=>show nth (k+4) ls=_;exact aai _ _
def aak(j:Nat)(h:j<2^60)(ls:cM)(env:T j5):J6 (.slot j) ls env=(env.get j).getD .undef:=by
 show way 64 j env=_
 exact ahn 64 j env (by have:(2:Nat)^60+1<2^64:=ZS
                        omega)
def D9(s:St P ι n cr done ls env a.tmps){x:Operand}{o:aS}(h:aD P cr done x=some o):
   a.eval x=u7 ι (J6 o ls env)∧(J6 o ls env).lt n:=by
 cases x with
 |tmp t=>
  simp only[aD]at h;cases hk:lC t done 0 with
  |some k=>simp only[hk,iE]at h;subst h;let⟨v,b,d,e⟩:=s.ls t k hk;rw[Ji,b];exact⟨e,d⟩
  |none=>
   simp only[hk]at h;cases hj:idxOf t cr 0 with
   |none=>simp[hj]at h
   |some j=>simp only[hj,iE]at h;subst h;let⟨_,v,b,d,e⟩:=s.env.val t j hj;rw[aak j (by have:=(yQ hj).2.1;have:=s.env.small;omega),b];exact⟨e,d⟩
 |const v=>
  simp only[aD]at h;cases hv:ofValue v with
  |none=>simp[hv]at h
  |some c=>simp only[hv,iE]at h;subst h;let⟨b,d⟩:=qG ι v c hv;exact⟨b.symm,d n⟩
 |global g=>simp only[aD]at h;split at h;rename_i i;cases h;let⟨b,d,e⟩:=s.glob g i;refine⟨?_,?_⟩;show Value.pointer (some ⟨g,0,none⟩)=.pointer (some (ι.at g 0));rw[Q0.Dm e,b,d];exact s.gn g i;cases h
 |func f=>simp only[aD,iE]at h;subst h;exact⟨by simp[Act.eval,J6,bO,u7,lV,A9],by simp[J6,bO,j5.lt,adu,fD]⟩
def oG(s:St P ι n cr done ls env a.tmps):∀{l:List Operand} {os:List aS},mF P cr done l=some os->
   l.map a.eval=A9 ι (evs (jD os) ls env)∧fD n (evs (jD os) ls env)
 |[],os,h=>by simp only[mF,iE]at h;subst h;simp[jD,evs,A9,fD]
 |x::l,os,h=>by
  simp only[mF]at h;cases hx:aD P cr done x with
  |none=>simp[hx]at h
  |some o=>
   cases hl:mF P cr done l with
   |none=>simp[hx,hl]at h
   |some r=>simp only[hx,hl,iE]at h;subst h;let⟨h1,h2⟩:=D9 s hx;let⟨h3,h4⟩:=oG s hl;refine⟨?_,?_⟩;show a.eval x::l.map a.eval=u7 ι (J6 o ls env)::A9 ι (evs (jD r) ls env);rw[h1,h3];exact⟨h2,h4⟩
end
section
variable {P:cH}{G:cD}{w:cG}
def cC{t:cI}{d:TypeDesc}(h:P.underlying t=some d):(underlying t).run P w=.ok d w:=by simp[underlying,h]
def run_sizeOf{t:cI}{k:Nat}(h:gV P t=some k):(sizeOf t).run P w=.ok k w:=by simp only[gV,akj]at h;let⟨i,a,b⟩:=h;simp[sizeOf,typeInfo,a,b]
def Ak{t:cI}{k:Nat}(h:lG P t=some k):∃i,(typeInfo t).run P w=.ok i w∧i.bytes=k:=by simp only[lG,akj]at h;let⟨i,a,b⟩:=h;exact⟨i,by simp[typeInfo,a],b⟩
def uW{t:cI}{b:Bool}(h:Bd P t=some b):(isAgg t).run P w=.ok b w:=by
 simp only[Bd]at h;cases hu:P.underlying t with
 |none=>simp[hu]at h
 |some d=>simp only[isAgg,wu,cC hu,nM];cases d<;>simp_all
def Jj{t:cI}{s:Option Nat}(h:partT P t=some s):(s=none∧Bd P t=some false∧∃k,gV P t=some k)∨(∃k,s=some k∧Bd P t=some true∧gV P t=some k):=by simp only[partT]at h;split at h;rename_i k a b;cases h;exact .inr ⟨k,rfl,a,b⟩;rename_i k a b;cases h;exact .inl ⟨rfl,a,k,b⟩;cases h
def iX{t:cI}{z:cM}(h:uT P t=some z)(ι:Q0):∃v,(zeroValue t).run P w=.ok v w∧v.cells=(A9 ι z).toArray∧∀n,fD n z:=by
 simp only[uT]at h;cases hi:P.info? t with
 |none=>simp[hi]at h
 |some i=>
  cases hz:i.zero with
  |none=>simp[hi,hz]at h
  |some v=>
   cases ha:ofValue v with
   |none=>simp[hi,hz,ha]at h
   |some a=>simp only[hi,hz,ha,agU,iE]at h;subst h;let⟨b,c⟩:=qG ι v a ha;exact⟨v,by simp[zeroValue,typeInfo,hi,hz],by rw[← b,rM],λn=>Dn (c n)⟩
def uX{t:cI}{z:j5}(h:zeroV P t=some z)(ι:Q0):(zeroValue t).run P w=.ok (u7 ι z) w∧∀n,z.lt n:=by
 simp only[zeroV]at h;cases hi:P.info? t with
 |none=>simp[hi]at h
 |some i=>
  cases hz:i.zero with
  |none=>simp[hi,hz]at h
  |some v=>simp only[hi,hz,agU]at h;let⟨a,b⟩:=qG ι v z h;exact⟨by simp[zeroValue,typeInfo,hi,hz,a],b⟩
end
def Dq(n:Int)(h:-9223372036854775808<=n∧n<9223372036854775808):IntKind.i64.wrap n=n:=by
 have a:((2:Int)^IntKind.i64.bits)=18446744073709551616:=rfl;have b:((2:Int)^(IntKind.i64.bits-1))=9223372036854775808:=rfl;unfold IntKind.wrap;rw[a,b];show(if(true&&decide (n%18446744073709551616≥9223372036854775808))=true then n%18446744073709551616-18446744073709551616 else n%18446744073709551616)=n;let⟨c,d⟩:=h;by_cases hn:0<=n;have:n%18446744073709551616=n:=Int.emod_eq_of_lt hn Zs;rw[this,aE (by simp only[ajy,ck];omega)];have:n%18446744073709551616=n+18446744073709551616:=by rw[← Int.add_emod_right];exact Int.emod_eq_of_lt Zs Zs
 rw[this,cg (by simp only[ajy,ck];omega)];omega
def aho(n:Int):kY n=IntKind.i64.wrap n:=by
 cases n with
 |ofNat m=>
  simp only[kY];cases h:blt m 9223372036854775808 with
  |true=>
   have:m<9223372036854775808:=(Eq.mp O8 h)
   have a:=Dq (Int.ofNat m) ⟨by have:(0:Int)<=Int.ofNat m:=Int.natCast_nonneg m
                                omega,by have:Int.ofNat m=(m:Int):=rfl
                                         omega⟩
   exact(aC _ _).trans a.symm
  |false=>exact bA _ _
 |negSucc m=>
  simp only[kY];cases h:blt m 9223372036854775808 with
  |true=>have:m<9223372036854775808:=(Eq.mp O8 h);have e:=awJ m;have a:=Dq (Int.negSucc m) ⟨Zs,Zs⟩;exact(aC _ _).trans a.symm
  |false=>exact bA _ _
def yR(k:cJ)(n:Int):iB k n=k.wrap n:=by cases k<;>first|exact aho n|rfl
def ny(a b:Int):qC a b=(a==b):=by
 cases a with
 |ofNat a=>
  cases b with
  |ofNat b=>show beq a b=_;by_cases h:a=b;subst h;simp[ah6];rw[show beq a b=false from aa0.2 λe=>h (nA e)];exact(beq_eq_false_iff_ne.2 (λe=>h (Int.ofNat.inj e))).symm
  |negSucc b=>exact(beq_eq_false_iff_ne.2 (λe=>by cases e)).symm
 |negSucc a=>
  cases b with
  |ofNat b=>exact(beq_eq_false_iff_ne.2 (λe=>by cases e)).symm
  |negSucc b=>show beq a b=_;by_cases h:a=b;subst h;simp[ah6];rw[show beq a b=false from aa0.2 λe=>h (nA e)];exact(beq_eq_false_iff_ne.2 (λe=>h (Int.negSucc.inj e))).symm
def blt_eq(a b:Nat):blt a b=decide (a<b):=by by_cases h:a<b;rw[co h];exact(Eq.mpr O8 h);rw[decide_eq_false h];exact aa0.2 λe=>h (Eq.mp O8 e)
def iY(a b:Int):mX a b=decide (a<b):=by
 cases a with
 |ofNat a=>
  cases b with
  |ofNat b=>exact(blt_eq a b).trans (decide_eq_decide.2 (by show a<b↔(a:Int)<(b:Int);omega))
  |negSucc b=>exact(decide_eq_false (by rw[awJ];show¬ (a:Int) < _;omega)).symm
 |negSucc a=>
  cases b with
  |ofNat b=>exact(co (by rw[awJ];show _<(b:Int);omega)).symm
  |negSucc b=>exact(blt_eq b a).trans (decide_eq_decide.2 (by rw[awJ,awJ];omega))
def Uh(a b:cJ):kEq a b=decide (a=b):=by cases a<;>cases b<;>rfl
def Dr:∀a b:List cL,strEq a b=(a==b)
 |[],[]=>rfl
 |[],_ :: _=>rfl
 |_ :: _,[]=>rfl
 |x::a,y::b=>by
  show bi (beq x.toNat y.toNat) (strEq a b) false=_;rw[Dr a b];by_cases h:x=y;subst h;simp[ah6];have:beq x.toNat y.toNat=false:=by rw[aa0];intro e;exact h (avB.1 (nA e))
  rw[this];simp[h]
def Jk:∀a b:List cL,vV a b=Op.bytesLess a b
 |_,[]=>by cases ‹List cL› <;>rfl
 |[],_ :: _=>rfl
 |x::a,y::b=>by simp[vV,Op.bytesLess,Jk a b]
def Q0.rO(ι:Q0)(i o k:Nat):(ι.at i o).add k=ι.at i (o+k):=by
 unfold Addr.add Q0.at
 split;rename_i h;subst h;rfl;rename_i h;have:¬ (o+k=0):=Zs
 simp[aie,this];intro _ a;exact cj a h
section
variable {β:Type}{v:j5}{r:β}
def lS{k:Nat->Nat->Option β}(h:pO v k=some r):∃i o,v=.ptr i o∧k i o=some r:=by cases v<;>first|exact⟨_,_,rfl,h⟩|(simp[pO]at h)
def oU{k:cJ->Int->Option β}(h:xL v k=some r):∃i n,v=.int i n∧k i n=some r:=by cases v<;>first|exact⟨_,_,rfl,h⟩|(simp[xL]at h)
def uY{k:Bool->Option β}(h:rE v k=some r):∃b,v=.bool b∧k b=some r:=by cases v<;>first|exact⟨_,rfl,h⟩|(simp[rE]at h)
def sU{k:List cL->Option β}(h:xM v k=some r):∃s,v=.str s∧k s=some r:=by cases v<;>first|exact⟨_,rfl,h⟩|(simp[xM]at h)
def jV{k:cM->Option β}(h:EL v k=some r):∃l,v=.agg l∧k l=some r:=by cases v<;>first|exact⟨_,rfl,h⟩|(simp[EL]at h)
def adx{k:cM->Option β}(h:Qw v k=some r):∃l,v=.tuple l∧k l=some r:=by cases v<;>first|exact⟨_,rfl,h⟩|(simp[Qw]at h)
def Al{a:Option β}{k:Nat->Option β}(h:Ba v a k=some r):(v=.nilMap∧a=some r)∨∃i,v=.map i∧k i=some r:=by cases v<;>first|exact .inl ⟨rfl,h⟩|exact .inr ⟨_,rfl,h⟩|(simp[Ba]at h)
def yS{e:Option β}{k u:Nat->Nat->Nat->Nat->Option β}(h:xC v e k u=some r):
   (v=.nilSlice∧e=some r)∨(∃a b c d,v=.slice a b c d∧k a b c d=some r)∨∃a b c d,v=.sliceU a b c d∧u a b c d=some r:=by
 cases v<;>first|exact .inl ⟨rfl,h⟩|exact .inr (.inl ⟨_,_,_,_,rfl,h⟩)|exact .inr (.inr ⟨_,_,_,_,rfl,h⟩)|(simp[xC]at h)
def Ox{k:Fn->cM->cM->Option β}(h:Qx v k=some r):∃f a b,v=.func f a b∧k f a b=some r:=by cases v<;>first|exact⟨_,_,_,rfl,h⟩|(simp[Qx]at h)
def ady{n:Int}{k:Nat->Option β}(h:aa3 n k=some r):∃m:Nat,n=(m:Int)∧k m=some r:=by
 cases n with
 |ofNat m=>exact⟨m,rfl,h⟩
 |negSucc m=>simp[aa3]at h
def jm{k:Nat->Option β}(h:jC v k=some r):∃i,∃m:Nat,v=.int i (m:Int)∧k m=some r:=by obtain⟨i,n,rfl,h⟩:=oU h;obtain⟨m,rfl,h⟩:=ady h;exact⟨i,m,rfl,h⟩
def idx_eq{len:Nat}{k:Nat->Option β}(h:idx len v k=some r):∃i,∃m:Nat,v=.int i (m:Int)∧m<len∧k m=some r:=by obtain⟨i,m,rfl,h⟩:=jm h;let⟨a,b⟩:=K4 h;exact⟨i,m,rfl,Eq.mp O8 a,b⟩
end
section
variable {P:cH}{G:cD}{ι:Q0}{n:Nm}
def wo{c:BinOp}{t:cI}{x y:Operand}{a b:Value}{w:cG}
   (h:∀p q,a≠.agg p∨b≠.agg q) (h':a≠.nilIface∨b≠.nilIface∨Bn x=true∨Bn y=true):(eqGuard c t x y a b).run P w=.ok () w:=by
 unfold eqGuard;cases c<;>simp<;>(
  split;rename_i d e;rcases h' with h'|h'|h'|h';exact cj rfl h';exact cj rfl h';cases x<;>simp_all[Bn]
  cases y<;>simp_all[Bn]
  rename_i p q;rcases h p q with h|h<;>exact cj rfl h
  rfl)
def Oy{c:BinOp}(e:c≠.shl)(f:c≠.shr){k:cJ}{a b:Int}{v:j5}(h:Og c k a b=some v)(t:cI)(w:cG):
   (binOp c t (.int k a) (.int k b)).run P w=.ok (u7 ι v) w∧v.lt n:=by
 cases c<;>first
  |exact cj rfl e
  |exact cj rfl f
  |(simp only[Og,Oe,Qz,TP,Hw,iNe,iLt,iLe,iGt,iGe,Lv,iOr,Yg,Ah,iE]at h
    subst h;simp[binOp,Op.intArith,Op.intCmp,Op.intBits,u7,j5.lt,yR,ny,iY,Qy,bne]
    done)
  |(simp only[Og,QA,EO,ahd]at h
    have d:b≠0:=(by rintro rfl;simp at h);split at h;exact cj rfl d;cases h;simp[binOp,Op.intDiv,d,u7,j5.lt,yR])
  |(simp only[Og,iLe,iGe,iE]at h
    subst h;simp[binOp,Op.intCmp,u7,j5.lt,iY];rw[acv];simp)
def uZ(s:List cL):(⟨s.toArray⟩:ByteArray).size=s.length:=by simp[ByteArray.size]
def Oz{c:BinOp}{a b:List cL}{v:j5}(h:Oh c a b=some v)(t:cI)(w:cG):
   (binOp c t (.string ⟨a.toArray⟩) (.string ⟨b.toArray⟩)).run P w=.ok (u7 ι v) w∧v.lt n:=by
 cases c<;>first
  |(simp only[Oh,II]at h;cases h;done)
  |(simp only[Oh,Hy,sNe,sLt,sLe,sGt,sGe,iE]at h
    subst h;simp[binOp,Op.stringOp,u7,j5.lt,Dr,Jk]
    done)
  |(simp only[Oh,fZ]at h
    let⟨d,e⟩:=K4 h;cases e;have f:len' a+len' b<9223372036854775808:=Eq.mp O8 d;simp only[K7]at f;simp[binOp,Op.stringOp,uZ,u7,j5.lt];rw[aE Zs];congr 3)
def wz{c:BinOp}(e:c≠.shl)(f:c≠.shr){x y v:j5}(h:Bb (Og c) (Oh c) x y=some v)(t:cI)(w:cG):
   (binOp c t (u7 ι x) (u7 ι y)).run P w=.ok (u7 ι v) w∧v.lt n:=by
 cases x<;>try (simp[Bb]at h;done)
 rename_i k a;simp only[Bb]at h;obtain⟨i,b,rfl,h⟩:=oU h;let⟨d,g⟩:=K4 h;rw[Uh,ck]at d;subst d;exact Oy e f g t w;rename_i a;simp only[Bb]at h;obtain⟨b,rfl,h⟩:=sU h;exact Oz h t w
def Yl{b:BinOp}{x y v:j5}(h:Bb (Og b) (Oh b) x y=some v):
   (∃k a,x=.int k a)∨∃a,x=.str a:=by
 cases x<;>first|exact .inl ⟨_,_,rfl⟩|exact .inr ⟨_,rfl⟩|(simp[Bb]at h;done)
def Mr{x y v:j5}(h:ahi x y=some v)(t:cI)(w:cG):(binOp .shl t (u7 ι x) (u7 ι y)).run P w=.ok (u7 ι v) w∧v.lt n:=by simp only[ahi]at h;obtain⟨k,a,rfl,h⟩:=oU h;obtain⟨i,m,rfl,h⟩:=jm h;cases h;simp[binOp,Op.shift,u7,j5.lt,yR,show¬ ((m:Int)<0)from by omega]
def Ms{x y v:j5}(h:TQ x y=some v)(t:cI)(w:cG):(binOp .shr t (u7 ι x) (u7 ι y)).run P w=.ok (u7 ι v) w∧v.lt n:=by simp only[TQ]at h;obtain⟨k,a,rfl,h⟩:=oU h;obtain⟨i,m,rfl,h⟩:=jm h;cases h;simp[binOp,Op.shift,u7,j5.lt,show¬ ((m:Int)<0)from by omega]
def Fa(a b:Bool):IJ a b=(a==b):=by cases a<;>cases b<;>rfl
def wB{x y:j5}{r:Bool}(h:jQ x y=some r):∃k a b,x=.int k a∧y=.int k b∧r=(a==b):=by let⟨k,a,d,e⟩:=oU h;let⟨j,b,f,g⟩:=oU e;let⟨c,i⟩:=K4 g;rw[Uh,ck]at c;subst c;cases i;exact⟨_,_,_,d,f,ny _ _⟩
def mG{x y:j5}{r:Bool}(h:um x y=some r):∃a b,x=.bool a∧y=.bool b∧r=(a==b):=by let⟨a,c,d⟩:=uY h;let⟨b,e,f⟩:=uY d;cases f;exact⟨_,_,c,e,Fa _ _⟩
def wC{x y:j5}{r:Bool}(h:eqStr x y=some r):∃a b,x=.str a∧y=.str b∧r=(a==b):=by let⟨a,c,d⟩:=sU h;let⟨b,e,f⟩:=sU d;cases f;exact⟨_,_,c,e,Dr _ _⟩
end
section
variable {P:cH}{G:cD}{ι:Q0}{n:Nm}
def oH(a b:cM):gu [] a b=some true:=rfl
def mH(k:PK)(c:List PK)(x y:j5)(a b:cM):gu (k::c) (x::a) (y::b)=ob (QB k x y) λr=>bi r (gu c a b) (some false):=rfl
def mI{k:PK}{c:List PK}{a b:cM}{r:Bool}(h:gu (k::c) a b=some r):
   ∃x xs y ys s,a=x::xs∧b=y::ys∧QB k x y=some s∧bi s (gu c xs ys) (some false)=some r:=by
 cases a with
 |nil=>cases h
 |cons x xs=>
  cases b with
  |nil=>cases h
  |cons y ys=>rw[mH]at h;let⟨s,d,e⟩:=D7 h;exact⟨x,xs,y,ys,s,rfl,rfl,d,e⟩
def Ui(c e:List PK):∀(a b:cM) (r:Bool),gu (c++e) a b=some r->
   (gu c a b=some false∧r=false)∨(gu c a b=some true∧gu e (a.drop c.length) (b.drop c.length)=some r):=by
 induction c with
 |nil=>intro a b r h;right;exact⟨rfl,by simpa using h⟩
 |cons k c ih=>
  intro a b r h;obtain⟨x,g,y,i,s,rfl,rfl,f,d⟩:=mI h;rw[mH,f];cases s with
  |false=>left;cases d;exact⟨rfl,rfl⟩
  |true=>simpa using ih g i r d
def Gv(c:List PK):∀(m:Nat) (a b:cM),c.length<=m->gu c (a.take m) (b.take m)=gu c a b:=by
 induction c with
 |nil=>intro m a b _;rfl
 |cons k c ih=>
  intro m a b h;obtain⟨m,rfl⟩:∃m',m=m'+1:=⟨m-1,by simp at h;omega⟩;cases a with
  |nil=>rfl
  |cons x xs=>
   cases b with
   |nil=>rfl
   |cons y ys=>rw[List.take_succ_cons,List.take_succ_cons,mH,mH,ih m xs ys (by simpa using h)]
def mkV(ι:Q0)(agg:Bool)(l:cM):Value:=if agg then .agg (A9 ι l).toArray else u7 ι (l.headD .undef)
def OC(ι:Q0)(l:cM)(o k:Nat):((A9 ι l).toArray.extract o (o+k))=(A9 ι ((l.drop o).take k)).toArray:=by rw[List.extract_toArray];congr 1;rw[fF,fF,awi,aq8];simp[avx,axq]
def yT{t:cI}{a:Bool}{k:Nat}(b:Bd P t=some a)(hs:gV P t=some k)(l:cM)(o:Nat)(c:a=false->o<l.length∧k=1)(w:cG):
   (part t (A9 ι l).toArray o).run P w=.ok (mkV ι a ((l.drop o).take k)) w:=by
 simp only[part,wu,uW b,nM];cases a with
 |true=>simp only[if_true,wu,run_sizeOf hs,nM,aa2,OC];rfl
 |false=>
  obtain⟨h,rfl⟩:=c rfl;have:(A9 ι l).toArray[o]?=some (u7 ι l[o]):=by simp[eU,cB h]
  simp only[agY,if_false,this,mkV,aa2];congr 2;rw[zu h];rfl
def Jl{t:cI}{k:cJ}(h:P.underlying t=some (.int k)):Bd P t=some false:=by simp[Bd,h]
def Ym{t:cI}(h:P.underlying t=some .bool):Bd P t=some false:=by simp[Bd,h]
def QV{t:cI}(h:P.underlying t=some .string):Bd P t=some false:=by simp[Bd,h]
def sV{t:cI}{a:Array Field}(h:P.underlying t=some (.struct a)):Bd P t=some true:=by simp[Bd,h]
def yU{t:cI}{k:cJ}(h:P.underlying t=some (.int k)){x y:j5}{r:Bool}(c:jQ x y=some r)(d:Nat)(w:cG):
   (Op.equalIn (d+1) t (u7 ι x) (u7 ι y)).run P w=.ok r w:=by
 obtain⟨k,a,b,rfl,rfl,rfl⟩:=wB c;simp[Op.equalIn,cC h,u7]
def Dt{t:cI}(h:P.underlying t=some .bool){x y:j5}{r:Bool}(c:um x y=some r)(d:Nat)(w:cG):
   (Op.equalIn (d+1) t (u7 ι x) (u7 ι y)).run P w=.ok r w:=by
 obtain⟨a,b,rfl,rfl,rfl⟩:=mG c;simp[Op.equalIn,cC h,u7]
def uw(a b:List cL):((⟨a.toArray⟩:ByteArray)==⟨b.toArray⟩)=(a==b):=by show ByteArray.beq _ _=_;simp[ByteArray.beq]
def Gw{t:cI}(h:P.underlying t=some .string){x y:j5}{r:Bool}(c:eqStr x y=some r)(d:Nat)(w:cG):
   (Op.equalIn (d+1) t (u7 ι x) (u7 ι y)).run P w=.ok r w:=by
 obtain⟨a,b,rfl,rfl,rfl⟩:=wC c;simp[Op.equalIn,cC h,u7,uw]
def mJ(d:Nat)(X Y:Array Value):List Field->Sem Bool
 |[]=>pure true
 |f::l=>do
  if f.name≠ "_" then
   if !(← Op.equalIn d f.type (← part f.type X f.offset) (← part f.type Y f.offset))then return false
  mJ d X Y l
def OD(d:Nat)(X Y:Array Value)(l:List Field):
   (do
    let s ← forIn l ((none,()):Option Bool×Unit) λf _=>
     if f.name≠ "_" then do
      let a ← part f.type X f.offset
      let b ← part f.type Y f.offset
      let e ← Op.equalIn d f.type a b
      if(!e)=true then pure (ForInStep.done (some false,()))else pure (ForInStep.yield (none,()))
     else pure (ForInStep.yield (none,()))
    match s.fst with
    |some r=>pure r
    |none=>pure true:Sem Bool)=mJ d X Y l:=by
 induction l with
 |nil=>simp[mJ]
 | cons f l ih=>rw [axe];simp only [mJ];rw [← ih];by_cases hf:f.name= "_";simp [hf];simp only [ne_eq,hf,not_false_eq_true,if_true,bind_assoc];congr 1;funext a;congr 1;funext b;congr 1;funext e;cases e<;>simp
def Jm{t:cI}{b:Array Field}(h:P.underlying t=some (.struct b))(hs:P.stoodInHeld t=false)(X Y:Array Value)(d:Nat)(w:cG):
   (Op.equalIn (d+1) t (.agg X) (.agg Y)).run P w=(mJ d X Y b.toList).run P w:=by
 simp only[Op.equalIn,wu,cC h,nM,run_program,hs];rw[← axj,← OD];simp;congr 1;funext a w';let⟨o,u⟩:=a;cases o<;>rfl
def Mt:∀(d:Nat) (t:cI) (ks:List PK),jl P d t=some ks->∃agg,Bd P t=some agg∧gV P t=some ks.length∧(agg=false->ks.length=1)∧
   ∀D,d<=D->∀(a b:cM) (r:Bool),gu ks a b=some r->∀w,(Op.equalIn D t (mkV ι agg a) (mkV ι agg b)).run P w=.ok r w:=by
 intro d;induction d with
 |zero=>intro t ks h;simp[jl]at h
 |succ d ih=>
  intro t ks h;simp only[jl]at h;cases hu:P.underlying t with
  |none=>simp[hu]at h
  |some u=>
   rw[hu]at h;cases u<;>try (simp at h;done)
   ·
    simp only at h;split at h;rename_i k;cases h;refine⟨false,Ym hu,k,λ_=>rfl,λD F a b r n w=>?_⟩;obtain⟨x,I,y,J,s,rfl,rfl,m,q⟩:=mI n;obtain⟨D,rfl⟩:∃D',D=D'+1:=⟨D-1,Zs⟩;have:s=r:=by cases s<;>simpa[oH]using q
    subst this;exact Dt hu m D w;cases h
   simp only at h;split at h;rename_i k;cases h;refine⟨false,Jl hu,k,λ_=>rfl,λD F a b r n w=>?_⟩;obtain⟨x,I,y,J,s,rfl,rfl,m,q⟩:=mI n;obtain⟨D,rfl⟩:∃D',D=D'+1:=⟨D-1,Zs⟩;have:s=r:=by cases s<;>simpa[oH]using q
   subst this;exact yU hu m D w;cases h;simp only at h;split at h;rename_i k;cases h;refine⟨false,QV hu,k,λ_=>rfl,λD F a b r n w=>?_⟩;obtain⟨x,I,y,J,s,rfl,rfl,m,q⟩:=mI n;obtain⟨D,rfl⟩:∃D',D=D'+1:=⟨D-1,Zs⟩;have:s=r:=by cases s<;>simpa[oH]using q
   subst this;exact Gw hu m D w;cases h;rename_i K;simp only at h;cases hf:rH (jl P d) K.toList 0 with
   |none=>simp[hf]at h
   |some ks'=>
    simp only[hf]at h;split at h;rename_i k;cases h;refine⟨true,sV hu,k.2,(λh=>by cases h),λD F a b r n w=>?_⟩;obtain⟨D,rfl⟩:∃D',D=D'+1:=⟨D-1,Zs⟩;simp only[mkV,if_true];rw[Jm hu k.1];have H:∀(l:List Field) (g:Nat) (e:List PK) (j:List PK),ks=j++e->j.length=g->rH (jl P d) l g=some e->
      ∀r,gu e (a.drop g) (b.drop g)=some r->(mJ D (A9 ι a).toArray (A9 ι b).toArray l).run P w=.ok r w:=by
     intro l;induction l with
     |nil=>intro g e j _ _ i r B;simp only[rH,iE]at i;subst i;rw[oH]at B;cases B;simp[mJ]
     |cons f l ihl=>
      intro g e j G A i r B;simp only[rH]at i;split at i;rename_i N;cases hk:jl P d f.type with
      |none=>simp[hk]at i
      |some kf=>
       simp only[hk]at i;cases hrest:rH (jl P d) l (g+kf.length)with
       |none=>simp[hrest]at i
       |some kr=>
        simp only[hrest,iE]at i;subst i;let⟨agg,M,C,m,L⟩:=ih f.type kf hk;have z:∀(c:cM),(a=c∨b=c)->agg=false->g<c.length∧kf.length=1:=by
         intro c O v;have p:=m v;refine⟨?_,p⟩;cases kf with
         |nil=>simp at p
         |cons k0 kf=>let⟨x,I,y,J,s,o,E,_,_⟩:=mI B;rcases O with rfl|rfl;have:=ci List.length o;simp at this;omega;have:=ci List.length E;simp at this;omega
        simp only[mJ,cg N.1,wu];rw[N.2,yT M C _ _ (z a (.inl rfl)),nM,yT M C _ _ (z b (.inr rfl)),nM];rcases Ui kf kr _ _ r B with⟨o,rfl⟩|⟨o,E⟩;rw[L D Zs _ _ _ ((Gv kf _ _ _ (aA _)).trans o) w];simp;rw[L D Zs _ _ _ ((Gv kf _ _ _ (aA _)).trans o) w];simp only[nM,axr,agY,if_false];refine ihl (g+kf.length) kr (j++kf) (by rw[G];simp) (by simp[A]) hrest r ?_;simpa[ajs]using E
      cases i
    exact H K.toList 0 ks [] rfl rfl hf r (by simpa using n);cases h
end
section
variable {P:cH}{G:cD}{ι:Q0}{n:Nm}
def aal{t:cI}{x y:j5}{r:Bool}(d:(∀k a,x≠.int k a)∧∀s,x≠.str s)(h:∀w,(Op.equal t (u7 ι x) (u7 ι y)).run P w=.ok r w)(w:cG):
   (binOp .eql t (u7 ι x) (u7 ι y)).run P w=.ok (.bool r) w∧(binOp .neq t (u7 ι x) (u7 ι y)).run P w=.ok (.bool (!r)) w:=by
 have b:binOp .eql t (u7 ι x) (u7 ι y)=(do pure (.bool (← Op.equal t (u7 ι x) (u7 ι y)))):=by cases x<;>simp_all[u7,binOp]
 have c:binOp .neq t (u7 ι x) (u7 ι y)=(do pure (.bool (!(← Op.equal t (u7 ι x) (u7 ι y))))):=by cases x<;>simp_all[u7,binOp]
 rw[b,c];simp[h]
def QW{t e:cI}(b:P.underlying t=some (.pointer e)){x y:j5}{r:Bool}(a:xW x y=some r)(d:Nat)(w:cG):
   (Op.equalIn (d+1) t (u7 ι x) (u7 ι y)).run P w=.ok r w:=by
 cases x<;>cases y<;>simp only[xW,iE,reduceCtorEq]at a<;>subst a<;>simp[Op.equalIn,cC b,u7]
def LG{t e:cI}(b:P.underlying t=some (.slice e)){x y:j5}{r:Bool}(a:iR x y=some r)(d:Nat)(w:cG):
   (Op.equalIn (d+1) t (u7 ι x) (u7 ι y)).run P w=.ok r w:=by
 cases x<;>cases y<;>simp only[iR,iE,reduceCtorEq]at a<;>subst a<;>simp[Op.equalIn,cC b,u7]
def QX{t k e:cI}(b:P.underlying t=some (.map k e)){x y:j5}{r:Bool}(a:QC x y=some r)(d:Nat)(w:cG):
   (Op.equalIn (d+1) t (u7 ι x) (u7 ι y)).run P w=.ok r w:=by
 cases x<;>cases y<;>simp only[QC,iE,reduceCtorEq]at a<;>subst a<;>simp[Op.equalIn,cC b,u7]
def OE{t:cI}{a b:Array cI}{c:Bool}(f:P.underlying t=some (.func a b c)){x y:j5}{r:Bool}(e:IK x y=some r)(d:Nat)(w:cG):
   (Op.equalIn (d+1) t (u7 ι x) (u7 ι y)).run P w=.ok r w:=by
 cases x<;>cases y<;>simp only[IK,iE,reduceCtorEq]at e<;>subst e<;>simp[Op.equalIn,cC f,u7]
def LH{t:cI}{c:Array (String×cI)}(b:P.underlying t=some (.interface c)){x y:j5}{r:Bool}(a:kI x y=some r)(d:Nat)(w:cG):
   (Op.equalIn (d+1) t (u7 ι x) (u7 ι y)).run P w=.ok r w:=by
 cases x<;>cases y<;>simp only[kI,iE,reduceCtorEq]at a<;>subst a<;>simp[Op.equalIn,cC b,u7]
def OG{c:Bool}{t:cI}{k:Ig}(a:eqT P c t=some k){x y:j5}{r:Bool}(b:xO k x y=some r)(d:Nat)(j:10<=d+1)(w:cG):
   (Op.equalIn (d+1) t (u7 ι x) (u7 ι y)).run P w=.ok r w:=by
 simp only[eqT]at a;cases hu:P.underlying t with
 |none=>simp[hu]at a
 |some u=>
  rw[hu]at a;cases u<;>try (simp at a;done)
  simp only[iE]at a;subst a;exact Dt hu b d w;simp only[iE]at a;subst a;exact yU hu b d w;simp only[iE]at a;subst a;exact Gw hu b d w;simp only[iE]at a;subst a;exact QW hu b d w;simp only[iE]at a;subst a;exact LG hu b d w;simp only[iE]at a;subst a;exact QX hu b d w;rename_i o;simp only at a;cases hf:jl P 10 t with
  |none=>simp[hf]at a
  |some ks=>simp only[hf]at a;split at a;cases a;obtain⟨l,rfl,g⟩:=jV b;obtain⟨m,rfl,h⟩:=jV g;let⟨f,e,n,p,i⟩:=Mt (P:=P) (ι:=ι) 10 t ks hf;rw[sV hu]at e;cases e;have:=i (d+1) j l m r h w;simpa[mkV,u7]using this;cases a
  simp only[iE]at a;subst a;exact OE hu b d w;simp only at a;split at a;cases a;exact LH hu b d w;cases a
def Gx{c:Bool}{t:cI}{k:Ig}(b:eqT P c t=some k){x y:j5}{r:Bool}(a:xO k x y=some r)(w:cG):
   (Op.equal t (u7 ι x) (u7 ι y)).run P w=.ok r w:=OG b a 9999 Zs w
def aam{c:Bool}{t:cI}{k:Ig}(g:eqT P c t=some k)(e:k≠.prim .i)(f:k≠.prim .s){x y:j5}{r:Bool}(d:xO k x y=some r)(w:cG):
   (binOp .eql t (u7 ι x) (u7 ι y)).run P w=.ok (.bool r) w∧(binOp .neq t (u7 ι x) (u7 ι y)).run P w=.ok (.bool (!r)) w:=by
 refine aal ?_ (λw=>Gx g d w) w;cases k<;>first
  |(rename_i p;cases p<;>first
   |exact cj rfl e
   |exact cj rfl f
   |(obtain⟨a,b,rfl,rfl,rfl⟩:=mG d;simp))
  |(obtain⟨l,rfl,_⟩:=jV d;simp)
  |(cases x<;>cases y<;>simp[xO,xW,iR,QC,IK,kI]at d ⊢)
def sW(d:Nat)(e:cI)(X Y:Array Value):cR->Sem Bool
 |[]=>pure true
 |i::l=>do
  if !(← Op.equalIn d e (← part e X (i*1)) (← part e Y (i*1)))then return false
  sW d e X Y l
def Uj(d:Nat)(e:cI)(X Y:Array Value)(l:cR):
   (do
    let s ← forIn l ((none,()):Option Bool×Unit) λi _=>do
        let a ← part e X (i*1)
        let b ← part e Y (i*1)
        let r ← Op.equalIn d e a b
        if(!r)=true then pure (ForInStep.done (some false,()))else pure (ForInStep.yield (none,()))
    match s.fst with
    |some r=>pure r
    |none=>pure true:Sem Bool)=sW d e X Y l:=by
 induction l with
 |nil=>simp[sW]
 |cons f l ih=>rw[axe];simp only[sW];rw[← ih];simp only[bind_assoc];congr 1;funext a;congr 1;funext b;congr 1;funext r;cases r<;>simp
def LJ{t e:cI}{k:Nat}(h:P.underlying t=some (.array k e))(hs:gV P e=some 1)(X Y:Array Value)(d:Nat)(w:cG):
   (Op.equalIn (d+1) t (.agg X) (.agg Y)).run P w=(sW d e X Y (List.range k)).run P w:=by
 simp only[Op.equalIn,wu,cC h,nM,run_sizeOf hs];rw[Std.Legacy.Range.forIn_eq_forIn_range'];rw[← Uj,axc];simp;congr 1;funext a w';let⟨o,u⟩:=a;cases o<;>rfl
def Yn{e:cI}{kk:cJ}(m:P.underlying e=some (.int kk))(hs:gV P e=some 1)(a b:cM)(d:Nat)(w:cG):∀(j off:Nat) (r:Bool),
   gu (List.replicate j .i) (a.drop off) (b.drop off)=some r->(sW (d+1) e (A9 ι a).toArray (A9 ι b).toArray (List.range' off j)).run P w=.ok r w:=by
 intro j;induction j with
 |zero=>intro off r h;rw[List.replicate_zero,oH]at h;cases h;simp[sW]
 |succ j ih=>
  intro off r h;rw[List.replicate_succ]at h;let⟨x,xs,y,ys,s,k,l,p,c⟩:=mI h;have t:off<a.length:=by have:=ci List.length k;simp at this;omega
  have u:off<b.length:=by have:=ci List.length l;simp at this;omega
  have f:=yT (P:=P) (ι:=ι) (Jl m) hs a off (λ_=>⟨t,rfl⟩) w;have g:=yT (P:=P) (ι:=ι) (Jl m) hs b off (λ_=>⟨u,rfl⟩) w;rw[k]at f;rw[l]at g;have f:(part e (A9 ι a).toArray off).run P w=.ok (u7 ι x) w:=f;have g:(part e (A9 ι b).toArray off).run P w=.ok (u7 ι y) w:=g;have q:=yU (ι:=ι) m p d w;rw[List.range'_succ];simp only[sW,ahk,wu,f,g,q,nM];cases s with
  |false=>have c:some false=some r:=c;cases c;simp
  |true=>
   have c:gu (List.replicate j .i) xs ys=some r:=c;simp only[axr,agY,if_false];refine ih (off+1) r ?_;have n:a.drop (off+1)=xs:=by rw[← ajs,k];rfl
   have o:b.drop (off+1)=ys:=by rw[← ajs,l];rfl
   rw[n,o];exact c
def Fb{t:cI}{k:Ig}(h:adt P t=some k):∃n e kk,P.underlying t=some (.array n e)∧P.underlying e=some (.int kk)∧gV P e=some 1∧P.eqGuardType P.depth t=false∧k=.flat (List.replicate n .i):=by unfold adt at h;split at h;rename_i n e c;split at h;rename_i kk b;split at h;rename_i a;cases h;exact⟨n,e,kk,c,b,a.1,a.2,rfl⟩;cases h;cases h;cases h
def BS{c:Bool}{t:cI}{k:Ig}(h:aag P c t=some k):eqT P c t=some k∨adt P t=some k:=by unfold aag at h;split at h;rename_i b a;cases h;exact .inl a;exact .inr h
def Yo{c:Bool}{t:cI}{k:Ig}(a:aag P c t=some k)(b:k≠.prim .i)(d:k≠.prim .s){x y:j5}{r:Bool}(g:xO k x y=some r)(w:cG):
   (binOp .eql t (u7 ι x) (u7 ι y)).run P w=.ok (.bool r) w∧(binOp .neq t (u7 ι x) (u7 ι y)).run P w=.ok (.bool (!r)) w:=by
 rcases BS a with a|a;exact aam a b d g w;obtain⟨n,e,q,p,f,h,_,rfl⟩:=Fb a;obtain⟨l,rfl,j⟩:=jV g;obtain⟨m,rfl,o⟩:=jV j;refine aal ZZ (λw=>?_) w;have:Op.equal t (u7 ι (.agg l)) (u7 ι (.agg m))=Op.equalIn (9999+1) t (.agg (A9 ι l).toArray) (.agg (A9 ι m).toArray):=by simp[u7,Op.equal,Op.maxDepth]
 rw[this,LJ p h,axc];exact Yn f h l m 9998 w n 0 r (by simpa using o)
end
end
end Go.AM
