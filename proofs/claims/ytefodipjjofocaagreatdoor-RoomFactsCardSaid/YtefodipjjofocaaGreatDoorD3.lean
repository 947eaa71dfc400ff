/- The row of RoomFacts, lifted from its walk; conditions: the row's own. -/
import Derived.Test.YtefodipjjofocaaGreatDoorD2
import Derived.Test.YtefodipjjofocaaGreatDoorC6
import Derived.OpenShut
import Derived.Test.YtefodipjjofocaaGreatDoorRows
import Derived.ProofKit
import Derived.LaidMore
import Derived.ChangeSame
import Derived.Carry
import Derived.Below
import Derived.Stop.Joined
set_option linter.unusedSimpArgs false
set_option linter.unusedVariables false
namespace Go.Proofs.YtefodipjjofocaaGreatDoor.TT
open Go Go.AM
theorem Ev {P:Program}{f:FuncId}{sf:SFn}(h:I8 P f sf)(b:Bool):I8 P f {sf with pure:=b}:=
 ⟨h.ok,h.is⟩
theorem PX:∀f args bs a,KW.sum f args bs=some a→qz Tryz.prog base f args bs a:=by
 have h:∀s∈[qS],qz Tryz.prog base s.f s.args s.bs s.a:=fun s hs=>by
  rcases List.mem_singleton.1 hs with rfl
  exact qoS
 exact mJ [qS] h
theorem aqT:KOk Tryz.prog KW:=by
 refine⟨mixed,fun f sf h=>?_,⟨gbs,xV⟩,PX⟩
 have h:(fns f).map (fun sf=>{sf with pure:=Nat.beq f 8})=some sf:=h
 cases hf:fns f with
 | none=>rw [hf] at h;cases h
 | some s0=>
  rw [hf] at h
  cases h
  exact Ev (Ir f s0 hf) _
end Go.Proofs.YtefodipjjofocaaGreatDoor.TT
namespace Go.Proofs.YtefodipjjofocaaGreatDoor.TT
open Go Go.AM
set_option linter.unusedSimpArgs false
set_option linter.unusedVariables false
set_option maxRecDepth 100000
theorem p22:rH Tryz.prog 7 22=true:=by kernel_rfl
theorem p41:rH Tryz.prog 6 41=true:=by kernel_rfl
variable {H:Type}{enc:TypeId×Value→H}{held:Bool}
theorem Gt {ι:Inj}{m:Mem}{w:World}(hm:RM Tryz.prog base ι m w.heap)(hl:m.lim=m.next){n1 n2 n3:Nat}{cs1 cs2 cs3:List Value}{x1 x2 x3:DataW H×List MemPlace}
  (h1:DataW.trod enc Tryz.prog w 0 (fun _=>true) held n1 22 cs1=some x1) (h2:DataW.trod enc Tryz.prog w 0 (fun _=>true) held n2 41 cs2=some x2) (h3:DataW.trod enc Tryz.prog w 0 (fun _=>true) held n3 41 cs3=some x3):
  ∃v1,cs1=[v1]∧cs2.length=32∧cs3.length=32∧Calls Tryz.prog 3 #[v1,.agg cs2.toArray,.agg cs3.toArray] w fun e w'=>e=.returned (.bool true)∧w.heap.size≤w'.heap.size∧(∀b,b < w.heap.size→w'.heap[b]?=w.heap[b]?)∧w'.os=w.os∧w'.output=w.output∧w'.tape=w.tape:=by
 obtain⟨ι1,m1,vs1,L1,c1,l1,S1⟩:=lift 7 _ _ _ _ h1 p22 ι m hm hl
 obtain⟨ι2,m2,vs2,L2,c2,l2,S2⟩:=lift 6 _ _ _ _ h2 p41 ι1 m1 L1.rm L1.lim
 obtain⟨ι3,m3,vs3,L3,c3,l3,S3⟩:=lift 6 _ _ _ _ h3 p41 ι2 m2 L2.rm L2.lim
 have L23:=L2.trans L3
 have S1':=lH (P:=Tryz.prog) L23.get _ _ _ S1
 have S2':=lH (P:=Tryz.prog) L3.get _ _ _ S2
 have hk:m3.Ok:=L3.rm.ok
 obtain⟨v,fs,rfl,hv,hw⟩:=Gs hk (n:=0) S1'
 obtain⟨rf,rfl,hf⟩:=tV hk (n:=0) S2'
 obtain⟨rg,rfl,hg⟩:=tV hk (n:=0) S3
 obtain⟨m4,g,E⟩:=ahj hk (Nat.le_of_eq L3.lim) hv hw hf hg 0 1000 (Nat.le_refl _)
 have k1:G8 ι3 [v]=cs1:=by rw [L23.G5 l1];exact c1
 have k2:G8 ι3 rf.f.cells=cs2:=by rw [L3.G5 l2];exact c2
 have k3:G8 ι3 rg.f.cells=cs3:=c3
 have q1:=L23.lt l1
 have q2:=L3.lt l2
 refine⟨G5 ι3 v,by rw [← k1];simp [G8],by rw [← k2];rfl,by rw [← k3];rfl,?_⟩
 have hargs:ltL (m3.nm ι3) [v,.agg rf.f.cells,.agg rg.f.cells]:=by
  refine⟨q1.1,?_,?_,trivial⟩
  ·simpa [l8.lt] using q2
  ·simpa [l8.lt] using l3
 have hc:=((vS aqT 1000 13).func g).2 L3.rm hargs
 have he:(G8 ι3 [v,.agg rf.f.cells,.agg rg.f.cells]).toArray=#[G5 ι3 v,.agg cs2.toArray,.agg cs3.toArray]:=by
  simp [G8,G5,k2,k3]
 rw [he] at hc
 refine callsIn_wide.1 (hc.mono ?_)
 rintro e w' (⟨u,rfl,r,hr,ι4,hst,hlt,rfl⟩ | ⟨r,hr,x,ι4,hx,_⟩)
 ·obtain rfl:=List.mem_singleton.1 hr
  refine⟨by simp [G5],hst.size,fun b hb=>hst.frame b hb ?_,hst.os,hst.out,hst.tape⟩
  rintro⟨i,x,hi,hx,_,_⟩
  have:=Mem.K6 hk hx
  have:=L3.lim
  omega
 ·obtain rfl:=List.mem_singleton.1 hr
  cases hx
end Go.Proofs.YtefodipjjofocaaGreatDoor.TT
namespace Go.Proofs.YtefodipjjofocaaGreatDoor.TT
open Go Go.AM
set_option linter.unusedSimpArgs false
set_option linter.unusedVariables false
set_option maxRecDepth 100000
theorem zU (n:Nm)(k:IntKind):∀l:List Int,ltL n (l.map (l8.int k))
 | []=>trivial
 | _ :: l=>⟨trivial,zU n k l⟩
theorem ze {P:Program}{ι:Inj}{n:Nm}{h:Array Obj}{l:AM.Loc}{k:IntKind}{ns:List Int}{c:Array Value}
  (hb:∃e fz,h[l.b]?=some (Obj.cells c e fz)) (h0:l.base=0) (hc:l.cap=ns.length) (hr:c.toList=ns.map (Value.int k)):
  bO P ι n h l (.cells ns.length 1 (T.ofList [ns.map (l8.int k)])):=by
 obtain⟨e,fz,hb⟩:=hb
 have hs:c.size=ns.length:=by rw [← Array.length_toList,hr,List.length_map]
 refine⟨c,e,fz,hb,by omega,⟨by omega,1,Nat.le_refl _,T.fK [_]⟩,fun i hi=>?_⟩
 obtain rfl:i=0:=by omega
 refine⟨_,rfl,by simp,zU _ _ _,fun j hj=>?_⟩
 rw [h0,Nat.zero_mul,Nat.zero_add,Nat.zero_add,← Array.getElem?_toList,hr]
 have hf:(G5 ι∘l8.int k)=Value.int k:=funext fun x=>by simp [G5]
 simp [List.getElem?_map,hf]
theorem tX {H:Type}{enc:TypeId×Value→H}{held:Bool}{spare:Nat→Bool}{w:World}{P:Program}{t e:TypeId}{n:Nat}{k:IntKind}{cs:List Value}{fuel:Nat}{ns:List Int}{q:List MemPlace}
  (ht:P.underlying t=some (.array n e)) (he:P.underlying e=some (.int k)) (hc:P.cellsOf e=1) (hct:P.cellsOf t=n) (hn:ns.length=n)
  (h:DataW.trod enc P w 0 spare held fuel t cs=some (.agg (ns.map fun x=>.lit (.int k x)),q)):cs=ns.map (Value.int k):=by
 obtain⟨xs,m,rfl,hx,hlen,hxn,hel⟩:=DataW.trod_array ht h
 simp only [Prod.mk.injEq,DataW.agg.injEq] at hx
 refine List.ext_getElem (by simp;omega) fun i h1 h2=>?_
 have hi:i < n:=by omega
 have h3:=hel i hi
 rw [hc,Nat.mul_one,List.getElem?_eq_getElem (by omega)] at h3
 obtain⟨r,e1,e2,_⟩:=DataW.trod_int he h3
 have h4:cs[i]=.int k r:=by
  have:(cs.drop i).take 1=[cs[i]]:=by rw [List.drop_eq_getElem_cons h1];rfl
  rw [this] at e1
  exact List.cons.inj e1 |>.1
 have h5:(xs.map (·.1))[i]?=some (.lit (.int k ns[i])):=by
  rw [← hx.1,List.getElem?_map,List.getElem?_eq_getElem (by omega)];rfl
 rw [List.getElem?_map,List.getElem?_eq_getElem (by omega),e2] at h5
 simp at h5
 rw [h4,List.getElem_map,h5]
def ns0:List Int:=[1,10,100,1000,10000,100000,1000000,10000000,100000000,1000000000,10000000000,100000000000,1000000000000,10000000000000,100000000000000,1000000000000000,10000000000000000,100000000000000000,1000000000000000000,10000000000000000000]
def ns3:List Int:=[0,1,28,2,29,14,24,3,30,22,20,15,25,17,4,8,31,27,13,23,21,19,16,7,26,12,18,6,11,5,10,9]
def ns4:List Int:=[0,1,56,2,57,49,28,3,61,58,42,50,38,29,17,4,62,47,59,36,45,43,51,22,53,39,33,30,24,18,12,5,63,55,48,27,60,41,37,16,46,35,44,21,52,32,23,11,54,26,40,15,34,20,31,10,25,14,19,9,13,8,7,6]
def aaU:Inj:=fun i=>⟨i,0,if i=0 then 20 else if i=3 then 32 else if i=4 then 64 else 0,none⟩
theorem globals_size:Tryz.prog.globals.size=5:=by kernel_rfl
theorem PY {h:Array Obj}{x0 x3 x4:Array Value}(b0:∃e fz,h[0]?=some (Obj.cells x0 e fz))(b3:∃e fz,h[3]?=some (Obj.cells x3 e fz))(b4:∃e fz,h[4]?=some (Obj.cells x4 e fz))
  (r0:x0.toList=ns0.map (Value.int .u64)) (r3:x3.toList=ns3.map (Value.int .u8)) (r4:x4.toList=ns4.map (Value.int .u8)):RM Tryz.prog base aaU (Y3 base []) h:=by
 have hn:base.next=5:=rfl
 have hg:∀i,(Y3 base []).get i=base.get i:=fun i=>rfl
 have hok:T.Ok base.t base.next:=xV.ok
 have g0:base.get 0=some (.cells ns0.length 1 (T.ofList [ns0.map (l8.int .u64)])):=rfl
 have g1:base.get 1=some .dead:=rfl
 have g2:base.get 2=some .dead:=rfl
 have g3:base.get 3=some (.cells ns3.length 1 (T.ofList [ns3.map (l8.int .u8)])):=rfl
 have g4:base.get 4=some (.cells ns4.length 1 (T.ofList [ns4.map (l8.int .u8)])):=rfl
 refine⟨hok,fun i b hb=>?_,fun i b hi hb=>?_,Nat.le_refl _,Nat.le_refl _,by rw [globals_size,hn];exact Nat.le_refl _,fun i hi=>rfl,fun i hi=>?_,fun i hi=>⟨rfl,rfl,rfl⟩,fun i b hb _=>rfl⟩
 ·have hb:base.get i=some b:=hb
  have hi:i < 5:=Mem.K6 hok hb
  match i,hi with
  | 0,_=>rw [g0] at hb;cases hb;exact ze b0 rfl rfl r0
  | 1,_=>rw [g1] at hb;cases hb;trivial
  | 2,_=>rw [g2] at hb;cases hb;trivial
  | 3,_=>rw [g3] at hb;cases hb;exact ze b3 rfl rfl r3
  | 4,_=>rw [g4] at hb;cases hb;exact ze b4 rfl rfl r4
 ·have hb:base.get i=some b:=hb
  have h1:i < 5:=Mem.K6 hok hb
  have h2:base.next≤i:=hi
  rw [hn] at h2;omega
 ·rw [globals_size] at hi
  match i,hi with
  | 0,_=>exact⟨_,g0,rfl⟩
  | 1,_=>exact⟨_,g1,rfl⟩
  | 2,_=>exact⟨_,g2,rfl⟩
  | 3,_=>exact⟨_,g3,rfl⟩
  | 4,_=>exact⟨_,g4,rfl⟩
end Go.Proofs.YtefodipjjofocaaGreatDoor.TT
namespace Go.Proofs.YtefodipjjofocaaGreatDoor.TT
open Go Go.AM
set_option maxRecDepth 100000
theorem n0:Tryz.prog.globalNamed "internal/strconv.uint64pow10"=some 0:=by kernel_rfl
theorem n3:Tryz.prog.globalNamed "math/bits.deBruijn32tab"=some 3:=by kernel_rfl
theorem n4:Tryz.prog.globalNamed "math/bits.deBruijn64tab"=some 4:=by kernel_rfl
theorem yv0:(Tryz.prog.globals[0]?).map (·.type)=some 456:=by kernel_rfl
theorem yv3:(Tryz.prog.globals[3]?).map (·.type)=some 474:=by kernel_rfl
theorem yv4:(Tryz.prog.globals[4]?).map (·.type)=some 475:=by kernel_rfl
theorem z0:Tryz.prog.underlying 456=some (.array 20 282):=by kernel_rfl
theorem z3:Tryz.prog.underlying 474=some (.array 32 5):=by kernel_rfl
theorem z4:Tryz.prog.underlying 475=some (.array 64 5):=by kernel_rfl
theorem z5:Tryz.prog.underlying 5=some (.int .u8):=by kernel_rfl
theorem aK3:Tryz.prog.underlying 282=some (.int .u64):=by kernel_rfl
theorem tY {P:Program}{W:World}{n:String}{g:Nat}{cs:Array Value}(hn:P.globalNamed n=some g)(h:W.var? P n=some cs):∃e fz,W.heap[g]?=some (Obj.cells cs e fz):=by
 unfold World.var? at h
 rw [hn] at h
 simp only [Option.bind_some] at h
 split at h
 ·rename_i c e fz hh
  cases h
  exact⟨e,fz,hh⟩
 ·cases h
theorem PZ {W:World}(h:laidMetH Tryz.prog Rows.roomFactsRow.laid W):RM Tryz.prog base aaU (Y3 base []) W.heap:=by
 rw [MakeChecks.laidMetH_plain _ _ _ (by kernel_rfl)] at h
 obtain⟨ps,⟨g0,t0,cs0,f0,p0,q0,hg0,ht0,hv0,hd0,⟨g1,t1,cs1,f1,p1,q1,hg1,ht1,hv1,hd1,⟨g2,t2,cs2,f2,p2,q2,hg2,ht2,hv2,hd2,_,_⟩,_⟩,_⟩,_,_⟩:=h
 obtain rfl:=Option.some.inj (n3.symm.trans hg0)
 obtain rfl:=Option.some.inj (n4.symm.trans hg1)
 obtain rfl:=Option.some.inj (n0.symm.trans hg2)
 obtain rfl:=Option.some.inj (yv3.symm.trans ht0)
 obtain rfl:=Option.some.inj (yv4.symm.trans ht1)
 obtain rfl:=Option.some.inj (yv0.symm.trans ht2)
 exact PY (tY n0 hv2) (tY n3 hv0) (tY n4 hv1)
  (tX (ns:=ns0) z0 aK3 (by kernel_rfl) (by kernel_rfl) rfl hd2)
  (tX (ns:=ns3) z3 z5 (by kernel_rfl) (by kernel_rfl) rfl hd0)
  (tX (ns:=ns4) z4 z5 (by kernel_rfl) (by kernel_rfl) rfl hd1)
end Go.Proofs.YtefodipjjofocaaGreatDoor.TT
namespace Go.Proofs.YtefodipjjofocaaGreatDoor.TT
open Go Go.AM Go.ChangeShapes Go.WideShapes Go.ChangeAt Go.RowKit
set_option maxRecDepth 100000
theorem laidOut:laidOutB Tryz.prog=true:=by kernel_rfl
theorem aaV:Tryz.prog.readableRec 22=true:=by kernel_rfl
theorem Jh:Tryz.prog.readableRec 41=true:=by kernel_rfl
theorem Ji {v:Value}(h:v.cells.size≠1):v=.agg v.cells:=by
 cases v <;> simp_all [Value.cells]
theorem zf {H:Type}{enc:TypeId×Value→H}{P:Program}{f:Func}{s:ChangeSpec}{apart fresh handsOn again:Bool}{W W':World}{args:Array Value}{v:Value}{ds gs:List (DataW H)}{before pa pv:List MemPlace}
  (hW:DataW.Whole enc P f.params.toList s.vars apart W args.toList ds gs before)
  (hres:∀(b:Nat) (sp:Nat→Bool) (hd:Bool),DataW.TrodAll enc P W' b sp hd f.resultTypes.toList (v.resultList f.resultTypes.size) (s.fn H (ds ++ gs)).results [])
  (hargs:∀sp:Nat→Bool,(∀p∈before,sp p.block=true)→DataW.TrodAll enc P W' 0 sp true f.params.toList args.toList (s.fn H (ds ++ gs)).args pa)
  (hvars:∀sp:Nat→Bool,(∀p∈before,sp p.block=true)→DataW.TrodVars enc P W' sp s.vars (s.fn H (ds ++ gs)).vars pv)
  (hps:before=pa ++ pv) (hk:W.keptBut W' (·∈before)) (hfz:∀a,a.block < W.heap.size→W'.frozen? a=W.frozen? a)
  (hok:∀(j:Nat) (t:TypeId) (r:Value),f.resultTypes[j]?=some t→(v.resultList f.resultTypes.size)[j]?=some r→Value.okWide P W' .any 0 t r):
  s.post enc P f apart fresh handsOn again W args v W':=by
 have hold:∀p∈before,(fun b=>decide (b < W.heap.size)) p.block=true:=fun p hp=>by simpa using hW.lt p hp
 have hlt:=hW.lt
 refine⟨ds,gs,before,[],pa,pv,hW,hres _ _ _,hargs _ hold,hvars _ hold,World.keptBut_mono (fun p hp=>⟨hp,?_⟩) hk,fun _=>?_⟩
 ·rw [hps,List.mem_append] at hp
  exact Or.inr hp
 ·obtain⟨_,_,_,_,_,hz,hn⟩:=hW
  refine⟨hok,_,_,([] ++ pa) ++ pv,⟨[] ++ pa,pv,trodAll_append (hargs _ (fun _ _=>rfl)) (hres _ _ _),hvars _ (fun _ _=>rfl),rfl,?_,?_⟩,?_⟩
  ·intro b off hp
   have hb:MemPlace.cell b off∈before:=by rw [hps];simpa using hp
   rw [hfz _ (hlt _ hb)]
   exact hz b off hb
  ·intro ha
   have:=hn ha
   rw [hps] at this
   simpa using this
  ·intro p hp _
   rw [hps]
   simpa using hp
end Go.Proofs.YtefodipjjofocaaGreatDoor.TT
namespace Go.Proofs.YtefodipjjofocaaGreatDoor.TT
open Go Go.AM Go.ChangeShapes Go.WideShapes Go.ChangeAt Go.RowKit
set_option maxRecDepth 100000
theorem Gu (os:Os)(args:Array Value):laidMetH Tryz.prog Rows.roomFactsRow.laid ((World.doorLaid Tryz.prog 400 os).forCall (fun _ _=>0) ⟨#[],args,[]⟩).memory:=
 laidMetH_of_parts3 (fuel:=8) (laidMet_of_run' 8 (by kernel_rfl) (by kernel_rfl)) (by kernel_rfl) (by kernel_rfl)
end Go.Proofs.YtefodipjjofocaaGreatDoor.TT
namespace Go.Proofs.YtefodipjjofocaaGreatDoor.TT
open Go Go.AM Go.ChangeShapes Go.WideShapes Go.ChangeAt Go.RowKit
set_option maxRecDepth 100000
theorem own:ownKnob Tryz.prog.godebug=none:=by kernel_rfl
theorem aK4:22 < Tryz.prog.types.size:=of_decide_eq_true (by kernel_rfl)
theorem atu:41 < Tryz.prog.types.size:=of_decide_eq_true (by kernel_rfl)
theorem lifted (os:Os)(started:os.Started)(H:Type)(enc:TypeId×Value→H):
  ReturnsInHanded {} Tryz.checked os 3 .any (fun w args=>(Rows.roomFactsSpec.pre enc Tryz.prog Tryz.f3 [] false w args∧laidMetH Tryz.prog Rows.roomFactsRow.laid w)∧sizedMet enc Tryz.prog Tryz.f3 (OpenSpec.ofChange Rows.roomFactsSpec) false w args)
   (Rows.roomFactsSpec.post enc Tryz.prog Tryz.f3 false true false false):=by
 refine returnsInHanded_of_change_and (C:=Tryz.checked) (X:=fun w _=>laidMetH Tryz.prog Rows.roomFactsRow.laid w) (fun _ _ _ hh h=>h.of_heap hh) own started (by kernel_rfl) Tryz.func3
  (ChangeSpec.witness_shaped (enc:=enc) (C:=Tryz.checked) (os:=os) (X:=fun w _=>laidMetH Tryz.prog Rows.roomFactsRow.laid w) false (World.doorLaid Tryz.prog 400 os) #[.slice none 0 0,.agg #[.int .i64 0,.int .i64 0,.int .i64 0,.int .i64 0,.int .i64 0,.int .i64 0,.int .i64 0,.int .i64 0,.int .i64 0,.int .i64 0,.int .i64 0,.int .i64 0,.int .i64 0,.int .i64 0,.int .i64 0,.int .i64 0,.int .i64 0,.int .i64 0,.int .i64 0,.int .i64 0,.int .i64 0,.int .i64 0,.slice none 0 0,.slice none 0 0,.int .i64 0,.int .i64 0,.int .i64 0,.int .i64 0,.int .i64 0,.slice none 0 0,.int .i64 0,.int .i64 0],.agg #[.int .i64 0,.int .i64 0,.int .i64 0,.int .i64 0,.int .i64 0,.int .i64 0,.int .i64 0,.int .i64 0,.int .i64 0,.int .i64 0,.int .i64 0,.int .i64 0,.int .i64 0,.int .i64 0,.int .i64 0,.int .i64 0,.int .i64 0,.int .i64 0,.int .i64 0,.int .i64 0,.int .i64 0,.int .i64 0,.slice none 0 0,.slice none 0 0,.int .i64 0,.int .i64 0,.int .i64 0,.int .i64 0,.int .i64 0,.slice none 0 0,.int .i64 0,.int .i64 0]] 8 rfl (World.shaped_of_RefB (by kernel_rfl) (by kernel_rfl)) (by kernel_rfl) (by kernel_rfl) (by kernel_rfl) (Gu os _)) ?_
 intro W base args ds gs before hval0 hW _ _ hL _
 have hval:∀(j:Nat) t v,Tryz.f3.params[j]?=some t→args[j]?=some v→Value.okWide Tryz.prog W .any base t v:=hval0
 have hW':=hW
 obtain⟨p,q,hA0,hV,rfl,hfz,hnd⟩:=hW
 have hA:DataW.TrodAll enc Tryz.prog W 0 (fun _=>true) true Tryz.f3.params.toList args.toList ds p:=hA0
 rw [Tryz.params3] at hA hval
 obtain⟨v0,v1,v2,d0,d1,d2,p0,p1,p2,rfl,rfl,rfl,h0,h1,h2⟩:=trodAll_three hA
 obtain⟨rfl,rfl⟩:=trodVars_none hV
 obtain⟨a,len,cap,rfl⟩:=okWide_slice Tryz.underlying22 (hval 0 22 v0 rfl rfl)
 have hm:=PZ hL
 obtain⟨f0,t0⟩:=id h0
 obtain⟨f1,t1⟩:=id h1
 obtain⟨f2,t2⟩:=id h2
 obtain⟨u,hu,l1,l2,hc⟩:=Gt hm rfl t0 t1 t2
 have hu:u=.slice a len cap:=by have:=hu;simp [Value.cells] at this;exact this.symm
 have e1:v1=.agg v1.cells:=Ji (by rw [← Array.length_toList,l1];decide)
 have e2:v2=.agg v2.cells:=Ji (by rw [← Array.length_toList,l2];decide)
 have hc2:(#[u,.agg v1.cells.toList.toArray,.agg v2.cells.toList.toArray]:Array Value)=#[.slice a len cap,v1,v2]:=by
  rw [hu,Array.toArray_toList,Array.toArray_toList,← e1,← e2]
 rw [hc2] at hc
 refine hc.mono fun e W' ⟨he,h3,h4,h5,h6,h7⟩=>?_
 subst he
 have hb:Below W.heap.size W W':=⟨h5,h7,h6,h3,h4⟩
 refine⟨_,rfl,?_⟩
 simp only [List.append_nil] at hW'
 have lt:=hW'.lt
 have hk:∀may,W.keptBut W' may:=fun may=>by
  refine⟨h5,h6,fun i hi=>?_⟩
  have:=(World.keptBut_refl W may).2.2 i hi
  rw [h4 i hi]
  exact this
 have m0:∀x,x∈p0→x∈p0 ++ p1 ++ p2:=fun x hx=>by simp [hx]
 have m1:∀x,x∈p1→x∈p0 ++ p1 ++ p2:=fun x hx=>by simp [hx]
 have m2:∀x,x∈p2→x∈p0 ++ p1 ++ p2:=fun x hx=>by simp [hx]
 refine zf (pa:=p0 ++ p1 ++ p2) (pv:=[]) hW' (fun _ _ _=>trodAll_mk1 (shut_bool Tryz.underlying4 _)) (fun sp hsp=>?_) (fun _ _=>rfl) (by simp) (hk _) (fun x hx=>by unfold World.frozen?;rw [h4 _ hx]) (ok_one (by kernel_rfl) rfl (okWide_bool_mk Tryz.underlying4 _))
 rw [Tryz.params3]
 exact⟨p0,p1 ++ p2,WideElems.Trod_stays laidOut aaV aK4 h0 (fun x hx=>hb.same (lt x (m0 x hx))) (fun x hx=>hsp x (m0 x hx)),
  ⟨p1,p2,WideElems.Trod_stays laidOut Jh atu h1 (fun x hx=>hb.same (lt x (m1 x hx))) (fun x hx=>hsp x (m1 x hx)),
   ⟨p2,[],WideElems.Trod_stays laidOut Jh atu h2 (fun x hx=>hb.same (lt x (m2 x hx))) (fun x hx=>hsp x (m2 x hx)),rfl,by simp⟩,rfl⟩,by simp⟩
end Go.Proofs.YtefodipjjofocaaGreatDoor.TT
