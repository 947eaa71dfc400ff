/- The row of RoomMerges, lifted from its walk; conditions: the row's own. -/
import Derived.Test.YtefodipjjofocaaGreatDoorMD5
import Derived.Test.YtefodipjjofocaaGreatDoorMC6
import Derived.OpenShut
import Derived.Test.YtefodipjjofocaaGreatDoorRows
import Derived.ProofKit
import Derived.LaidMore
import Derived.ChangeSame
import Derived.Carry
import Derived.Below
import Derived.Stop.Joined
set_option linter.unusedSimpArgs false
set_option linter.unusedVariables false
namespace Go.Proofs.YtefodipjjofocaaGreatDoor.TT
open Go Go.AM
theorem IC {P:Program}{f:FuncId}{sf:SFn}(h:J6 P f sf)(b:Bool):J6 P f {sf with pure:=b}:=
 ⟨h.ok,h.is⟩
theorem TP:∀f args bs a,KW.sum f args bs=some a→sG Tryz.prog base f args bs a:=by
 have h:∀s∈[qS],sG Tryz.prog base s.f s.args s.bs s.a:=fun s hs=>by
  rcases List.mem_singleton.1 hs with rfl
  exact qoS
 exact nV [qS] h
theorem atT:KOk Tryz.prog KW:=by
 refine⟨mixed,fun f sf h=>?_,⟨gbs,AZ⟩,TP⟩
 have h:(fns f).map (fun sf=>{sf with pure:=Nat.beq f 8})=some sf:=h
 cases hf:fns f with
 | none=>rw [hf] at h;cases h
 | some s0=>
  rw [hf] at h
  cases h
  exact IC (LY f s0 hf) _
end Go.Proofs.YtefodipjjofocaaGreatDoor.TT
namespace Go.Proofs.YtefodipjjofocaaGreatDoor.TT
open Go Go.AM
set_option linter.unusedSimpArgs false
set_option linter.unusedVariables false
set_option maxRecDepth 100000
theorem p22:zf Tryz.prog 7 22=true:=by kernel_rfl
variable {H:Type}{enc:TypeId×Value→H}{held:Bool}
end Go.Proofs.YtefodipjjofocaaGreatDoor.TT
namespace Go.Proofs.YtefodipjjofocaaGreatDoor.TT
open Go Go.AM
set_option linter.unusedSimpArgs false
set_option linter.unusedVariables false
set_option maxRecDepth 100000
theorem Cw (n:Nm)(k:IntKind):∀l:List Int,ltL n (l.map (o8.int k))
 | []=>trivial
 | _::l=>⟨trivial,Cw n k l⟩
theorem Bp {P:Program}{ι:Inj}{n:Nm}{h:Array Obj}{l:AM.Loc}{k:IntKind}{ns:List Int}{c:Array Value}
  (hb:∃e fz,h[l.b]?=some (Obj.cells c e fz)) (h0:l.base=0) (hc:l.cap=ns.length) (hr:c.toList=ns.map (Value.int k)):
  dM P ι n h l (.cells ns.length 1 (T.ofList [ns.map (o8.int k)])):=by
 obtain⟨e,fz,hb⟩:=hb
 have hs:c.size=ns.length:=by rw [← Array.length_toList,hr,List.length_map]
 refine⟨c,e,fz,hb,by omega,⟨by omega,1,Nat.le_refl _,T.eB [_]⟩,fun i hi=>?_⟩
 obtain rfl:i=0:=by omega
 refine⟨_,rfl,by simp,Cw _ _ _,fun j hj=>?_⟩
 rw [h0,Nat.zero_mul,Nat.zero_add,Nat.zero_add,← Array.getElem?_toList,hr]
 have hf:(I4 ι∘o8.int k)=Value.int k:=funext fun x=>by simp [I4]
 simp [List.getElem?_map,hf]
theorem vV {H:Type}{enc:TypeId×Value→H}{held:Bool}{spare:Nat→Bool}{w:World}{P:Program}{t e:TypeId}{n:Nat}{k:IntKind}{cs:List Value}{fuel:Nat}{ns:List Int}{q:List MemPlace}
  (ht:P.underlying t=some (.array n e)) (he:P.underlying e=some (.int k)) (hc:P.cellsOf e=1) (hct:P.cellsOf t=n) (hn:ns.length=n)
  (h:DataW.trod enc P w 0 spare held fuel t cs=some (.agg (ns.map fun x=>.lit (.int k x)),q)):cs=ns.map (Value.int k):=by
 obtain⟨xs,m,rfl,hx,hlen,hxn,hel⟩:=DataW.trod_array ht h
 simp only [Prod.mk.injEq,DataW.agg.injEq] at hx
 refine List.ext_getElem (by simp;omega) fun i h1 h2=>?_
 have hi:i<n:=by omega
 have h3:=hel i hi
 rw [hc,Nat.mul_one,List.getElem?_eq_getElem (by omega)] at h3
 obtain⟨r,e1,e2,_⟩:=DataW.trod_int he h3
 have h4:cs[i]=.int k r:=by
  have:(cs.drop i).take 1=[cs[i]]:=by rw [List.drop_eq_getElem_cons h1];rfl
  rw [this] at e1
  exact List.cons.inj e1 |>.1
 have h5:(xs.map (·.1))[i]?=some (.lit (.int k ns[i])):=by
  rw [← hx.1,List.getElem?_map,List.getElem?_eq_getElem (by omega)];rfl
 rw [List.getElem?_map,List.getElem?_eq_getElem (by omega),e2] at h5
 simp at h5
 rw [h4,List.getElem_map,h5]
def ns0:List Int:=[1,10,100,1000,10000,100000,1000000,10000000,100000000,1000000000,10000000000,100000000000,1000000000000,10000000000000,100000000000000,1000000000000000,10000000000000000,100000000000000000,1000000000000000000,10000000000000000000]
def ns3:List Int:=[0,1,28,2,29,14,24,3,30,22,20,15,25,17,4,8,31,27,13,23,21,19,16,7,26,12,18,6,11,5,10,9]
def ns4:List Int:=[0,1,56,2,57,49,28,3,61,58,42,50,38,29,17,4,62,47,59,36,45,43,51,22,53,39,33,30,24,18,12,5,63,55,48,27,60,41,37,16,46,35,44,21,52,32,23,11,54,26,40,15,34,20,31,10,25,14,19,9,13,8,7,6]
def TQ:Inj:=fun i=>⟨i,0,if i=0 then 20 else if i=3 then 32 else if i=4 then 64 else 0,none⟩
theorem globals_size:Tryz.prog.globals.size=5:=by kernel_rfl
theorem TR {h:Array Obj}{x0 x3 x4:Array Value}(b0:∃e fz,h[0]?=some (Obj.cells x0 e fz))(b3:∃e fz,h[3]?=some (Obj.cells x3 e fz))(b4:∃e fz,h[4]?=some (Obj.cells x4 e fz))
  (r0:x0.toList=ns0.map (Value.int .u64)) (r3:x3.toList=ns3.map (Value.int .u8)) (r4:x4.toList=ns4.map (Value.int .u8)):RM Tryz.prog base TQ (aG base []) h:=by
 have hn:base.next=5:=rfl
 have hg:∀i,(aG base []).get i=base.get i:=fun i=>rfl
 have hok:T.Ok base.t base.next:=AZ.ok
 have g0:base.get 0=some (.cells ns0.length 1 (T.ofList [ns0.map (o8.int .u64)])):=rfl
 have g1:base.get 1=some .dead:=rfl
 have g2:base.get 2=some .dead:=rfl
 have g3:base.get 3=some (.cells ns3.length 1 (T.ofList [ns3.map (o8.int .u8)])):=rfl
 have g4:base.get 4=some (.cells ns4.length 1 (T.ofList [ns4.map (o8.int .u8)])):=rfl
 refine⟨hok,fun i b hb=>?_,fun i b hi hb=>?_,Nat.le_refl _,Nat.le_refl _,by rw [globals_size,hn];exact Nat.le_refl _,fun i hi=>rfl,fun i hi=>?_,fun i hi=>⟨rfl,rfl,rfl⟩,fun i b hb _=>rfl⟩
 ·have hb:base.get i=some b:=hb
  have hi:i<5:=Mem.L9 hok hb
  match i,hi with
  | 0,_=>rw [g0] at hb;cases hb;exact Bp b0 rfl rfl r0
  | 1,_=>rw [g1] at hb;cases hb;trivial
  | 2,_=>rw [g2] at hb;cases hb;trivial
  | 3,_=>rw [g3] at hb;cases hb;exact Bp b3 rfl rfl r3
  | 4,_=>rw [g4] at hb;cases hb;exact Bp b4 rfl rfl r4
 ·have hb:base.get i=some b:=hb
  have h1:i<5:=Mem.L9 hok hb
  have h2:base.next≤i:=hi
  rw [hn] at h2;omega
 ·rw [globals_size] at hi
  match i,hi with
  | 0,_=>exact⟨_,g0,rfl⟩
  | 1,_=>exact⟨_,g1,rfl⟩
  | 2,_=>exact⟨_,g2,rfl⟩
  | 3,_=>exact⟨_,g3,rfl⟩
  | 4,_=>exact⟨_,g4,rfl⟩
end Go.Proofs.YtefodipjjofocaaGreatDoor.TT
namespace Go.Proofs.YtefodipjjofocaaGreatDoor.TT
open Go Go.AM
set_option maxRecDepth 100000
theorem n0:Tryz.prog.globalNamed "internal/strconv.uint64pow10"=some 0:=by kernel_rfl
theorem n3:Tryz.prog.globalNamed "math/bits.deBruijn32tab"=some 3:=by kernel_rfl
theorem n4:Tryz.prog.globalNamed "math/bits.deBruijn64tab"=some 4:=by kernel_rfl
theorem yv0:(Tryz.prog.globals[0]?).map (·.type)=some 456:=by kernel_rfl
theorem yv3:(Tryz.prog.globals[3]?).map (·.type)=some 474:=by kernel_rfl
theorem yv4:(Tryz.prog.globals[4]?).map (·.type)=some 475:=by kernel_rfl
theorem z0:Tryz.prog.underlying 456=some (.array 20 282):=by kernel_rfl
theorem z3:Tryz.prog.underlying 474=some (.array 32 5):=by kernel_rfl
theorem z4:Tryz.prog.underlying 475=some (.array 64 5):=by kernel_rfl
theorem z5:Tryz.prog.underlying 5=some (.int .u8):=by kernel_rfl
theorem aMM:Tryz.prog.underlying 282=some (.int .u64):=by kernel_rfl
theorem vW {P:Program}{W:World}{n:String}{g:Nat}{cs:Array Value}(hn:P.globalNamed n=some g)(h:W.var? P n=some cs):∃e fz,W.heap[g]?=some (Obj.cells cs e fz):=by
 unfold World.var? at h
 rw [hn] at h
 simp only [Option.bind_some] at h
 split at h
 ·rename_i c e fz hh
  cases h
  exact⟨e,fz,hh⟩
 ·cases h
theorem TS {W:World}(h:laidMetH Tryz.prog Rows.roomFactsRow.laid W):RM Tryz.prog base TQ (aG base []) W.heap:=by
 rw [MakeChecks.laidMetH_plain _ _ _ (by kernel_rfl)] at h
 obtain⟨ps,⟨g0,t0,cs0,f0,p0,q0,hg0,ht0,hv0,hd0,⟨g1,t1,cs1,f1,p1,q1,hg1,ht1,hv1,hd1,⟨g2,t2,cs2,f2,p2,q2,hg2,ht2,hv2,hd2,_,_⟩,_⟩,_⟩,_,_⟩:=h
 obtain rfl:=Option.some.inj (n3.symm.trans hg0)
 obtain rfl:=Option.some.inj (n4.symm.trans hg1)
 obtain rfl:=Option.some.inj (n0.symm.trans hg2)
 obtain rfl:=Option.some.inj (yv3.symm.trans ht0)
 obtain rfl:=Option.some.inj (yv4.symm.trans ht1)
 obtain rfl:=Option.some.inj (yv0.symm.trans ht2)
 exact TR (vW n0 hv2) (vW n3 hv0) (vW n4 hv1)
  (vV (ns:=ns0) z0 aMM (by kernel_rfl) (by kernel_rfl) rfl hd2)
  (vV (ns:=ns3) z3 z5 (by kernel_rfl) (by kernel_rfl) rfl hd0)
  (vV (ns:=ns4) z4 z5 (by kernel_rfl) (by kernel_rfl) rfl hd1)
end Go.Proofs.YtefodipjjofocaaGreatDoor.TT
namespace Go.Proofs.YtefodipjjofocaaGreatDoor.TT
open Go Go.AM Go.ChangeShapes Go.WideShapes Go.ChangeAt Go.RowKit
set_option maxRecDepth 100000
theorem laidOut:laidOutB Tryz.prog=true:=by kernel_rfl
theorem MI:Tryz.prog.readableRec 22=true:=by kernel_rfl
theorem Bq {H:Type}{enc:TypeId×Value→H}{P:Program}{f:Func}{s:ChangeSpec}{apart fresh handsOn again:Bool}{W W':World}{args:Array Value}{v:Value}{ds gs:List (DataW H)}{before pa pv:List MemPlace}
  (hW:DataW.Whole enc P f.params.toList s.vars apart W args.toList ds gs before)
  (hres:∀(b:Nat) (sp:Nat→Bool) (hd:Bool),DataW.TrodAll enc P W' b sp hd f.resultTypes.toList (v.resultList f.resultTypes.size) (s.fn H (ds++gs)).results [])
  (hargs:∀sp:Nat→Bool,(∀p∈before,sp p.block=true)→DataW.TrodAll enc P W' 0 sp true f.params.toList args.toList (s.fn H (ds++gs)).args pa)
  (hvars:∀sp:Nat→Bool,(∀p∈before,sp p.block=true)→DataW.TrodVars enc P W' sp s.vars (s.fn H (ds++gs)).vars pv)
  (hps:before=pa++pv) (hk:W.keptBut W' (·∈before)) (hfz:∀a,a.block<W.heap.size→W'.frozen? a=W.frozen? a)
  (hok:∀(j:Nat) (t:TypeId) (r:Value),f.resultTypes[j]?=some t→(v.resultList f.resultTypes.size)[j]?=some r→Value.okWide P W' .any 0 t r):
  s.post enc P f apart fresh handsOn again W args v W':=by
 have hold:∀p∈before,(fun b=>decide (b<W.heap.size)) p.block=true:=fun p hp=>by simpa using hW.lt p hp
 have hlt:=hW.lt
 refine⟨ds,gs,before,[],pa,pv,hW,hres _ _ _,hargs _ hold,hvars _ hold,World.keptBut_mono (fun p hp=>⟨hp,?_⟩) hk,fun _=>?_⟩
 ·rw [hps,List.mem_append] at hp
  exact Or.inr hp
 ·obtain⟨_,_,_,_,_,hz,hn⟩:=hW
  refine⟨hok,_,_,([]++pa)++pv,⟨[]++pa,pv,trodAll_append (hargs _ (fun _ _=>rfl)) (hres _ _ _),hvars _ (fun _ _=>rfl),rfl,?_,?_⟩,?_⟩
  ·intro b off hp
   have hb:MemPlace.cell b off∈before:=by rw [hps];simpa using hp
   rw [hfz _ (hlt _ hb)]
   exact hz b off hb
  ·intro ha
   have:=hn ha
   rw [hps] at this
   simpa using this
  ·intro p hp _
   rw [hps]
   simpa using hp
end Go.Proofs.YtefodipjjofocaaGreatDoor.TT
namespace Go.Proofs.YtefodipjjofocaaGreatDoor.TT
open Go Go.AM Go.ChangeShapes Go.WideShapes Go.ChangeAt Go.RowKit
set_option maxRecDepth 100000
theorem KD (os:Os)(args:Array Value):laidMetH Tryz.prog Rows.roomFactsRow.laid ((World.doorLaid Tryz.prog 400 os).forCall (fun _ _=>0) ⟨#[],args,[]⟩).memory:=
 laidMetH_of_parts3 (fuel:=8) (laidMet_of_run' 8 (by kernel_rfl) (by kernel_rfl)) (by kernel_rfl) (by kernel_rfl)
end Go.Proofs.YtefodipjjofocaaGreatDoor.TT
namespace Go.Proofs.YtefodipjjofocaaGreatDoor.TT
open Go Go.AM Go.ChangeShapes Go.WideShapes Go.ChangeAt Go.RowKit
set_option maxRecDepth 100000
theorem own:ownKnob Tryz.prog.godebug=none:=by kernel_rfl
theorem aw8:22<Tryz.prog.types.size:=of_decide_eq_true (by kernel_rfl)
end Go.Proofs.YtefodipjjofocaaGreatDoor.TT
namespace Go.Proofs.YtefodipjjofocaaGreatDoor.TT
open Go Go.AM
set_option linter.unusedSimpArgs false
set_option linter.unusedVariables false
set_option maxRecDepth 100000
variable {H:Type}{enc:TypeId×Value→H}{held:Bool}
theorem KE {ι:Inj}{m:Mem}{w:World}(hm:RM Tryz.prog base ι m w.heap)(hl:m.lim=m.next){n1 n2:Nat}{cs1 cs2:List Value}{x1 x2:DataW H×List MemPlace}
  (h1:DataW.trod enc Tryz.prog w 0 (fun _=>true) held n1 22 cs1=some x1) (h2:DataW.trod enc Tryz.prog w 0 (fun _=>true) held n2 22 cs2=some x2):
  ∃v1 v2,cs1=[v1]∧cs2=[v2]∧Calls Tryz.prog 5 #[v1,v2] w fun e w'=>e=.returned (.bool true)∧w.heap.size≤w'.heap.size∧(∀b,b<w.heap.size→w'.heap[b]?=w.heap[b]?)∧w'.os=w.os∧w'.output=w.output∧w'.tape=w.tape:=by
 obtain⟨ι1,m1,vs1,L1,c1,l1,S1⟩:=lift 7 _ _ _ _ h1 p22 ι m hm hl
 obtain⟨ι2,m2,vs2,L2,c2,l2,S2⟩:=lift 7 _ _ _ _ h2 p22 ι1 m1 L1.rm L1.lim
 have S1':=pY (P:=Tryz.prog) L2.get _ _ _ S1
 have hk:m2.Ok:=L2.rm.ok
 obtain⟨v,fs,rfl,hv,hw⟩:=Co hk (n:=0) S1'
 obtain⟨u,gs,rfl,hu,hw2⟩:=Co hk (n:=0) S2
 obtain⟨m4,g,E⟩:=ajZ hk (Nat.le_of_eq L2.lim) hv hu hw hw2 0 1000 (Nat.le_refl _)
 have k1:I7 ι2 [v]=cs1:=by rw [L2.I4 l1];exact c1
 have q1:=L2.lt l1
 refine⟨I4 ι2 v,I4 ι2 u,by rw [← k1];simp [I7],by rw [← c2];simp [I7],?_⟩
 have hargs:ltL (m2.nm ι2) [v,u]:=⟨q1.1,l2.1,trivial⟩
 have hc:=((xV atT 1000 46).func g).2 L2.rm hargs
 have he:(I7 ι2 [v,u]).toArray=#[I4 ι2 v,I4 ι2 u]:=by simp [I7]
 rw [he] at hc
 refine callsIn_wide.1 (hc.mono ?_)
 rintro e w' (⟨u,rfl,r,hr,ι4,hst,hlt,rfl⟩ | ⟨r,hr,x,ι4,hx,_⟩)
 ·obtain rfl:=List.mem_singleton.1 hr
  refine⟨by simp [I4],hst.size,fun b hb=>hst.frame b hb ?_,hst.os,hst.out,hst.tape⟩
  rintro⟨i,x,hi,hx,_,_⟩
  have:=Mem.L9 hk hx
  have:=L2.lim
  omega
 ·obtain rfl:=List.mem_singleton.1 hr
  cases hx
end Go.Proofs.YtefodipjjofocaaGreatDoor.TT
namespace Go.Proofs.YtefodipjjofocaaGreatDoor.TT
open Go Go.AM Go.ChangeShapes Go.WideShapes Go.ChangeAt Go.RowKit
set_option maxRecDepth 100000
theorem IE (os:Os)(args:Array Value):laidMetH Tryz.prog Rows.roomMergesRow.laid ((World.doorLaid Tryz.prog 400 os).forCall (fun _ _=>0) ⟨#[],args,[]⟩).memory:=KD os args
theorem KF {W:World}(h:laidMetH Tryz.prog Rows.roomMergesRow.laid W):RM Tryz.prog base TQ (aG base []) W.heap:=TS h
theorem TU (os:Os)(started:os.Started)(H:Type)(enc:TypeId×Value→H):
  ReturnsInHanded {} Tryz.checked os 5 .any (fun w args=>(Rows.roomMergesSpec.pre enc Tryz.prog Tryz.f5 [] false w args∧laidMetH Tryz.prog Rows.roomMergesRow.laid w)∧sizedMet enc Tryz.prog Tryz.f5 (OpenSpec.ofChange Rows.roomMergesSpec) false w args)
   (Rows.roomMergesSpec.post enc Tryz.prog Tryz.f5 false true false false):=by
 refine returnsInHanded_of_change_and (C:=Tryz.checked) (X:=fun w _=>laidMetH Tryz.prog Rows.roomMergesRow.laid w) (fun _ _ _ hh h=>h.of_heap hh) own started (by kernel_rfl) Tryz.func5
  (ChangeSpec.witness_shaped (enc:=enc) (C:=Tryz.checked) (os:=os) (X:=fun w _=>laidMetH Tryz.prog Rows.roomMergesRow.laid w) false (World.doorLaid Tryz.prog 400 os) #[.slice none 0 0,.slice none 0 0] 8 rfl (World.shaped_of_RefB (by kernel_rfl) (by kernel_rfl)) (by kernel_rfl) (by kernel_rfl) (by kernel_rfl) (IE os _)) ?_
 intro W base args ds gs before hval0 hW _ _ hL _
 have hval:∀(j:Nat) t v,Tryz.f5.params[j]?=some t→args[j]?=some v→Value.okWide Tryz.prog W .any base t v:=hval0
 have hW':=hW
 obtain⟨p,q,hA0,hV,rfl,hfz,hnd⟩:=hW
 have hA:DataW.TrodAll enc Tryz.prog W 0 (fun _=>true) true Tryz.f5.params.toList args.toList ds p:=hA0
 rw [Tryz.params5] at hA hval
 obtain⟨v0,v1,d0,d1,p0,p1,rfl,rfl,rfl,h0,h1⟩:=trodAll_two hA
 obtain⟨rfl,rfl⟩:=trodVars_none hV
 obtain⟨a,len,cap,rfl⟩:=okWide_slice Tryz.underlying22 (hval 0 22 v0 rfl rfl)
 obtain⟨a',len',cap',rfl⟩:=okWide_slice Tryz.underlying22 (hval 1 22 v1 rfl rfl)
 have hm:=KF hL
 obtain⟨f0,t0⟩:=id h0
 obtain⟨f1,t1⟩:=id h1
 obtain⟨u,u',hu,hu',hc⟩:=KE hm rfl t0 t1
 have hu:u=.slice a len cap:=by have:=hu;simp [Value.cells] at this;exact this.symm
 have hu':u'=.slice a' len' cap':=by have:=hu';simp [Value.cells] at this;exact this.symm
 rw [hu,hu'] at hc
 refine hc.mono fun e W' ⟨he,h3,h4,h5,h6,h7⟩=>?_
 subst he
 have hb:Below W.heap.size W W':=⟨h5,h7,h6,h3,h4⟩
 refine⟨_,rfl,?_⟩
 simp only [List.append_nil] at hW'
 have lt:=hW'.lt
 have hk:∀may,W.keptBut W' may:=fun may=>by
  refine⟨h5,h6,fun i hi=>?_⟩
  have:=(World.keptBut_refl W may).2.2 i hi
  rw [h4 i hi]
  exact this
 have m0:∀x,x∈p0→x∈p0++p1:=fun x hx=>by simp [hx]
 have m1:∀x,x∈p1→x∈p0++p1:=fun x hx=>by simp [hx]
 refine Bq (pa:=p0++p1) (pv:=[]) hW' (fun _ _ _=>trodAll_mk1 (shut_bool Tryz.underlying4 _)) (fun sp hsp=>?_) (fun _ _=>rfl) (by simp) (hk _) (fun x hx=>by unfold World.frozen?;rw [h4 _ hx]) (ok_one (by kernel_rfl) rfl (okWide_bool_mk Tryz.underlying4 _))
 rw [Tryz.params5]
 exact⟨p0,p1,WideElems.Trod_stays laidOut MI aw8 h0 (fun x hx=>hb.same (lt x (m0 x hx))) (fun x hx=>hsp x (m0 x hx)),
  ⟨p1,[],WideElems.Trod_stays laidOut MI aw8 h1 (fun x hx=>hb.same (lt x (m1 x hx))) (fun x hx=>hsp x (m1 x hx)),rfl,by simp⟩,rfl⟩
end Go.Proofs.YtefodipjjofocaaGreatDoor.TT
