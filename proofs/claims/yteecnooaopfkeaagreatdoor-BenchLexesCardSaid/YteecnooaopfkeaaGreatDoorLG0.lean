/- The row of BenchLexes in the evaluator's words; conditions: the row's own. -/
import Derived.Test.YteecnooaopfkeaaGreatDoorLD2
import Derived.Test.YteecnooaopfkeaaGreatDoorLC7
import Derived.Test.YteecnooaopfkeaaGreatDoorLR2
import Derived.OpenShut
import Derived.ProofKit
import Derived.LaidMore
import Derived.ChangeSame
import Derived.Carry
import Derived.Below
set_option linter.unusedSimpArgs false
set_option linter.unusedVariables false
namespace Go.Proofs.YteecnooaopfkeaaGreatDoor.TT
open Go Go.AM Go.RowKit
set_option maxRecDepth 100000
section
variable {P:Program}{G:Mem}{ι:Inj}{m:Mem}{w:World}
theorem cell_of (hm:RM P G ι m w.heap){i rs:Nat}{r:List j3}(hg:m.get i=some (.cells rs 1 (T.ofList [r]))){j:Nat}{v:j3}(hj:j<rs)(hv:r[j]?=some v):w.cell? ⟨(ι i).b,(ι i).base+j,none⟩=some (l6 ι v):=by
 obtain⟨c,e,fz,hc,h1,_,hr⟩:=hm.blk i _ hg
 obtain⟨row,q1,q2,q3,q4⟩:=hr 0 (by omega)
 have hrow:row=r:=by
  rw [T.M9] at q1;simpa using q1.symm
 subst hrow
 have:=q4 j hj
 rw [Nat.zero_mul,Nat.zero_add] at this
 simp [World.cell?,hc,this,hv]
theorem zD {v:j3}(n:Nat)(h1:xD n [v]=[])(h2:∀r,nD r [v]=some [v])(m:Mem):tu n ⟨v,m⟩=some ⟨v,[]⟩:=by
 show ob (cO n [v] m) _=_
 rw [vg m h1 h2];rfl
end
section
variable {ι:Inj}{w:World}
theorem Ef:Tryz.prog.globals.size=11:=by kernel_rfl
theorem aiC (hm:RM Tryz.prog base ι (F8 base []) w.heap):∃ev,w.cell? ⟨0,0,none⟩=some ev∧(ev=.nilIface∨∃te pe,ev=.iface te pe):=by
 have g:(F8 base []).get 0=some (.cells 1 1 (T.ofList [[j3.iface 361 (.ptr 11 0)]])):=rfl
 obtain⟨b1,o1,_⟩:=hm.glob 0 (by rw [Ef];omega)
 have:=cell_of hm g (j:=0) (by omega) rfl
 rw [b1,o1] at this
 exact⟨l6 ι (.iface 361 (.ptr 11 0)),by simpa using this,.inr ⟨_,_,rfl⟩⟩
theorem aiD (hm:RM Tryz.prog base ι (F8 base []) w.heap):∃ev,w.cell? ⟨1,0,none⟩=some ev∧(ev=.nilIface∨∃te pe,ev=.iface te pe):=by
 have g:(F8 base []).get 1=some (.cells 1 1 (T.ofList [[j3.iface 361 (.ptr 12 0)]])):=rfl
 obtain⟨b1,o1,_⟩:=hm.glob 1 (by rw [Ef];omega)
 have:=cell_of hm g (j:=0) (by omega) rfl
 rw [b1,o1] at this
 exact⟨l6 ι (.iface 361 (.ptr 12 0)),by simpa using this,.inr ⟨_,_,rfl⟩⟩
end
theorem JO (s:List UInt8)(hs:s.length<1000000):gG Tryz.prog base 48 [.str s] [] (wU s):=by
 unfold wU
 cases h:Lib.atoiAll s with
 | ok v=>
  refine jB (zD _ rfl (fun _=>rfl) _) (fun _=>⟨trivial,trivial,trivial⟩) (fun _ _=>by simp [l6,l8]) fun ι w hm=>?_
  refine Calls.mono (Any.strconv_Atoi_ok Tryz.mX ⟨s.toArray⟩ (by simp [ByteArray.size];omega) v (by simpa using h) w) ?_
  rintro e w' ⟨rfl,hw⟩
  refine⟨by simp [l6,l8],?_⟩
  rcases hw with rfl | ⟨t,rfl⟩
  ·exact Below.refl _ _
  ·exact Lib.bytesWorld_below _ _ _
 | range=>
  refine GK (nb:=.dead) (Cx iB.ok _ 249) fun ι w hm=>?_
  obtain⟨ev,hv,hev⟩:=aiD hm
  refine Calls.mono (Any.strconv_Atoi_range Tryz.mX ⟨s.toArray⟩ (by simp [ByteArray.size];omega) (by simpa using h) ev w hv hev) ?_
  rintro e w' ⟨N,rfl,hN,hc,hb⟩
  refine⟨⟨N,0,0,none⟩,?_,hb,hN,?_,trivial,fun h=>by cases h⟩
  ·simp [l6,l8,Inj.at];rfl
  ·refine⟨trivial,⟨.dead,?_,rfl⟩,trivial⟩
   rw [Mem.D7 (m:=F8 base []) iB.ok];exact if_pos rfl
 | _=>
  refine GK (nb:=.dead) (Cx iB.ok 0 249) fun ι w hm=>?_
  obtain⟨ev,hv,hev⟩:=aiC hm
  refine Calls.mono (Any.strconv_Atoi_syntax Tryz.mX ⟨s.toArray⟩ (by simp [ByteArray.size];omega) (by simpa using h) ev w hv hev) ?_
  rintro e w' ⟨N,rfl,hN,hc,hb⟩
  refine⟨⟨N,0,0,none⟩,?_,hb,hN,?_,trivial,fun h=>by cases h⟩
  ·simp [l6,l8,Inj.at];rfl
  ·refine⟨trivial,⟨.dead,?_,rfl⟩,trivial⟩
   rw [Mem.D7 (m:=F8 base []) iB.ok];exact if_pos rfl
theorem Nl {f:FuncId}{args:List j3}{bs:List NB}{a:Ans}(h:Tg f args bs=some a):gG Tryz.prog base f args bs a:=by
 unfold Tg at h
 split at h
 ·split at h
  ·split at h
   ·rename_i hs
    split at h
    ·rename_i hf;subst hf;cases h;exact JO _ hs
    ·cases h
   ·cases h
  ·split at h
   ·rename_i hf;subst hf;cases h;exact zl (fun s c w=>Tryz.strings_Contains_one s c w) _ _
   ·cases h
  ·cases h
 ·cases h
theorem Nn:∀f args bs a,KW.sum f args bs=some a→gG Tryz.prog base f args bs a:=by
 intro f args bs a h
 have h:JJ f args bs=some a:=h
 unfold JJ at h
 split at h
 ·have hl:∀s∈[qS],gG Tryz.prog base s.f s.args s.bs s.a:=fun s hs=>by
   rcases List.mem_singleton.1 hs with rfl
   exact qoS
  exact nY [qS] hl _ _ _ _ h
 ·exact Nl h
theorem acM:KOk Tryz.prog KW:=by
 refine⟨mixed,fun f sf h=>?_,⟨gbs,iB⟩,Nn,fun h=>by cases h⟩
 have h:(fns f).map (fun sf=>{sf with pure:=JI f})=some sf:=h
 cases hf:fns f with
 | none=>rw [hf] at h;cases h
 | some s0=>
  rw [hf] at h
  cases h
  exact zq (GZ f s0 hf) _
end Go.Proofs.YteecnooaopfkeaaGreatDoor.TT
namespace Go.AM
open Go
def acN (P:Program)(t:TypeId):Bool:=match P.underlying t with
 | some .string=>true
 | _=>false
theorem Np {P:Program}{m:Mem}{n:Nat}{t:TypeId}{vs:List j3}(h:acN P t=true)(hs:shp P m (n+1) t vs):∃s:List UInt8,vs=[.str s]:=by
 unfold shp at hs
 unfold acN at h
 split at h
 ·rename_i hu
  rw [hu] at hs
  obtain⟨s,h1,_⟩:=hs
  exact⟨s,h1⟩
 ·cases h
end Go.AM
namespace Go.Proofs.YteecnooaopfkeaaGreatDoor.TT
open Go Go.AM Go.RowKit
set_option linter.unusedSimpArgs false
set_option linter.unusedVariables false
set_option maxRecDepth 100000
set_option linter.unnecessarySimpa false
theorem vw {w:World}{b o:Nat}{v:Value}(h:w.cell? ⟨b,o,none⟩=some v):∃c e fz,w.heap[b]?=some (Obj.cells c e fz)∧c[o]?=some v:=by
 unfold World.cell? at h
 split at h
 ·rename_i c e fz hh
  exact⟨c,e,fz,hh,by simpa using h⟩
 ·cases h
theorem fD {P:Program}{ι:Inj}{n:Nm}{w:World}{l:AM.Loc}{row:List j3}{N:Nat}(hN:row.length=N)(h0:0<N)(hl:l.cap=N)(hlt:ltL n row)
  (h:∀j v,row[j]?=some v→w.cell? ⟨l.b,l.base+j,none⟩=some (l6 ι v)):Z9 P ι n w.heap l (.cells N 1 (T.ofList [row])):=by
 subst hN
 obtain⟨c,e,fz,hb,hc⟩:=vw (h (row.length-1) row[row.length-1] (by simp))
 refine⟨c,e,fz,hb,?_,⟨by omega,1,Nat.le_refl _,T.Y9 [_],nG fun _=>rfl⟩,fun i hi=>?_⟩
 ·have:=(Array.getElem?_eq_some_iff.1 hc).1;omega
 ·obtain rfl:i=0:=by omega
  refine⟨row,rfl,rfl,hlt,fun j hj=>?_⟩
  obtain⟨c',e',fz',hb',hc'⟩:=vw (h j row[j] (by simp [hj]))
  rw [hb] at hb';cases hb'
  simpa [hj] using hc'
theorem wV (n:Nm)(k:IntKind):∀l:List Int,ltL n (l.map (j3.int k))
 | []=>trivial
 | _::l=>⟨trivial,wV n k l⟩
theorem zF {P:Program}{w:World}{n:String}{g:Nat}{cs:Array Value}(hn:P.globalNamed n=some g)(h:w.var? P n=some cs):∃e fz,w.heap[g]?=some (Obj.cells cs e fz):=by
 unfold World.var? at h
 rw [hn] at h
 simp only [Option.bind_some] at h
 split at h
 ·rename_i c e fz hh
  cases h
  exact⟨e,fz,hh⟩
 ·cases h
theorem zG {P:Program}{w:World}{n:String}{g:Nat}{k:IntKind}{ns:List Int}(hn:P.globalNamed n=some g)(h:Lib.TabIs P w n k ns)(ι:Inj):∀j v,(ns.map (j3.int k))[j]?=some v→w.cell? ⟨g,0+j,none⟩=some (l6 ι v):=by
 intro j v hv
 rw [List.getElem?_map,Option.map_eq_some_iff] at hv
 obtain⟨z,hz,rfl⟩:=hv
 have hj:=(List.getElem?_eq_some_iff.1 hz).1
 rw [Nat.zero_add,h.cell hn j hj]
 simp [l6,List.getD,hz]
theorem gn0:Tryz.prog.globalNamed "strconv.ErrSyntax"=some 0:=by kernel_rfl
theorem gn1:Tryz.prog.globalNamed "strconv.ErrRange"=some 1:=by kernel_rfl
theorem gn3:Tryz.prog.globalNamed "internal/strconv.uint64pow10"=some 3:=by kernel_rfl
theorem gn4:Tryz.prog.globalNamed "strings.asciiSpace"=some 4:=by kernel_rfl
def Nq (a2 a3:Addr):Inj:=fun i=>⟨if i=11 then a2.block else if i=12 then a3.block else i,if i=11 then a2.off else if i=12 then a3.off else 0,
 if i=0 then 1 else if i=1 then 1 else if i=3 then 20 else if i=4 then 256 else 0,if i=11 then a2.spot else if i=12 then a3.spot else none⟩
theorem Nr {w:World}{a2 a3:Addr}(hA:Lib.TabIs Tryz.prog w "strings.asciiSpace" .u8 nsA)(hP:Lib.TabIs Tryz.prog w "internal/strconv.uint64pow10" .u64 nsP)
  (h2:w.var? Tryz.prog "strconv.ErrSyntax"=some #[.iface 361 (.pointer (some a2))]) (h3:w.var? Tryz.prog "strconv.ErrRange"=some #[.iface 361 (.pointer (some a3))]):∃ι,RM Tryz.prog base ι (F8 base []) w.heap:=by
 refine⟨Nq a2 a3,?_⟩
 have hn:base.next=13:=rfl
 have hok:T.Ok base.t base.next:=iB.ok
 have g0:base.get 0=some (.cells 1 1 (T.ofList [[j3.iface 361 (.ptr 11 0)]])):=rfl
 have g1:base.get 1=some (.cells 1 1 (T.ofList [[j3.iface 361 (.ptr 12 0)]])):=rfl
 have g3:base.get 3=some (.cells nsP.length 1 (T.ofList [nsP.map (j3.int .u64)])):=rfl
 have g4:base.get 4=some (.cells nsA.length 1 (T.ofList [nsA.map (j3.int .u8)])):=rfl
 have g2:base.get 2=some .dead:=rfl
 have g5:base.get 5=some .dead:=rfl
 have g6:base.get 6=some .dead:=rfl
 have g7:base.get 7=some .dead:=rfl
 have g8:base.get 8=some .dead:=rfl
 have g9:base.get 9=some .dead:=rfl
 have g10:base.get 10=some .dead:=rfl
 have g11:base.get 11=some .dead:=rfl
 have g12:base.get 12=some .dead:=rfl
 have hb:∀i b,base.get i=some b→ah b=false→(F8 base []).has i:=fun i b hb hv=>⟨b,hb,hv⟩
 refine⟨hok,fun i b hb0=>?_,fun i b hi hb0=>?_,Nat.le_refl _,Nat.le_refl _,by rw [Ef,hn];omega,fun i hi=>rfl,fun i hi=>?_,fun i hi=>?_,fun i b hb0 hl=>?_,fun i rs k rows hi hg=>?_⟩
 ·have hb0:base.get i=some b:=hb0
  have hi:i<13:=Mem.y9 hok hb0
  match i,hi with
  | 0,_=>
   rw [g0] at hb0;cases hb0
   refine fD (by rfl) (by decide) rfl ⟨hb 11 _ g11 rfl,trivial⟩ fun j v hv=>?_
   obtain rfl:j=0:=by have:=(List.getElem?_eq_some_iff.1 hv).1;simpa using this
   cases hv
   have:=World.var?_cell gn0 h2 0
   simpa [l6,Inj.at,Nq] using this
  | 1,_=>
   rw [g1] at hb0;cases hb0
   refine fD (by rfl) (by decide) rfl ⟨hb 12 _ g12 rfl,trivial⟩ fun j v hv=>?_
   obtain rfl:j=0:=by have:=(List.getElem?_eq_some_iff.1 hv).1;simpa using this
   cases hv
   have:=World.var?_cell gn1 h3 0
   simpa [l6,Inj.at,Nq] using this
  | 2,_=>rw [g2] at hb0;cases hb0;trivial
  | 3,_=>rw [g3] at hb0;cases hb0;exact fD (by simp) (by decide) rfl (wV _ _ _) (zG gn3 hP _)
  | 4,_=>rw [g4] at hb0;cases hb0;exact fD (by simp) (by decide) rfl (wV _ _ _) (zG gn4 hA _)
  | 5,_=>rw [g5] at hb0;cases hb0;trivial
  | 6,_=>rw [g6] at hb0;cases hb0;trivial
  | 7,_=>rw [g7] at hb0;cases hb0;trivial
  | 8,_=>rw [g8] at hb0;cases hb0;trivial
  | 9,_=>rw [g9] at hb0;cases hb0;trivial
  | 10,_=>rw [g10] at hb0;cases hb0;trivial
  | 11,_=>rw [g11] at hb0;cases hb0;trivial
  | 12,_=>rw [g12] at hb0;cases hb0;trivial
 ·have hb0:base.get i=some b:=hb0
  have h1:i<13:=Mem.y9 hok hb0
  have h2:base.next≤i:=hi
  rw [hn] at h2;omega
 ·rw [Ef] at hi
  match i,hi with
  | 0,_=>exact⟨_,g0,rfl⟩
  | 1,_=>exact⟨_,g1,rfl⟩
  | 2,_=>exact⟨_,g2,rfl⟩
  | 3,_=>exact⟨_,g3,rfl⟩
  | 4,_=>exact⟨_,g4,rfl⟩
  | 5,_=>exact⟨_,g5,rfl⟩
  | 6,_=>exact⟨_,g6,rfl⟩
  | 7,_=>exact⟨_,g7,rfl⟩
  | 8,_=>exact⟨_,g8,rfl⟩
  | 9,_=>exact⟨_,g9,rfl⟩
  | 10,_=>exact⟨_,g10,rfl⟩
 ·rw [Ef] at hi
  match i,hi with
  | 0,_ | 1,_ | 2,_ | 3,_ | 4,_ | 5,_ | 6,_ | 7,_ | 8,_ | 9,_ | 10,_=>exact⟨rfl,rfl,rfl⟩
 ·have hb0:base.get i=some b:=hb0
  have hi:i<13:=Mem.y9 hok hb0
  match i,hi with
  | 0,_ | 1,_ | 2,_ | 3,_ | 4,_ | 5,_ | 6,_ | 7,_ | 8,_ | 9,_ | 10,_=>rfl
  | 11,_=>rw [g11] at hb0;cases hb0;cases hl
  | 12,_=>rw [g12] at hb0;cases hb0;cases hl
 ·rw [Ef] at hi
  have tab:∀{n:String} {k:IntKind} {ns:List Int} {g N:Nat},Tryz.prog.globalNamed n=some g→ns.length=N→Lib.TabIs Tryz.prog w n k ns→∃c e fz,w.heap[g]?=some (Obj.cells c e fz)∧c.size=1*N:=fun hn hN ht=>by
   obtain⟨e,fz,h⟩:=zF hn ht
   exact⟨_,e,fz,h,by simp [hN]⟩
  have one:∀{n:String} {x:Value} {g:Nat},Tryz.prog.globalNamed n=some g→w.var? Tryz.prog n=some #[x]→∃c e fz,w.heap[g]?=some (Obj.cells c e fz)∧c.size=1*1:=fun hn ht=>by
   obtain⟨e,fz,h⟩:=zF hn ht
   exact⟨_,e,fz,h,rfl⟩
  match i,hi with
  | 0,_=>rw [g0] at hg;cases hg;exact one gn0 h2
  | 1,_=>rw [g1] at hg;cases hg;exact one gn1 h3
  | 3,_=>rw [g3] at hg;cases hg;exact tab gn3 rfl hP
  | 4,_=>rw [g4] at hg;cases hg;exact tab gn4 rfl hA
  | 2,_=>rw [g2] at hg;cases hg
  | 5,_=>rw [g5] at hg;cases hg
  | 6,_=>rw [g6] at hg;cases hg
  | 7,_=>rw [g7] at hg;cases hg
  | 8,_=>rw [g8] at hg;cases hg
  | 9,_=>rw [g9] at hg;cases hg
  | 10,_=>rw [g10] at hg;cases hg
open Go Go.AM Go.ChangeShapes Go.WideShapes Go.ChangeAt Go.RowKit
theorem Bl {H:Type}{enc:TypeId×Value→H}{P:Program}{f:Func}{s:ChangeSpec}{apart fresh handsOn again:Bool}{W W':World}{args:Array Value}{v:Value}{ds gs:List (DataW H)}{before pa pv:List MemPlace}
  (hW:DataW.Whole enc P f.params.toList s.vars apart W args.toList ds gs before)
  (hres:∀(b:Nat) (sp:Nat→Bool) (hd:Bool),DataW.TrodAll enc P W' b sp hd f.resultTypes.toList (v.resultList f.resultTypes.size) (s.fn H (ds++gs)).results [])
  (hargs:∀sp:Nat→Bool,(∀p∈before,sp p.block=true)→DataW.TrodAll enc P W' 0 sp true f.params.toList args.toList (s.fn H (ds++gs)).args pa)
  (hvars:∀sp:Nat→Bool,(∀p∈before,sp p.block=true)→DataW.TrodVars enc P W' sp s.vars (s.fn H (ds++gs)).vars pv)
  (hps:before=pa++pv) (hk:W.keptBut W' (·∈before)) (hfz:∀a,a.block<W.heap.size→W'.frozen? a=W.frozen? a)
  (hok:∀(j:Nat) (t:TypeId) (r:Value),f.resultTypes[j]?=some t→(v.resultList f.resultTypes.size)[j]?=some r→Value.okWide P W' .any 0 t r):
  s.post enc P f apart fresh handsOn again W args v W':=by
 have hold:∀p∈before,(fun b=>decide (b<W.heap.size)) p.block=true:=fun p hp=>by simpa using hW.lt p hp
 have hlt:=hW.lt
 refine⟨ds,gs,before,[],pa,pv,hW,hres _ _ _,hargs _ hold,hvars _ hold,World.keptBut_mono (fun p hp=>⟨hp,?_⟩) hk,fun _=>?_⟩
 ·rw [hps,List.mem_append] at hp
  exact Or.inr hp
 ·obtain⟨_,_,_,_,_,hz,hn⟩:=hW
  refine⟨hok,_,_,([]++pa)++pv,⟨[]++pa,pv,trodAll_append (hargs _ (fun _ _=>rfl)) (hres _ _ _),hvars _ (fun _ _=>rfl),rfl,?_,?_⟩,?_⟩
  ·intro b off hp
   have hb:MemPlace.cell b off∈before:=by rw [hps];simpa using hp
   rw [hfz _ (hlt _ hb)]
   exact hz b off hb
  ·intro ha
   have:=hn ha
   rw [hps] at this
   simpa using this
  ·intro p hp _
   rw [hps]
   simpa using hp
open Go Go.AM
variable {H:Type}{enc:TypeId×Value→H}{held:Bool}
theorem aiE:yX Tryz.prog 7 9=true:=by kernel_rfl
theorem t9:acN Tryz.prog 9=true:=by kernel_rfl
theorem Rm {ι:Inj}{m:Mem}{w:World}(hm:RM Tryz.prog base ι m w.heap)(hl:m.lim=m.next){n0:Nat}{cs0:List Value}{x0:DataW H×List MemPlace}
  (h0:DataW.trod enc Tryz.prog w 0 (fun _=>true) held n0 9 cs0=some x0):
  ∃v0,cs0=[v0]∧Calls Tryz.prog 3 #[v0] w fun e w'=>e=.returned (.bool true)∧w.heap.size≤w'.heap.size∧(∀b,b<w.heap.size→w'.heap[b]?=w.heap[b]?)∧w'.os=w.os∧w'.output=w.output∧w'.tape=w.tape:=by
 obtain⟨ι0,m0,vs0,L0,c0,l0,S0⟩:=lift 7 _ _ _ _ h0 aiE ι m hm hl
 have hk:m0.Ok:=L0.rm.ok
 obtain⟨s0,rfl⟩:=Np t9 S0
 obtain⟨m9,g,E⟩:=acs hk (Nat.le_of_eq L0.lim) s0 0 20000 (Nat.le_refl _)
 have k0:l8 ι0 [.str s0]=cs0:=by exact c0
 have q0:=l0
 refine⟨l6 ι0 (.str s0),by rw [← k0];simp [l8],?_⟩
 have hargs:ltL (m0.nm ι0) [.str s0]:=by
  refine⟨?_,trivial⟩
  ·exact q0.1
 have hc:=((rZ acM 20000 6).func g).2 L0.rm hargs
 have he:(l8 ι0 [.str s0]).toArray=#[l6 ι0 (.str s0)]:=by
  simp [l8,l6]
 rw [he] at hc
 refine callsIn_wide.1 (hc.mono ?_)
 rintro e w' (⟨u,rfl,r,hr,ι9,hst,hlt,rfl⟩ | ⟨r,hr,x,ι9,hx,_⟩)
 ·obtain rfl:=List.mem_singleton.1 hr
  refine⟨by simp [l6],hst.size,fun b hb=>hst.frame b hb ?_,hst.os,hst.out,hst.tape⟩
  rintro⟨i,x,hi,hx,_,_⟩
  have:=Mem.y9 hk hx
  have:=L0.lim
  omega
 ·obtain rfl:=List.mem_singleton.1 hr
  cases hx
end Go.Proofs.YteecnooaopfkeaaGreatDoor.TT
