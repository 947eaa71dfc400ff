/- The row of BenchParses in the evaluator's words; conditions: the row's own. -/
import Derived.Test.YteecnooaopfkeaaGreatDoorPD6
import Derived.Test.YteecnooaopfkeaaGreatDoorPC7
import Derived.Test.YteecnooaopfkeaaGreatDoorPR2
import Derived.OpenShut
import Derived.ProofKit
import Derived.LaidMore
import Derived.ChangeSame
import Derived.Carry
import Derived.Below
set_option linter.all false
namespace Go.Proofs.YteecnooaopfkeaaGreatDoor.TT
open Go Go.AM Go.RowKit
set_option maxRecDepth 100000
section
variable {P:Program}{G:Mem}{ι:K4}{m:Mem}{w:World}
theorem cell_of (hm:RM P G ι m w.heap){i rs:Nat}{r:List j3}(hg:m.get i=some (.cells rs 1 (T.ofList [r]))){j:Nat}{v:j3}(hj:j<rs)(hv:r[j]?=some v):w.cell? ⟨(ι i).b,(ι i).base+j,none⟩=some (o8 ι v):=by
 obtain⟨c,e,fz,hc,h1,_,hr⟩:=hm.blk i _ hg;obtain⟨row,q1,q2,q3,q4⟩:=hr 0 (by omega);have hrow:row=r:=by rw [T.aG] at q1;simpa using q1.symm
 subst hrow;have:=q4 j hj;rw [afo,aav] at this;simp [World.cell?,hc,this,hv]
theorem KG {v:j3}(n:Nat)(h1:tX n [v]=[])(h2:∀r,kH r [v]=some [v])(m:Mem):wI n ⟨v,m⟩=some ⟨v,[]⟩:=by show ob (iX n [v] m) _=_;rw [ET m h1 h2];rfl
end
section
variable {ι:K4}{w:World}
theorem IV:Tryz.prog.globals.size=11:=by kernel_rfl
theorem an9 (hm:RM Tryz.prog base ι (O5 base []) w.heap):∃ev,w.cell? ⟨0,0,none⟩=some ev∧(ev=.nilIface∨∃te pe,ev=.iface te pe):=by have g:(O5 base []).get 0=some (.cells 1 1 (T.ofList [[j3.iface 361 (.ptr 11 0)]])):=rfl;obtain⟨b1,o1,_⟩:=hm.glob 0 (by rw [IV];omega);have:=cell_of hm g (j:=0) (by omega) rfl;rw [b1,o1] at this;exact⟨o8 ι (.iface 361 (.ptr 11 0)),by simpa using this,.inr ⟨_,_,rfl⟩⟩
theorem ana (hm:RM Tryz.prog base ι (O5 base []) w.heap):∃ev,w.cell? ⟨1,0,none⟩=some ev∧(ev=.nilIface∨∃te pe,ev=.iface te pe):=by have g:(O5 base []).get 1=some (.cells 1 1 (T.ofList [[j3.iface 361 (.ptr 12 0)]])):=rfl;obtain⟨b1,o1,_⟩:=hm.glob 1 (by rw [IV];omega);have:=cell_of hm g (j:=0) (by omega) rfl;rw [b1,o1] at this;exact⟨o8 ι (.iface 361 (.ptr 12 0)),by simpa using this,.inr ⟨_,_,rfl⟩⟩
end
theorem WI (s:List UInt8)(hs:s.length<1000000):jC Tryz.prog base 48 [.str s] [] (zH s):=by
 unfold zH;cases h:Lib.atoiAll s with
 | ok v=>refine qO (KG _ rfl (λ_=>rfl) _) (λ_=>⟨trivial,trivial,trivial⟩) (λ_ _=>by simp [o8,y7]) λι w hm=>?_;refine afy (Any.strconv_Atoi_ok Tryz.vw ⟨s.toArray⟩ (by simp [ByteArray.size];omega) v (by simpa using h) w) ?_;rintro e w' ⟨rfl,hw⟩;refine⟨by simp [o8,y7],?_⟩;rcases hw with rfl | ⟨t,rfl⟩;exact Below.refl _ _;exact Lib.bytesWorld_below _ _ _
 | range=>refine QD (nb:=.dead) (Nh lG.ok _ 249) λι w hm=>?_;obtain⟨ev,hv,hev⟩:=ana hm;refine afy (Any.strconv_Atoi_range Tryz.vw ⟨s.toArray⟩ (by simp [ByteArray.size];omega) (by simpa using h) ev w hv hev) ?_;rintro e w' ⟨N,rfl,hN,hc,hb⟩;refine⟨⟨N,0,0,none⟩,?_,hb,hN,?_,trivial,λh=>by cases h⟩;simp [o8,y7,K4.at];rfl;refine⟨trivial,⟨.dead,?_,rfl⟩,trivial⟩;rw [Mem.N7 (m:=O5 base []) lG.ok];exact if_pos rfl
 | _=>refine QD (nb:=.dead) (Nh lG.ok 0 249) λι w hm=>?_;obtain⟨ev,hv,hev⟩:=an9 hm;refine afy (Any.strconv_Atoi_syntax Tryz.vw ⟨s.toArray⟩ (by simp [ByteArray.size];omega) (by simpa using h) ev w hv hev) ?_;rintro e w' ⟨N,rfl,hN,hc,hb⟩;refine⟨⟨N,0,0,none⟩,?_,hb,hN,?_,trivial,λh=>by cases h⟩;simp [o8,y7,K4.at];rfl;refine⟨trivial,⟨.dead,?_,rfl⟩,trivial⟩;rw [Mem.N7 (m:=O5 base []) lG.ok];exact if_pos rfl
theorem ZK {f:FuncId}{args:List j3}{bs:List NB}{a:AZ}(h:YK f args bs=some a):jC Tryz.prog base f args bs a:=by unfold YK at h;split at h;split at h;split at h;rename_i hs;split at h;rename_i hf;subst hf;cases h;exact WI _ hs;cases h;cases h;split at h;rename_i hf;subst hf;cases h;exact Kl (λs c w=>Tryz.strings_Contains_one s c w) _ _;cases h;cases h;cases h
theorem ZL:∀f args bs a,KW.sum f args bs=some a->jC Tryz.prog base f args bs a:=by
 intro f args bs a h;have h:Kw f args bs=some a:=h;unfold Kw at h;split at h;have hl:∀s∈[qS],jC Tryz.prog base s.f s.args s.bs s.a:=λs hs=>by rcases J3.1 hs with rfl;exact qoS
 exact xR [qS] hl _ _ _ _ h;exact ZK h
theorem ahc:Vk Tryz.prog KW:=by
 refine⟨mixed,λf sf h=>?_,⟨CG,lG⟩,ZL,λ{f args m outs} h=>?_⟩;have h:(fns f).map (λsf=>{sf with pure:=QN f})=some sf:=h;cases hf:fns f with
 | none=>rw [hf] at h;cases h
 | some s0=>rw [hf] at h;cases h;exact IC (Pq f s0 hf) _
 have h:bi (Nat.beq f 97) (bB args m) none=some outs:=h;cases h1:Nat.beq f 97 with
 | false=>rw [h1] at h;cases h
 | true=>rw [h1] at h;obtain rfl:=J4 h1;exact QL ⟨CG,lG⟩ mixed (f:=97) (show YB 97 args m=some outs from h)
end Go.Proofs.YteecnooaopfkeaaGreatDoor.TT
namespace Go.AM
open Go
def acY (P:Program)(t:TypeId):Bool:=match P.underlying t with
 | some .string=>true
 | _=>false
theorem ZM {P:Program}{m:Mem}{n:Nat}{t:TypeId}{vs:List j3}(h:acY P t=true)(hs:HV P m (n+1) t vs):∃s:List UInt8,vs=[.str s]:=by unfold HV at hs;unfold acY at h;split at h;rename_i hu;rw [hu] at hs;obtain⟨s,h1,_⟩:=hs;exact⟨s,h1⟩;cases h
end Go.AM
namespace Go.Proofs.YteecnooaopfkeaaGreatDoor.TT
open Go Go.AM Go.RowKit
set_option linter.unusedSimpArgs false
set_option linter.unusedVariables false
set_option maxRecDepth 100000
set_option linter.unnecessarySimpa false
theorem Fz {w:World}{b o:Nat}{v:Value}(h:w.cell? ⟨b,o,none⟩=some v):∃c e fz,w.heap[b]?=some (Obj.cells c e fz)∧c[o]?=some v:=by unfold World.cell? at h;split at h;rename_i c e fz hh;exact⟨c,e,fz,hh,by simpa using h⟩;cases h
theorem ni {P:Program}{ι:K4}{n:Nm}{w:World}{l:AM.Loc}{row:List j3}{N:Nat}(hN:row.length=N)(h0:0<N)(hl:l.cap=N)(hlt:aS n row)
  (h:∀j v,row[j]?=some v->w.cell? ⟨l.b,l.base+j,none⟩=some (o8 ι v)):bP P ι n w.heap l (.cells N 1 (T.ofList [row])):=by
 subst hN;obtain⟨c,e,fz,hb,hc⟩:=Fz (h (row.length-1) row[row.length-1] (by simp));refine⟨c,e,fz,hb,?_,⟨by omega,1,J2 _,T.fP [_],xA λ_=>rfl⟩,λi hi=>?_⟩;have:=(K9.1 hc).1;omega;obtain rfl:i=0:=by omega
 refine⟨row,rfl,rfl,hlt,λj hj=>?_⟩;obtain⟨c',e',fz',hb',hc'⟩:=Fz (h j row[j] (by simp [hj]));rw [hb] at hb';cases hb';simpa [hj] using hc'
theorem FB (n:Nm)(k:IntKind):∀l:List Int,aS n (l.map (j3.int k))
 | []=>trivial
 | _::l=>⟨trivial,FB n k l⟩
theorem IW {P:Program}{w:World}{n:String}{g:Nat}{cs:Array Value}(hn:P.globalNamed n=some g)(h:w.var? P n=some cs):∃e fz,w.heap[g]?=some (Obj.cells cs e fz):=by unfold World.var? at h;rw [hn] at h;simp only [aei] at h;split at h;rename_i c e fz hh;cases h;exact⟨e,fz,hh⟩;cases h
theorem IX {P:Program}{w:World}{n:String}{g:Nat}{k:IntKind}{ns:List Int}(hn:P.globalNamed n=some g)(h:Lib.TabIs P w n k ns)(ι:K4):∀j v,(ns.map (j3.int k))[j]?=some v->w.cell? ⟨g,0+j,none⟩=some (o8 ι v):=by intro j v hv;rw [abY,ac4] at hv;obtain⟨z,hz,rfl⟩:=hv;have hj:=(J5.1 hz).1;rw [aav,h.cell hn j hj];simp [o8,List.getD,hz]
theorem gn0:Tryz.prog.globalNamed "strconv.ErrSyntax"=some 0:=by kernel_rfl
theorem gn1:Tryz.prog.globalNamed "strconv.ErrRange"=some 1:=by kernel_rfl
theorem gn3:Tryz.prog.globalNamed "internal/strconv.uint64pow10"=some 3:=by kernel_rfl
theorem gn4:Tryz.prog.globalNamed "strings.asciiSpace"=some 4:=by kernel_rfl
def WJ (a2 a3:Addr):K4:=λi=>⟨if i=11 then a2.block else if i=12 then a3.block else i,if i=11 then a2.off else if i=12 then a3.off else 0,
 if i=0 then 1 else if i=1 then 1 else if i=3 then 20 else if i=4 then 256 else 0,if i=11 then a2.spot else if i=12 then a3.spot else none⟩
theorem ZN {w:World}{a2 a3:Addr}(hA:Lib.TabIs Tryz.prog w "strings.asciiSpace" .u8 nsA)(hP:Lib.TabIs Tryz.prog w "internal/strconv.uint64pow10" .u64 nsP)
  (h2:w.var? Tryz.prog "strconv.ErrSyntax"=some #[.iface 361 (.pointer (some a2))]) (h3:w.var? Tryz.prog "strconv.ErrRange"=some #[.iface 361 (.pointer (some a3))]):∃ι,RM Tryz.prog base ι (O5 base []) w.heap:=by
 refine⟨WJ a2 a3,?_⟩;have hn:base.nx=13:=rfl;have hok:T.Ok base.t base.nx:=lG.ok;have g0:base.get 0=some (.cells 1 1 (T.ofList [[j3.iface 361 (.ptr 11 0)]])):=rfl;have g1:base.get 1=some (.cells 1 1 (T.ofList [[j3.iface 361 (.ptr 12 0)]])):=rfl;have g3:base.get 3=some (.cells nsP.length 1 (T.ofList [nsP.map (j3.int .u64)])):=rfl;have g4:base.get 4=some (.cells nsA.length 1 (T.ofList [nsA.map (j3.int .u8)])):=rfl;have g2:base.get 2=some .dead:=rfl;have g5:base.get 5=some .dead:=rfl;have g6:base.get 6=some .dead:=rfl;have g7:base.get 7=some .dead:=rfl;have g8:base.get 8=some .dead:=rfl;have g9:base.get 9=some .dead:=rfl;have g10:base.get 10=some .dead:=rfl;have g11:base.get 11=some .dead:=rfl;have g12:base.get 12=some .dead:=rfl;have hb:∀i b,base.get i=some b->bQ b=false->(O5 base []).has i:=λi b hb hv=>⟨b,hb,hv⟩;refine⟨hok,λi b hb0=>?_,λi b hi hb0=>?_,J2 _,J2 _,by rw [IV,hn];omega,λi hi=>rfl,λi hi=>?_,λi hi=>?_,λi b hb0 hl=>?_,λi rs k rows hi hg=>?_⟩;have hb0:base.get i=some b:=hb0;have hi:i<13:=Mem.I8 hok hb0;match i,hi with
 | 0,_=>
  rw [g0] at hb0;cases hb0;refine ni (by rfl) (by decide) rfl ⟨hb 11 _ g11 rfl,trivial⟩ λj v hv=>?_;obtain rfl:j=0:=by have:=(J5.1 hv).1;simpa using this
  cases hv;have:=World.var?_cell gn0 h2 0;simpa [o8,K4.at,WJ] using this
 | 1,_=>
  rw [g1] at hb0;cases hb0;refine ni (by rfl) (by decide) rfl ⟨hb 12 _ g12 rfl,trivial⟩ λj v hv=>?_;obtain rfl:j=0:=by have:=(J5.1 hv).1;simpa using this
  cases hv;have:=World.var?_cell gn1 h3 0;simpa [o8,K4.at,WJ] using this
 | 2,_=>rw [g2] at hb0;cases hb0;trivial
 | 3,_=>rw [g3] at hb0;cases hb0;exact ni (by simp) (by decide) rfl (FB _ _ _) (IX gn3 hP _)
 | 4,_=>rw [g4] at hb0;cases hb0;exact ni (by simp) (by decide) rfl (FB _ _ _) (IX gn4 hA _)
 | 5,_=>rw [g5] at hb0;cases hb0;trivial
 | 6,_=>rw [g6] at hb0;cases hb0;trivial
 | 7,_=>rw [g7] at hb0;cases hb0;trivial
 | 8,_=>rw [g8] at hb0;cases hb0;trivial
 | 9,_=>rw [g9] at hb0;cases hb0;trivial
 | 10,_=>rw [g10] at hb0;cases hb0;trivial
 | 11,_=>rw [g11] at hb0;cases hb0;trivial
 | 12,_=>rw [g12] at hb0;cases hb0;trivial
 have hb0:base.get i=some b:=hb0;have h1:i<13:=Mem.I8 hok hb0;have h2:base.nx<=i:=hi;rw [hn] at h2;omega;rw [IV] at hi;match i,hi with
 | 0,_=>exact⟨_,g0,rfl⟩
 | 1,_=>exact⟨_,g1,rfl⟩
 | 2,_=>exact⟨_,g2,rfl⟩
 | 3,_=>exact⟨_,g3,rfl⟩
 | 4,_=>exact⟨_,g4,rfl⟩
 | 5,_=>exact⟨_,g5,rfl⟩
 | 6,_=>exact⟨_,g6,rfl⟩
 | 7,_=>exact⟨_,g7,rfl⟩
 | 8,_=>exact⟨_,g8,rfl⟩
 | 9,_=>exact⟨_,g9,rfl⟩
 | 10,_=>exact⟨_,g10,rfl⟩
 rw [IV] at hi;match i,hi with
 | 0,_ | 1,_ | 2,_ | 3,_ | 4,_ | 5,_ | 6,_ | 7,_ | 8,_ | 9,_ | 10,_=>exact⟨rfl,rfl,rfl⟩
 have hb0:base.get i=some b:=hb0;have hi:i<13:=Mem.I8 hok hb0;match i,hi with
 | 0,_ | 1,_ | 2,_ | 3,_ | 4,_ | 5,_ | 6,_ | 7,_ | 8,_ | 9,_ | 10,_=>rfl
 | 11,_=>rw [g11] at hb0;cases hb0;cases hl
 | 12,_=>rw [g12] at hb0;cases hb0;cases hl
 rw [IV] at hi;have tab:∀{n:String} {k:IntKind} {ns:List Int} {g N:Nat},Tryz.prog.globalNamed n=some g->ns.length=N->Lib.TabIs Tryz.prog w n k ns->∃c e fz,w.heap[g]?=some (Obj.cells c e fz)∧c.size=1*N:=λhn hN ht=>by obtain⟨e,fz,h⟩:=IW hn ht;exact⟨_,e,fz,h,by simp [hN]⟩
 have one:∀{n:String} {x:Value} {g:Nat},Tryz.prog.globalNamed n=some g->w.var? Tryz.prog n=some #[x]->∃c e fz,w.heap[g]?=some (Obj.cells c e fz)∧c.size=1*1:=λhn ht=>by obtain⟨e,fz,h⟩:=IW hn ht;exact⟨_,e,fz,h,rfl⟩
 match i,hi with
 | 0,_=>rw [g0] at hg;cases hg;exact one gn0 h2
 | 1,_=>rw [g1] at hg;cases hg;exact one gn1 h3
 | 3,_=>rw [g3] at hg;cases hg;exact tab gn3 rfl hP
 | 4,_=>rw [g4] at hg;cases hg;exact tab gn4 rfl hA
 | 2,_=>rw [g2] at hg;cases hg
 | 5,_=>rw [g5] at hg;cases hg
 | 6,_=>rw [g6] at hg;cases hg
 | 7,_=>rw [g7] at hg;cases hg
 | 8,_=>rw [g8] at hg;cases hg
 | 9,_=>rw [g9] at hg;cases hg
 | 10,_=>rw [g10] at hg;cases hg
open Go Go.AM Go.ChangeShapes Go.WideShapes Go.ChangeAt Go.RowKit
theorem NU {H:Type}{enc:TypeId×Value->H}{P:Program}{f:Func}{s:ChangeSpec}{apart fresh handsOn again:Bool}{W W':World}{args:Array Value}{v:Value}{ds gs:List (DataW H)}{before pa pv:List MemPlace}
  (hW:DataW.Whole enc P f.params.toList s.vars apart W args.toList ds gs before)
  (hres:∀(b:Nat) (sp:Nat->Bool) (hd:Bool),DataW.TrodAll enc P W' b sp hd f.resultTypes.toList (v.resultList f.resultTypes.size) (s.fn H (ds++gs)).results [])
  (hargs:∀sp:Nat->Bool,(∀p∈before,sp p.block=true)->DataW.TrodAll enc P W' 0 sp true f.params.toList args.toList (s.fn H (ds++gs)).args pa)
  (hvars:∀sp:Nat->Bool,(∀p∈before,sp p.block=true)->DataW.TrodVars enc P W' sp s.vars (s.fn H (ds++gs)).vars pv)
  (hps:before=pa++pv) (hk:W.keptBut W' (·∈before)) (hfz:∀a,a.block<W.heap.size->W'.frozen? a=W.frozen? a)
  (hok:∀(j:Nat) (t:TypeId) (r:Value),f.resultTypes[j]?=some t->(v.resultList f.resultTypes.size)[j]?=some r->Value.okWide P W' .any 0 t r):
  s.post enc P f apart fresh handsOn again W args v W':=by
 have hold:∀p∈before,(λb=>decide (b<W.heap.size)) p.block=true:=λp hp=>by simpa using hW.lt p hp
 have hlt:=hW.lt;refine⟨ds,gs,before,[],pa,pv,hW,hres _ _ _,hargs _ hold,hvars _ hold,World.keptBut_mono (λp hp=>⟨hp,?_⟩) hk,λ_=>?_⟩;rw [hps,aaF] at hp;exact Or.inr hp;obtain⟨_,_,_,_,_,hz,hn⟩:=hW;refine⟨hok,_,_,([]++pa)++pv,⟨[]++pa,pv,trodAll_append (hargs _ (λ_ _=>rfl)) (hres _ _ _),hvars _ (λ_ _=>rfl),rfl,?_,?_⟩,?_⟩;intro b off hp;have hb:MemPlace.cell b off∈before:=by rw [hps];simpa using hp
 rw [hfz _ (hlt _ hb)];exact hz b off hb;intro ha;have:=hn ha;rw [hps] at this;simpa using this;intro p hp _;rw [hps];simpa using hp
open Go Go.AM
variable {H:Type}{enc:TypeId×Value->H}{held:Bool}
theorem anf:Ez Tryz.prog 7 9=true:=by kernel_rfl
theorem t9:acY Tryz.prog 9=true:=by kernel_rfl
theorem acZ {ι:K4}{m:Mem}{w:World}(hm:RM Tryz.prog base ι m w.heap)(hl:m.lim=m.nx){n0:Nat}{cs0:List Value}{x0:DataW H×List MemPlace}
  (h0:DataW.trod enc Tryz.prog w 0 (λ_=>true) held n0 9 cs0=some x0):
  ∃v0,cs0=[v0]∧Calls Tryz.prog 4 #[v0] w λe w'=>e=.returned (.bool true)∧w.heap.size<=w'.heap.size∧(∀b,b<w.heap.size->w'.heap[b]?=w.heap[b]?)∧w'.os=w.os∧w'.output=w.output∧w'.tape=w.tape:=by
 obtain⟨ι0,m0,vs0,L0,c0,l0,S0⟩:=lift 7 _ _ _ _ h0 anf ι m hm hl;have hk:m0.Ok:=L0.rm.ok;obtain⟨s0,rfl⟩:=ZM t9 S0;obtain⟨m9,g,E⟩:=agT hk (Nat.le_of_eq L0.lim) s0 25000 20000 (J2 _) (J2 _);obtain⟨l9,g,hl9⟩:∃l,o9 KW 20000 (25000+1) (.func 4) [.str s0] m0=some l∧∀r∈l,r=⟨.bool true,m9⟩:=by rcases g with g | g;exact⟨_,g,λr hr=>J3.1 hr⟩;exact⟨_,g,λr hr=>by simpa using hr⟩
 have k0:y7 ι0 [.str s0]=cs0:=by exact c0
 have q0:=l0;refine⟨o8 ι0 (.str s0),by rw [← k0];simp [y7],?_⟩;have hargs:aS (m0.nm ι0) [.str s0]:=by refine⟨?_,trivial⟩;exact q0.1
 have hc:=((Av ahc 20000 (25000+1)).func g).2 L0.rm hargs;have he:(y7 ι0 [.str s0]).toArray=#[o8 ι0 (.str s0)]:=by simp [y7,o8]
 rw [he] at hc;refine callsIn_wide.1 (hc.mono ?_);rintro e w' (⟨u,rfl,r,hr,ι9,hst,hlt,rfl⟩ | ⟨r,hr,x,ι9,hx,_⟩);obtain rfl:=hl9 r hr;refine⟨by simp [o8],hst.size,λb hb=>hst.frame b hb ?_,hst.os,hst.out,hst.tape⟩;rintro⟨i,x,hi,hx,_,_⟩;have:=Mem.I8 hk hx;have:=L0.lim;omega;obtain rfl:=hl9 r hr;cases hx
end Go.Proofs.YteecnooaopfkeaaGreatDoor.TT
