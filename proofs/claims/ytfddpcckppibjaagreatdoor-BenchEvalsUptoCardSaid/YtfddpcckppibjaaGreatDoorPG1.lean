/- The row of BenchEvals, lifted from its walk; conditions: the row's own. -/
import Derived.Test.YtfddpcckppibjaaGreatDoorPG0
import Derived.Test.YtfddpcckppibjaaGreatDoorPT3
import Derived.Test.YtfddpcckppibjaaGreatDoorRows
import Derived.ProofKit
import Derived.LaidMore
import Derived.Lib.LaidU8
import Derived.Stop.LaidErr
import Derived.Lay
import Derived.JoinedCond
set_option linter.all false
namespace Go.Proofs.YtfddpcckppibjaaGreatDoor.TT
open Go Go.AM Go.ChangeShapes Go.WideShapes Go.ChangeAt Go.RowKit
set_option maxRecDepth 100000
theorem gy0:(Tryz.prog.globals[0]?).map (·.type)=some 138:=by kernel_rfl
theorem gy1:(Tryz.prog.globals[1]?).map (·.type)=some 138:=by kernel_rfl
theorem gy4:(Tryz.prog.globals[4]?).map (·.type)=some 566:=by kernel_rfl
theorem gy3:(Tryz.prog.globals[3]?).map (·.type)=some 517:=by kernel_rfl
theorem gz5:Tryz.prog.underlying 5=some (.int .u8):=by kernel_rfl
theorem gz9:Tryz.prog.underlying 9=some .string:=by kernel_rfl
theorem aiE:Tryz.prog.underlying 517=some (.array 256 5):=by kernel_rfl
theorem apf:Tryz.prog.underlying 283=some (.int .u64):=by kernel_rfl
theorem aiF:Tryz.prog.underlying 566=some (.array 20 283):=by kernel_rfl
theorem Sn {P:Program}{t:TypeId}(h:(match P.underlying t with | some (.interface _)=>true | _=>false)=true):∃ms,P.underlying t=some (.interface ms):=by split at h;rename_i ms a;exact⟨ms,a⟩;cases h
theorem ZP {P:Program}{t u:TypeId}(h:(match P.underlying t with | some (.struct ⟨[f]⟩)=>Nat.beq f.type u&&Nat.beq f.offset 0 | _=>false)=true):∃f:Field,P.underlying t=some (.struct #[f])∧f.type=u∧f.offset=0:=by split at h;rename_i f a;simp only [gI] at h;exact⟨f,a,aP h.1,aP h.2⟩;cases h
theorem apg:∃ms,Tryz.prog.underlying 138=some (.interface ms):=Sn (by kernel_rfl)
theorem aaS:Tryz.prog.underlying 432=some (.pointer 434):=by kernel_rfl
theorem aiG:∃f:Field,Tryz.prog.underlying 434=some (.struct #[f])∧f.type=9∧f.offset=0:=ZP (by kernel_rfl)
theorem gc5:Tryz.prog.cellsOf 5=1:=by kernel_rfl
theorem gc9:Tryz.prog.cellsOf 9=1:=by kernel_rfl
theorem aiH:Tryz.prog.cellsOf 517=256:=by kernel_rfl
theorem aph:Tryz.prog.cellsOf 283=1:=by kernel_rfl
theorem aiI:Tryz.prog.cellsOf 566=20:=by kernel_rfl
theorem aaT:Tryz.prog.cellsOf 434=1:=by kernel_rfl
theorem aaU: "*" ++ "errors.errorString"= "*errors.errorString":=by decide
theorem Qp (u:TypeId)(h:Tryz.prog.typeName? 3 u=some "*errors.errorString"):u=432:=
 typeName_ptr_named (nm:= "errors.errorString") (by rw [aaU];kernel_rfl) (by kernel_rfl) (by decide) u (by rw [aaU];exact h)
theorem dA:(Rows.laid_strings_asciiSpace:DataW Unit)=Lib.tabData .u8 nsA:=by kernel_rfl
theorem dP:(Rows.laid_internal_strconv_uint64pow10:DataW Unit)=Lib.tabData .u64 nsP:=by kernel_rfl
theorem ZQ {W:World}{l x2 m n:String×DataW Unit}{c:List (String×DataW Unit)}(h:laidMet Tryz.prog (("strconv.ErrSyntax",Rows.laid_strconv_ErrSyntax)::("strconv.ErrRange",Rows.laid_strconv_ErrRange)::("internal/strconv.uint64pow10",Rows.laid_internal_strconv_uint64pow10)::l::x2::m::n::("strings.asciiSpace",Rows.laid_strings_asciiSpace)::c) W):
  ∃ι,RM Tryz.prog base ι (R5 base []) W.heap:=by
 rw [dA,dP] at h;obtain⟨q,b⟩:=apg;obtain⟨f,a,e,d⟩:=aiG;obtain⟨o,r,j,_⟩:=laid_sentinel h gn0 gy0 b Qp aaS a e d gz9 aaT gc9;have h:=laidMet.tail h;obtain⟨p,s,k,_⟩:=laid_sentinel h gn1 gy1 b Qp aaS a e d gz9 aaT gc9;have h:=laidMet.tail h;have i:=Lib.tabIs_of_head gn4 gy4 aiF apf aph aiI h;have h:=laidMet.tail (laidMet.tail (laidMet.tail (laidMet.tail (laidMet.tail h))));have g:=Lib.tabIs_of_head gn3 gy3 aiE gz5 gc5 aiH h;exact ZN i g j k
theorem WC {W:World}(h:laidMetH Tryz.prog Rows.benchEvalsUptoRow.laid W):∃ι,RM Tryz.prog base ι (R5 base []) W.heap:=by rw [MakeChecks.laidMetH_plain _ _ _ (by kernel_rfl)] at h;exact ZQ h
theorem apj:ownKnob Tryz.prog.godebug=none:=by kernel_rfl
theorem sz4:33<Tryz.prog.types.size:=of_decide_eq_true (by kernel_rfl)
theorem aiJ:Tryz.prog.readableRec 33=true:=by kernel_rfl
theorem aiK:34<Tryz.prog.types.size:=of_decide_eq_true (by kernel_rfl)
theorem ZR:Tryz.prog.readableRec 34=true:=by kernel_rfl
theorem adA:Tryz.prog.underlying 34=some (.slice 62):=by kernel_rfl
theorem adB {P:Program}{t:TypeId}{ts:List TypeId}(h:fdT P t=some ts):∃fs,P.underlying t=some (.struct fs):=by unfold fdT at h;split at h;rename_i fs a;exact⟨fs,a⟩;cases h
theorem WE:Tryz.prog.underlying 4=some .bool:=by kernel_rfl
theorem Oy {H:Type}{d:TypeId×Value->H}{C:Checked}{M:Os}{f:FuncId}{fn:Func}{s:OpenSpec}{k:(H:Type)->List (DataW H)->Bool}(O:s.cond=some k){F:Stop.Interp}{b:List PathCond}{a l c h:Bool}{X:World->Prop}
  (P:∀(w w':World),w.heap=w'.heap->X w->X w')
  (N:ownKnob C.prog.godebug=none) (m:M.Started) (o:C.prog.inits.idxOf? f=none) (E:C.prog.funcs[f]?=some fn)
  (z:World) (args:Array Value) (p:Nat) (x:List (DataW H)×List (DataW H)×List MemPlace) (I:z.os=M)
  (J:(z.forCall (λ_ _=>0) ⟨#[],args,[]⟩).Shaped C.prog)
  (n:Input.okWideB C.prog (z.forCall (λ_ _=>0) ⟨#[],args,[]⟩) f ⟨#[],args,[]⟩=true)
  (R:DataW.whole d C.prog (z.forCall (λ_ _=>0) ⟨#[],args,[]⟩).memory fn.params.toList s.vars a args.toList p=some x)
  (u:b.all (PathCond.test C.prog ⟨fn.params.toList,x.1,s.bare.plain.varTypes C.prog,x.2.1⟩)=true) (y:k H (x.1++x.2.1)=true)
  (K:s.bare.sizedB d C.prog fn a (z.forCall (λ_ _=>0) ⟨#[],args,[]⟩).memory args p=true)
  (G:X (z.forCall (λ_ _=>0) ⟨#[],args,[]⟩).memory)
  (g:∀(W:World) (base:Nat) (args:Array Value) (ds gs:List (DataW H)) (before:List MemPlace),
   (∀(j:Nat) t v,fn.params[j]?=some t->args[j]?=some v->Value.okWide C.prog W .any base t v)->
   DataW.Whole d C.prog fn.params.toList s.vars a W args.toList ds gs before->k H (ds++gs)=true->X W->
   Calls C.prog f args W λe W'=>∃v,e=.returned v∧(s.at F).post d C.prog fn a l c h W args v W'):
  ReturnsInHanded {} C M f .any (λw args=>(s.pre d C.prog fn b a w args∧X w)∧sizedMet d C.prog fn s a w args) ((s.at F).post d C.prog fn a l c h):=by
 refine returnsInHanded_of_calls N m o ⟨z,λ_ _=>0,⟨#[],args,[]⟩,I,J,(Input.okWide_of_okWideB (base:=0) n).1,(Input.okWide_of_okWideB n).2,
  ⟨⟨(OpenSpec.pre_some O b a _ _).2 ⟨x.1,x.2.1,x.2.2,DataW.Whole_of_whole R,u,y⟩,G⟩,sizedMet_of_sizedB K⟩,by
  simp only [Assume.holds];exact⟨by simp,by simp,λ_=>Modest.zero,by simp,by simp⟩⟩ ?_
 intro w r i _ _ _ n q _;obtain⟨_,_,_,D,A,_,_,_,_,B⟩:=n;have e:D=fn:=Xd (A.symm.trans E);subst e;obtain⟨ds,gs,before,Q,_,y⟩:=(OpenSpec.pre_some O b a _ _).1 q.1.1;have L:=DataW.Whole.of_heap (w':=w.forCall r i) (by rfl) Q;refine (g (w.forCall r i) w.heap.size i.args ds gs before B L y (P _ _ (by rfl) q.1.2)).mono λe W' ⟨v,he,hp⟩=>?_;subst he;exact ChangeSpec.post_blind hp
theorem ZT (A:Os)(c:A.Started)(H:Type)(d:TypeId×Value->H)(F:Stop.Interp):
  ReturnsInHanded {} Tryz.checked A 4 .any (λw args=>((Rows.OpenSpec.upto Rows.benchEvalsSpec).pre d Tryz.prog Tryz.f4 [] false w args∧laidMetH Tryz.prog Rows.benchEvalsUptoRow.laid w)∧sizedMet d Tryz.prog Tryz.f4 (Rows.OpenSpec.upto Rows.benchEvalsSpec) false w args)
   (((Rows.OpenSpec.upto Rows.benchEvalsSpec).at F).post d Tryz.prog Tryz.f4 false true false false):=by
 refine Oy (C:=Tryz.checked) (k:=Rows.uptoSmall) rfl (X:=λw=>laidMetH Tryz.prog Rows.benchEvalsUptoRow.laid w) (λ_ _ Z h=>h.of_heap Z) apj c (by kernel_rfl) Tryz.func4
  (World.laidAll Tryz.prog A Rows.benchEvalsUptoRow.laid) #[.agg #[.int .i64 0,.int .i64 0,.string ⟨#[]⟩,.slice none 0 0],.slice none 0 0] 8 ([.agg [.lit (.int .i64 0),.lit (.int .i64 0),.lit (.string []),.nil],.nil],[],[]) (World.laidAll_os _ _ _) (World.shaped_of_ZipB (by kernel_rfl) (by kernel_rfl)) (by kernel_rfl) (by kernel_rfl) (by rfl) (by kernel_rfl) (by kernel_rfl) (by rw [MakeChecks.laidMetH_plain _ _ _ (by kernel_rfl)];exact laidMet_laidAll _ (by kernel_rfl) (by kernel_rfl)) ?_
 intro W m args T gs o l K z U;have b:∀(j:Nat) t v,Tryz.f4.params[j]?=some t->args[j]?=some v->Value.okWide Tryz.prog W .any m t v:=l;have g:=K;obtain⟨p0,q,r,V,rfl,Y,a0⟩:=K;have J:DataW.TrodAll d Tryz.prog W 0 (λ_=>true) true Tryz.f4.params.toList args.toList T p0:=r;rw [Tryz.params4] at J b;obtain⟨v0,v1,E,S,p0,p1,rfl,rfl,rfl,G,I⟩:=trodAll_two J;obtain⟨rfl,rfl⟩:=trodVars_none V;obtain⟨fs,y⟩:=adB Qo.e;obtain⟨D,rfl,_⟩:=okWide_struct y (b 0 33 v0 rfl rfl);obtain⟨B,f,cap1,rfl⟩:=okWide_slice adA (b 1 34 v1 rfl rfl);obtain⟨ι,hm⟩:=WC U;obtain⟨f0,t0⟩:=id G;obtain⟨f1,t1⟩:=id I;have s:Rows.uptoBulk E<=1048576:=by have h:Rows.uptoBulkAll ([E,S] ++ [])<=1048576:=of_decide_eq_true z;rw [kL] at h;simp at h;omega
 obtain⟨R,p,M⟩:=adz hm rfl t0 t1 s;have p:R=.slice B f cap1:=by have:=p;simp [Value.cells] at this;exact this.symm
 have u:(#[.agg (Value.agg D).cells.toList.toArray,R]:Array Value)=#[.agg D,.slice B f cap1]:=by rw [p];simp [Value.cells]
 rw [u] at M;refine M.mono λe W' ⟨he,h3,h4,h5,h6,h7⟩=>?_;subst he;have L:Below W.heap.size W W':=⟨h5,h7,h6,h3,h4⟩;refine⟨_,rfl,?_⟩;simp only [agn] at g;have O:=g.lt;have hk:∀may,W.keptBut W' may:=λmay=>by refine⟨h5,h6,λi N=>?_⟩;have:=(World.keptBut_refl W may).2.2 i N;rw [h4 i N];exact this
 have P:∀x,x∈p0->x∈p0++p1:=λx a=>by simp [a]
 have Q:∀x,x∈p1->x∈p0++p1:=λx a=>by simp [a]
 refine Mx (pa:=p0++p1) (pv:=[]) g (λ_ _ _=>trodAll_mk1 (shut_bool WE _)) (λsp n=>?_) (λ_ _=>rfl) (by simp) (hk _) (λx a=>by unfold World.frozen?;rw [h4 _ a]) (ok_one (by kernel_rfl) rfl (okWide_bool_mk WE _));rw [Tryz.params4];exact⟨p0,p1,WideElems.Trod_stays laidOut aiJ sz4 G (λx a=>L.same (O x (P x a))) (λx a=>n x (P x a)),⟨p1,[],WideElems.Trod_stays laidOut ZR aiK I (λx a=>L.same (O x (Q x a))) (λx a=>n x (Q x a)),rfl,by simp⟩,by simp⟩
end Go.Proofs.YtfddpcckppibjaaGreatDoor.TT
