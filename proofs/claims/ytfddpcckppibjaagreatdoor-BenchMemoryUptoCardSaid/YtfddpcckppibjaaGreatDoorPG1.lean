/- The row of BenchMemory, lifted from its walk; conditions: the row's own. -/
import Derived.Test.YtfddpcckppibjaaGreatDoorPG0
import Derived.Test.YtfddpcckppibjaaGreatDoorPT3
import Derived.Test.YtfddpcckppibjaaGreatDoorRows
import Derived.ProofKit
import Derived.LaidMore
import Derived.Lib.LaidU8
import Derived.Stop.LaidErr
import Derived.Lay
import Derived.JoinedCond
set_option linter.all false
namespace Go.Proofs.YtfddpcckppibjaaGreatDoor.TT
open Go Go.AM Go.ChangeShapes Go.WideShapes Go.ChangeAt Go.RowKit
set_option maxRecDepth 100000
theorem gy0:(Tryz.prog.globals[0]?).map (·.type)=some 138:=by kernel_rfl
theorem gy1:(Tryz.prog.globals[1]?).map (·.type)=some 138:=by kernel_rfl
theorem gy4:(Tryz.prog.globals[4]?).map (·.type)=some 566:=by kernel_rfl
theorem gy3:(Tryz.prog.globals[3]?).map (·.type)=some 517:=by kernel_rfl
theorem gz5:Tryz.prog.underlying 5=some (.int .u8):=by kernel_rfl
theorem gz9:Tryz.prog.underlying 9=some .string:=by kernel_rfl
theorem ak9:Tryz.prog.underlying 517=some (.array 256 5):=by kernel_rfl
theorem apE:Tryz.prog.underlying 283=some (.int .u64):=by kernel_rfl
theorem akb:Tryz.prog.underlying 566=some (.array 20 283):=by kernel_rfl
theorem Uy {P:Program}{t:TypeId}(h:(match P.underlying t with | some (.interface _)=>true | _=>false)=true):∃ms,P.underlying t=some (.interface ms):=by split at h;rename_i ms a;exact⟨ms,a⟩;cases h
theorem abH {P:Program}{t u:TypeId}(h:(match P.underlying t with | some (.struct ⟨[f]⟩)=>Nat.beq f.type u&&Nat.beq f.offset 0 | _=>false)=true):∃f:Field,P.underlying t=some (.struct #[f])∧f.type=u∧f.offset=0:=by split at h;rename_i f a;simp only [q8] at h;exact⟨f,a,gI h.1,gI h.2⟩;cases h
theorem apF:∃ms,Tryz.prog.underlying 138=some (.interface ms):=Uy (by kernel_rfl)
theorem acQ:Tryz.prog.underlying 432=some (.pointer 434):=by kernel_rfl
theorem akc:∃f:Field,Tryz.prog.underlying 434=some (.struct #[f])∧f.type=9∧f.offset=0:=abH (by kernel_rfl)
theorem gc5:Tryz.prog.cellsOf 5=1:=by kernel_rfl
theorem gc9:Tryz.prog.cellsOf 9=1:=by kernel_rfl
theorem akd:Tryz.prog.cellsOf 517=256:=by kernel_rfl
theorem apG:Tryz.prog.cellsOf 283=1:=by kernel_rfl
theorem ake:Tryz.prog.cellsOf 566=20:=by kernel_rfl
theorem acR:Tryz.prog.cellsOf 434=1:=by kernel_rfl
theorem acS: "*" ++ "errors.errorString"= "*errors.errorString":=by decide
theorem Sj (u:TypeId)(h:Tryz.prog.typeName? 3 u=some "*errors.errorString"):u=432:=
 typeName_ptr_named (nm:= "errors.errorString") (by rw [acS];kernel_rfl) (by kernel_rfl) (by decide) u (by rw [acS];exact h)
theorem dA:(Rows.laid_strings_asciiSpace:DataW Unit)=Lib.tabData .u8 nsA:=by kernel_rfl
theorem dP:(Rows.laid_internal_strconv_uint64pow10:DataW Unit)=Lib.tabData .u64 nsP:=by kernel_rfl
theorem abI {W:World}{l m n o:String×DataW Unit}{c:List (String×DataW Unit)}(h:laidMet Tryz.prog (("internal/strconv.uint64pow10",Rows.laid_internal_strconv_uint64pow10)::l::m::("strconv.ErrSyntax",Rows.laid_strconv_ErrSyntax)::("strconv.ErrRange",Rows.laid_strconv_ErrRange)::n::o::("strings.asciiSpace",Rows.laid_strings_asciiSpace)::c) W):
  ∃ι,RM Tryz.prog base ι (U4 base []) W.heap:=by
 rw [dA,dP] at h;obtain⟨r,b⟩:=apF;obtain⟨f,a,e,d⟩:=akc;have i:=Lib.tabIs_of_head gn4 gy4 akb apE apG ake h;have h:=laidMet.tail (laidMet.tail (laidMet.tail h));obtain⟨p,s,j,_⟩:=laid_sentinel h gn0 gy0 b Sj acQ a e d gz9 acR gc9;have h:=laidMet.tail h;obtain⟨q,t,k,_⟩:=laid_sentinel h gn1 gy1 b Sj acQ a e d gz9 acR gc9;have h:=laidMet.tail (laidMet.tail (laidMet.tail h));have g:=Lib.tabIs_of_head gn3 gy3 ak9 gz5 gc5 akd h;exact abG i g j k
theorem YB {W:World}(h:laidMetH Tryz.prog Rows.benchMemoryUptoRow.laid W):∃ι,RM Tryz.prog base ι (U4 base []) W.heap:=by rw [MakeChecks.laidMetH_plain _ _ _ (by kernel_rfl)] at h;exact abI h
theorem apH:ownKnob Tryz.prog.godebug=none:=by kernel_rfl
theorem sz5:22<Tryz.prog.types.size:=of_decide_eq_true (by kernel_rfl)
theorem akf:Tryz.prog.readableRec 22=true:=by kernel_rfl
theorem apI:Tryz.prog.underlying 22=some (.slice 42):=by kernel_rfl
theorem YC:Tryz.prog.underlying 4=some .bool:=by kernel_rfl
theorem QD {H:Type}{d:TypeId×Value->H}{C:Checked}{M:Os}{f:FuncId}{fn:Func}{s:OpenSpec}{k:(H:Type)->List (DataW H)->Bool}(O:s.cond=some k){F:Stop.Interp}{b:List PathCond}{a l c h:Bool}{X:World->Prop}
  (P:∀(w w':World),w.heap=w'.heap->X w->X w')
  (N:ownKnob C.prog.godebug=none) (m:M.Started) (o:C.prog.inits.idxOf? f=none) (E:C.prog.funcs[f]?=some fn)
  (z:World) (args:Array Value) (p:Nat) (x:List (DataW H)×List (DataW H)×List MemPlace) (I:z.os=M)
  (J:(z.forCall (λ_ _=>0) ⟨#[],args,[]⟩).Shaped C.prog)
  (n:Input.okWideB C.prog (z.forCall (λ_ _=>0) ⟨#[],args,[]⟩) f ⟨#[],args,[]⟩=true)
  (R:DataW.whole d C.prog (z.forCall (λ_ _=>0) ⟨#[],args,[]⟩).memory fn.params.toList s.vars a args.toList p=some x)
  (u:b.all (PathCond.test C.prog ⟨fn.params.toList,x.1,s.bare.plain.varTypes C.prog,x.2.1⟩)=true) (y:k H (x.1++x.2.1)=true)
  (K:s.bare.sizedB d C.prog fn a (z.forCall (λ_ _=>0) ⟨#[],args,[]⟩).memory args p=true)
  (G:X (z.forCall (λ_ _=>0) ⟨#[],args,[]⟩).memory)
  (g:∀(W:World) (base:Nat) (args:Array Value) (ds gs:List (DataW H)) (before:List MemPlace),
   (∀(j:Nat) t v,fn.params[j]?=some t->args[j]?=some v->Value.okWide C.prog W .any base t v)->
   DataW.Whole d C.prog fn.params.toList s.vars a W args.toList ds gs before->k H (ds++gs)=true->X W->
   Calls C.prog f args W λe W'=>∃v,e=.returned v∧(s.at F).post d C.prog fn a l c h W args v W'):
  ReturnsInHanded {} C M f .any (λw args=>(s.pre d C.prog fn b a w args∧X w)∧sizedMet d C.prog fn s a w args) ((s.at F).post d C.prog fn a l c h):=by
 refine returnsInHanded_of_calls N m o ⟨z,λ_ _=>0,⟨#[],args,[]⟩,I,J,(Input.okWide_of_okWideB (base:=0) n).1,(Input.okWide_of_okWideB n).2,
  ⟨⟨(OpenSpec.pre_some O b a _ _).2 ⟨x.1,x.2.1,x.2.2,DataW.Whole_of_whole R,u,y⟩,G⟩,sizedMet_of_sizedB K⟩,by
  simp only [Assume.holds];exact⟨by simp,by simp,λ_=>Modest.zero,by simp,by simp⟩⟩ ?_
 intro w r i _ _ _ n q _;obtain⟨_,_,_,D,A,_,_,_,_,B⟩:=n;have e:D=fn:=Y4 (A.symm.trans E);subst e;obtain⟨ds,gs,before,Q,_,y⟩:=(OpenSpec.pre_some O b a _ _).1 q.1.1;have L:=DataW.Whole.of_heap (w':=w.forCall r i) (by rfl) Q;refine (g (w.forCall r i) w.heap.size i.args ds gs before B L y (P _ _ (by rfl) q.1.2)).mono λe W' ⟨v,he,hp⟩=>?_;subst he;exact ChangeSpec.post_blind hp
theorem abJ (z:Os)(a:z.Started)(H:Type)(b:TypeId×Value->H)(F:Stop.Interp):
  ReturnsInHanded {} Tryz.checked z 5 .any (λw args=>((Rows.OpenSpec.upto Rows.benchMemorySpec).pre b Tryz.prog Tryz.f5 [] false w args∧laidMetH Tryz.prog Rows.benchMemoryUptoRow.laid w)∧sizedMet b Tryz.prog Tryz.f5 (Rows.OpenSpec.upto Rows.benchMemorySpec) false w args)
   (((Rows.OpenSpec.upto Rows.benchMemorySpec).at F).post b Tryz.prog Tryz.f5 false true false false):=by
 refine QD (C:=Tryz.checked) (k:=Rows.uptoSmall) rfl (X:=λw=>laidMetH Tryz.prog Rows.benchMemoryUptoRow.laid w) (λ_ _ Q h=>h.of_heap Q) apH a (by kernel_rfl) Tryz.func5
  (World.laidAll Tryz.prog z Rows.benchMemoryUptoRow.laid) #[.slice none 0 0] 8 ([.nil],[],[]) (World.laidAll_os _ _ _) (World.shaped_of_ZipB (by kernel_rfl) (by kernel_rfl)) (by kernel_rfl) (by kernel_rfl) (by rfl) (by kernel_rfl) (by kernel_rfl) (by rw [MakeChecks.laidMetH_plain _ _ _ (by kernel_rfl)];exact laidMet_laidAll _ (by kernel_rfl) (by kernel_rfl)) ?_
 intro W l args L gs n g G u M;have c:∀(j:Nat) t v,Tryz.f5.params[j]?=some t->args[j]?=some v->Value.okWide Tryz.prog W .any l t v:=g;have f:=G;obtain⟨p0,q,p,N,rfl,P,T⟩:=G;have E:DataW.TrodAll b Tryz.prog W 0 (λ_=>true) true Tryz.f5.params.toList args.toList L p0:=p;rw [Tryz.params5] at E c;obtain⟨Y,B,rfl,rfl,D⟩:=trodAll_one E;obtain⟨rfl,rfl⟩:=trodVars_none N;obtain⟨A,d,cap0,rfl⟩:=okWide_slice apI (c 0 22 Y rfl rfl);obtain⟨ι,S⟩:=YB M;obtain⟨Z,V⟩:=id D;have r:Rows.uptoBulk B<=1048576:=by have h:Rows.uptoBulkAll ([B] ++ [])<=1048576:=of_decide_eq_true u;rw [vJ] at h;simpa using h
 obtain⟨K,o,I⟩:=afu S rfl V r (J2 _);have o:K=.slice A d cap0:=by have:=o;simp [Value.cells] at this;exact this.symm
 have s:(#[K]:Array Value)=#[.slice A d cap0]:=by rw [o]
 rw [s] at I;refine I.mono λe W' ⟨he,h3,h4,h5,h6,h7⟩=>?_;subst he;have O:Below W.heap.size W W':=⟨h5,h7,h6,h3,h4⟩;refine⟨_,rfl,?_⟩;simp only [ae8] at f;have U:=f.lt;have R:∀may,W.keptBut W' may:=λmay=>by refine⟨h5,h6,λi J=>?_⟩;have:=(World.keptBut_refl W may).2.2 i J;rw [h4 i J];exact this
 refine Oo (pa:=p0) (pv:=[]) f (λ_ _ _=>trodAll_mk1 (shut_bool YC _)) (λsp y=>?_) (λ_ _=>rfl) (by simp) (R _) (λx m=>by unfold World.frozen?;rw [h4 _ m]) (ok_one (by kernel_rfl) rfl (okWide_bool_mk YC _));rw [Tryz.params5];exact⟨p0,[],WideElems.Trod_stays laidOut akf sz5 D (λx m=>O.same (U x m)) (λx m=>y x m),rfl,by simp⟩
end Go.Proofs.YtfddpcckppibjaaGreatDoor.TT
