/- The row of BenchBack, lifted from its walk; conditions: the row's own. -/
import Derived.Test.YteecnooaopfkeaaGreatDoorPG0
import Derived.Test.YteecnooaopfkeaaGreatDoorPT3
import Derived.Test.YteecnooaopfkeaaGreatDoorRows
import Derived.ProofKit
import Derived.LaidMore
import Derived.Lib.LaidU8
import Derived.Stop.LaidErr
import Derived.Lay
import Derived.JoinedCond
set_option linter.all false
namespace Go.Proofs.YteecnooaopfkeaaGreatDoor.TT
open Go Go.AM Go.ChangeShapes Go.WideShapes Go.ChangeAt Go.RowKit
set_option maxRecDepth 100000
theorem gy0:(Tryz.prog.globals[0]?).map (·.type)=some 93:=by kernel_rfl
theorem gy1:(Tryz.prog.globals[1]?).map (·.type)=some 93:=by kernel_rfl
theorem gy3:(Tryz.prog.globals[3]?).map (·.type)=some 532:=by kernel_rfl
theorem gy4:(Tryz.prog.globals[4]?).map (·.type)=some 537:=by kernel_rfl
theorem gz5:Tryz.prog.underlying 5=some (.int .u8):=by kernel_rfl
theorem gz9:Tryz.prog.underlying 9=some .string:=by kernel_rfl
theorem akX:Tryz.prog.underlying 537=some (.array 256 5):=by kernel_rfl
theorem aqu:Tryz.prog.underlying 260=some (.int .u64):=by kernel_rfl
theorem akY:Tryz.prog.underlying 532=some (.array 20 260):=by kernel_rfl
theorem WR {P:Program}{t:TypeId}(h:(match P.underlying t with | some (.interface _)=>true | _=>false)=true):∃ms,P.underlying t=some (.interface ms):=by split at h;rename_i ms a;exact⟨ms,a⟩;cases h
theorem ad7 {P:Program}{t u:TypeId}(h:(match P.underlying t with | some (.struct ⟨[f]⟩)=>Nat.beq f.type u&&Nat.beq f.offset 0 | _=>false)=true):∃f:Field,P.underlying t=some (.struct #[f])∧f.type=u∧f.offset=0:=by split at h;rename_i f a;simp only [l9] at h;exact⟨f,a,q9 h.1,q9 h.2⟩;cases h
theorem aqv:∃ms,Tryz.prog.underlying 93=some (.interface ms):=WR (by kernel_rfl)
theorem aep:Tryz.prog.underlying 361=some (.pointer 363):=by kernel_rfl
theorem akZ:∃f:Field,Tryz.prog.underlying 363=some (.struct #[f])∧f.type=9∧f.offset=0:=ad7 (by kernel_rfl)
theorem gc5:Tryz.prog.cellsOf 5=1:=by kernel_rfl
theorem gc9:Tryz.prog.cellsOf 9=1:=by kernel_rfl
theorem al0:Tryz.prog.cellsOf 537=256:=by kernel_rfl
theorem aqw:Tryz.prog.cellsOf 260=1:=by kernel_rfl
theorem al1:Tryz.prog.cellsOf 532=20:=by kernel_rfl
theorem aer:Tryz.prog.cellsOf 363=1:=by kernel_rfl
theorem aes: "*" ++ "errors.errorString"= "*errors.errorString":=by decide
theorem UH (u:TypeId)(h:Tryz.prog.typeName? 3 u=some "*errors.errorString"):u=361:=
 typeName_ptr_named (nm:= "errors.errorString") (by rw [aes];kernel_rfl) (by kernel_rfl) (by decide) u (by rw [aes];exact h)
theorem dA:(Rows.laid_strings_asciiSpace:DataW Unit)=Lib.tabData .u8 nsA:=by kernel_rfl
theorem dP:(Rows.laid_internal_strconv_uint64pow10:DataW Unit)=Lib.tabData .u64 nsP:=by kernel_rfl
theorem ad8 {W:World}{l m n o:String×DataW Unit}{c:List (String×DataW Unit)}(h:laidMet Tryz.prog (("strconv.ErrSyntax",Rows.laid_strconv_ErrSyntax)::("strconv.ErrRange",Rows.laid_strconv_ErrRange)::("internal/strconv.uint64pow10",Rows.laid_internal_strconv_uint64pow10)::l::m::n::o::("strings.asciiSpace",Rows.laid_strings_asciiSpace)::c) W):
  ∃ι,RM Tryz.prog base ι (O4 base []) W.heap:=by
 rw [dA,dP] at h;obtain⟨r,b⟩:=aqv;obtain⟨f,a,e,d⟩:=akZ;obtain⟨p,s,j,_⟩:=laid_sentinel h gn0 gy0 b UH aep a e d gz9 aer gc9;have h:=laidMet.tail h;obtain⟨q,t,k,_⟩:=laid_sentinel h gn1 gy1 b UH aep a e d gz9 aer gc9;have h:=laidMet.tail h;have i:=Lib.tabIs_of_head gn3 gy3 akY aqu aqw al1 h;have h:=laidMet.tail (laidMet.tail (laidMet.tail (laidMet.tail (laidMet.tail h))));have g:=Lib.tabIs_of_head gn4 gy4 akX gz5 gc5 al0 h;exact ad6 g i j k
theorem aal {W:World}(h:laidMetH Tryz.prog Rows.benchBackUptoRow.laid W):∃ι,RM Tryz.prog base ι (O4 base []) W.heap:=by rw [MakeChecks.laidMetH_plain _ _ _ (by kernel_rfl)] at h;exact ad8 h
theorem aqx:ownKnob Tryz.prog.godebug=none:=by kernel_rfl
theorem sz6:33<Tryz.prog.types.size:=of_decide_eq_true (by kernel_rfl)
theorem al2:Tryz.prog.readableRec 33=true:=by kernel_rfl
theorem aqy:Tryz.prog.underlying 33=some (.slice 65):=by kernel_rfl
theorem agC:Tryz.prog.underlying 9=some .string:=by kernel_rfl
theorem al3:9<Tryz.prog.types.size:=of_decide_eq_true (by kernel_rfl)
theorem ad9:Tryz.prog.readableRec 9=true:=by kernel_rfl
theorem aam:Tryz.prog.underlying 4=some .bool:=by kernel_rfl
theorem Tf {H:Type}{d:TypeId×Value->H}{C:Checked}{M:Os}{f:FuncId}{fn:Func}{s:OpenSpec}{k:(H:Type)->List (DataW H)->Bool}(O:s.cond=some k){F:Stop.Interp}{b:List PathCond}{a l c h:Bool}{X:World->Prop}
  (P:∀(w w':World),w.heap=w'.heap->X w->X w')
  (N:ownKnob C.prog.godebug=none) (m:M.Started) (o:C.prog.inits.idxOf? f=none) (E:C.prog.funcs[f]?=some fn)
  (z:World) (args:Array Value) (p:Nat) (x:List (DataW H)×List (DataW H)×List MemPlace) (I:z.os=M)
  (J:(z.forCall (λ_ _=>0) ⟨#[],args,[]⟩).Shaped C.prog)
  (n:Input.okWideB C.prog (z.forCall (λ_ _=>0) ⟨#[],args,[]⟩) f ⟨#[],args,[]⟩=true)
  (R:DataW.whole d C.prog (z.forCall (λ_ _=>0) ⟨#[],args,[]⟩).memory fn.params.toList s.vars a args.toList p=some x)
  (u:b.all (PathCond.test C.prog ⟨fn.params.toList,x.1,s.bare.plain.varTypes C.prog,x.2.1⟩)=true) (y:k H (x.1++x.2.1)=true)
  (K:s.bare.sizedB d C.prog fn a (z.forCall (λ_ _=>0) ⟨#[],args,[]⟩).memory args p=true)
  (G:X (z.forCall (λ_ _=>0) ⟨#[],args,[]⟩).memory)
  (g:∀(W:World) (base:Nat) (args:Array Value) (ds gs:List (DataW H)) (before:List MemPlace),
   (∀(j:Nat) t v,fn.params[j]?=some t->args[j]?=some v->Value.okWide C.prog W .any base t v)->
   DataW.Whole d C.prog fn.params.toList s.vars a W args.toList ds gs before->k H (ds++gs)=true->X W->
   Calls C.prog f args W λe W'=>∃v,e=.returned v∧(s.at F).post d C.prog fn a l c h W args v W'):
  ReturnsInHanded {} C M f .any (λw args=>(s.pre d C.prog fn b a w args∧X w)∧sizedMet d C.prog fn s a w args) ((s.at F).post d C.prog fn a l c h):=by
 refine returnsInHanded_of_calls N m o ⟨z,λ_ _=>0,⟨#[],args,[]⟩,I,J,(Input.okWide_of_okWideB (base:=0) n).1,(Input.okWide_of_okWideB n).2,
  ⟨⟨(OpenSpec.pre_some O b a _ _).2 ⟨x.1,x.2.1,x.2.2,DataW.Whole_of_whole R,u,y⟩,G⟩,sizedMet_of_sizedB K⟩,by
  simp only [Assume.holds];exact⟨by simp,by simp,λ_=>Modest.zero,by simp,by simp⟩⟩ ?_
 intro w r i _ _ _ n q _;obtain⟨_,_,_,D,A,_,_,_,_,B⟩:=n;have e:D=fn:=Y5 (A.symm.trans E);subst e;obtain⟨ds,gs,before,Q,_,y⟩:=(OpenSpec.pre_some O b a _ _).1 q.1.1;have L:=DataW.Whole.of_heap (w':=w.forCall r i) (by rfl) Q;refine (g (w.forCall r i) w.heap.size i.args ds gs before B L y (P _ _ (by rfl) q.1.2)).mono λe W' ⟨v,he,hp⟩=>?_;subst he;exact ChangeSpec.post_blind hp
theorem ada (A:Os)(c:A.Started)(H:Type)(d:TypeId×Value->H)(F:Stop.Interp):
  ReturnsInHanded {} Tryz.checked A 6 .any (λw args=>((Rows.OpenSpec.upto Rows.benchBackSpec).pre d Tryz.prog Tryz.f6 [] false w args∧laidMetH Tryz.prog Rows.benchBackUptoRow.laid w)∧sizedMet d Tryz.prog Tryz.f6 (Rows.OpenSpec.upto Rows.benchBackSpec) false w args)
   (((Rows.OpenSpec.upto Rows.benchBackSpec).at F).post d Tryz.prog Tryz.f6 false true false false):=by
 refine Tf (C:=Tryz.checked) (k:=Rows.uptoSmall) rfl (X:=λw=>laidMetH Tryz.prog Rows.benchBackUptoRow.laid w) (λ_ _ Z h=>h.of_heap Z) aqx c (by kernel_rfl) Tryz.func6
  (World.laidAll Tryz.prog A Rows.benchBackUptoRow.laid) #[.slice none 0 0,.string ⟨#[]⟩] 8 ([.nil,.lit (.string [])],[],[]) (World.laidAll_os _ _ _) (World.shaped_of_ZipB (by kernel_rfl) (by kernel_rfl)) (by kernel_rfl) (by kernel_rfl) (by rfl) (by kernel_rfl) (by kernel_rfl) (by rw [MakeChecks.laidMetH_plain _ _ _ (by kernel_rfl)];exact laidMet_laidAll _ (by kernel_rfl) (by kernel_rfl)) ?_
 intro W m args T gs o l J z U;have b:∀(j:Nat) t v,Tryz.f6.params[j]?=some t->args[j]?=some v->Value.okWide Tryz.prog W .any m t v:=l;have g:=J;obtain⟨p0,q,s,V,rfl,Y,a1⟩:=J;have I:DataW.TrodAll d Tryz.prog W 0 (λ_=>true) true Tryz.f6.params.toList args.toList T p0:=s;rw [Tryz.params6] at I b;obtain⟨v0,v1,D,S,p0,p1,rfl,rfl,rfl,E,G⟩:=trodAll_two I;obtain⟨rfl,rfl⟩:=trodVars_none V;obtain⟨B,f,cap0,rfl⟩:=okWide_slice aqy (b 0 33 v0 rfl rfl);obtain⟨s1,rfl⟩:=okWide_string agC (b 1 9 v1 rfl rfl);obtain⟨ι,hm⟩:=aal U;obtain⟨f0,t0⟩:=id E;obtain⟨f1,t1⟩:=id G;have u:Rows.uptoBulk D<=1048576:=by have h:Rows.uptoBulkAll ([D,S] ++ [])<=1048576:=of_decide_eq_true z;rw [ny] at h;simp at h;omega
 obtain⟨Q,R,p,r,L⟩:=agB hm rfl t0 t1 u (aP _);have p:Q=.slice B f cap0:=by have:=p;simp [Value.cells] at this;exact this.symm
 have r:R=.string s1:=by have:=r;simp [Value.cells] at this;exact this.symm
 have y:(#[Q,R]:Array Value)=#[.slice B f cap0,.string s1]:=by rw [p,r]
 rw [y] at L;refine L.mono λe W' ⟨he,h3,h4,h5,h6,h7⟩=>?_;subst he;have K:Below W.heap.size W W':=⟨h5,h7,h6,h3,h4⟩;refine⟨_,rfl,?_⟩;simp only [abI] at g;have N:=g.lt;have hk:∀may,W.keptBut W' may:=λmay=>by refine⟨h5,h6,λi M=>?_⟩;have:=(World.keptBut_refl W may).2.2 i M;rw [h4 i M];exact this
 have O:∀x,x∈p0->x∈p0++p1:=λx a=>by simp [a]
 have P:∀x,x∈p1->x∈p0++p1:=λx a=>by simp [a]
 refine QS (pa:=p0++p1) (pv:=[]) g (λ_ _ _=>trodAll_mk1 (shut_bool aam _)) (λsp n=>?_) (λ_ _=>rfl) (by simp) (hk _) (λx a=>by unfold World.frozen?;rw [h4 _ a]) (ok_one (by kernel_rfl) rfl (okWide_bool_mk aam _));rw [Tryz.params6];exact⟨p0,p1,WideElems.Trod_stays laidOut al2 sz6 E (λx a=>K.same (N x (O x a))) (λx a=>n x (O x a)),⟨p1,[],WideElems.Trod_stays laidOut ad9 al3 G (λx a=>K.same (N x (P x a))) (λx a=>n x (P x a)),rfl,by simp⟩,by simp⟩
end Go.Proofs.YteecnooaopfkeaaGreatDoor.TT
