/- The row of BenchEvals, lifted from its walk; conditions: the row's own. -/
import Derived.Test.YtcnimimffiiimaaGreatDoorPG0
import Derived.Test.YtcnimimffiiimaaGreatDoorPT3
import Derived.Test.YtcnimimffiiimaaGreatDoorRows
import Derived.ProofKit
import Derived.LaidMore
import Derived.Lib.LaidU8
import Derived.Stop.LaidErr
import Derived.Lay
set_option linter.all false
namespace Go.Proofs.YtcnimimffiiimaaGreatDoor.TT
open Go Go.AM Go.ChangeShapes Go.WideShapes Go.ChangeAt Go.RowKit
set_option maxRecDepth 100000
theorem gy0:(Tryz.prog.globals[0]?).map (·.type)=some 138:=by kernel_rfl
theorem gy1:(Tryz.prog.globals[1]?).map (·.type)=some 138:=by kernel_rfl
theorem gy4:(Tryz.prog.globals[4]?).map (·.type)=some 566:=by kernel_rfl
theorem gy3:(Tryz.prog.globals[3]?).map (·.type)=some 517:=by kernel_rfl
theorem gz5:Tryz.prog.underlying 5=some (.int .u8):=by kernel_rfl
theorem gz9:Tryz.prog.underlying 9=some .string:=by kernel_rfl
theorem aiD:Tryz.prog.underlying 517=some (.array 256 5):=by kernel_rfl
theorem ape:Tryz.prog.underlying 283=some (.int .u64):=by kernel_rfl
theorem aiE:Tryz.prog.underlying 566=some (.array 20 283):=by kernel_rfl
theorem Sl {P:Program}{t:TypeId}(h:(match P.underlying t with | some (.interface _)=>true | _=>false)=true):∃ms,P.underlying t=some (.interface ms):=by split at h;rename_i ms a;exact⟨ms,a⟩;cases h
theorem ZO {P:Program}{t u:TypeId}(h:(match P.underlying t with | some (.struct ⟨[f]⟩)=>Nat.beq f.type u&&Nat.beq f.offset 0 | _=>false)=true):∃f:Field,P.underlying t=some (.struct #[f])∧f.type=u∧f.offset=0:=by split at h;rename_i f a;simp only [gI] at h;exact⟨f,a,aP h.1,aP h.2⟩;cases h
theorem apf:∃ms,Tryz.prog.underlying 138=some (.interface ms):=Sl (by kernel_rfl)
theorem aaR:Tryz.prog.underlying 432=some (.pointer 434):=by kernel_rfl
theorem aiF:∃f:Field,Tryz.prog.underlying 434=some (.struct #[f])∧f.type=9∧f.offset=0:=ZO (by kernel_rfl)
theorem gc5:Tryz.prog.cellsOf 5=1:=by kernel_rfl
theorem gc9:Tryz.prog.cellsOf 9=1:=by kernel_rfl
theorem aiG:Tryz.prog.cellsOf 517=256:=by kernel_rfl
theorem apg:Tryz.prog.cellsOf 283=1:=by kernel_rfl
theorem aiH:Tryz.prog.cellsOf 566=20:=by kernel_rfl
theorem aaS:Tryz.prog.cellsOf 434=1:=by kernel_rfl
theorem aaT: "*" ++ "errors.errorString"= "*errors.errorString":=by decide
theorem Qo (u:TypeId)(h:Tryz.prog.typeName? 3 u=some "*errors.errorString"):u=432:=
 typeName_ptr_named (nm:= "errors.errorString") (by rw [aaT];kernel_rfl) (by kernel_rfl) (by decide) u (by rw [aaT];exact h)
theorem dA:(Rows.laid_strings_asciiSpace:DataW Unit)=Lib.tabData .u8 nsA:=by kernel_rfl
theorem dP:(Rows.laid_internal_strconv_uint64pow10:DataW Unit)=Lib.tabData .u64 nsP:=by kernel_rfl
theorem ZP {W:World}{l x2 m n:String×DataW Unit}{c:List (String×DataW Unit)}(h:laidMet Tryz.prog (("strconv.ErrSyntax",Rows.laid_strconv_ErrSyntax)::("strconv.ErrRange",Rows.laid_strconv_ErrRange)::("internal/strconv.uint64pow10",Rows.laid_internal_strconv_uint64pow10)::l::x2::m::n::("strings.asciiSpace",Rows.laid_strings_asciiSpace)::c) W):
  ∃ι,RM Tryz.prog base ι (R5 base []) W.heap:=by
 rw [dA,dP] at h;obtain⟨q,b⟩:=apf;obtain⟨f,a,e,d⟩:=aiF;obtain⟨o,r,j,_⟩:=laid_sentinel h gn0 gy0 b Qo aaR a e d gz9 aaS gc9;have h:=laidMet.tail h;obtain⟨p,s,k,_⟩:=laid_sentinel h gn1 gy1 b Qo aaR a e d gz9 aaS gc9;have h:=laidMet.tail h;have i:=Lib.tabIs_of_head gn4 gy4 aiE ape apg aiH h;have h:=laidMet.tail (laidMet.tail (laidMet.tail (laidMet.tail (laidMet.tail h))));have g:=Lib.tabIs_of_head gn3 gy3 aiD gz5 gc5 aiG h;exact ZM i g j k
theorem WB {W:World}(h:laidMetH Tryz.prog Rows.benchEvalsRow.laid W):∃ι,RM Tryz.prog base ι (R5 base []) W.heap:=by rw [MakeChecks.laidMetH_plain _ _ _ (by kernel_rfl)] at h;exact ZP h
theorem aph:ownKnob Tryz.prog.godebug=none:=by kernel_rfl
theorem sz4:33<Tryz.prog.types.size:=of_decide_eq_true (by kernel_rfl)
theorem aiI:Tryz.prog.readableRec 33=true:=by kernel_rfl
theorem aiJ:34<Tryz.prog.types.size:=of_decide_eq_true (by kernel_rfl)
theorem ZQ:Tryz.prog.readableRec 34=true:=by kernel_rfl
theorem adz:Tryz.prog.underlying 34=some (.slice 62):=by kernel_rfl
theorem adA {P:Program}{t:TypeId}{ts:List TypeId}(h:fdT P t=some ts):∃fs,P.underlying t=some (.struct fs):=by unfold fdT at h;split at h;rename_i fs a;exact⟨fs,a⟩;cases h
theorem WC:Tryz.prog.underlying 4=some .bool:=by kernel_rfl
theorem ZR (os:Os)(c:os.Started)(H:Type)(enc:TypeId×Value->H):
  ReturnsInHanded {} Tryz.checked os 4 .any (λw args=>(Rows.benchEvalsSpec.pre enc Tryz.prog Tryz.f4 [] false w args∧laidMetH Tryz.prog Rows.benchEvalsRow.laid w)∧sizedMet enc Tryz.prog Tryz.f4 (OpenSpec.ofChange Rows.benchEvalsSpec) false w args)
   (Rows.benchEvalsSpec.post enc Tryz.prog Tryz.f4 false true false false):=by
 refine returnsInHanded_of_change_and (C:=Tryz.checked) (X:=λw _=>laidMetH Tryz.prog Rows.benchEvalsRow.laid w) (λ_ _ _ P h=>h.of_heap P) aph c (by kernel_rfl) Tryz.func4
  (ChangeSpec.witness_shaped (enc:=enc) (C:=Tryz.checked) (os:=os) (X:=λw _=>laidMetH Tryz.prog Rows.benchEvalsRow.laid w) false (World.laidAll Tryz.prog os Rows.benchEvalsRow.laid) #[.agg #[.int .i64 0,.int .i64 0,.string ⟨#[]⟩,.slice none 0 0],.slice none 0 0] 8 (World.laidAll_os _ _ _) (World.shaped_of_ZipB (by kernel_rfl) (by kernel_rfl)) (by kernel_rfl) (by kernel_rfl) (by kernel_rfl) (by rw [MakeChecks.laidMetH_plain _ _ _ (by kernel_rfl)];exact laidMet_laidAll _ (by kernel_rfl) (by kernel_rfl))) ?_
 intro W k args L gs m g B _ _ M _;have b:∀(j:Nat) t v,Tryz.f4.params[j]?=some t->args[j]?=some v->Value.okWide Tryz.prog W .any k t v:=g;have f:=B;obtain⟨p0,q,o,N,rfl,O,S⟩:=B;have A:DataW.TrodAll enc Tryz.prog W 0 (λ_=>true) true Tryz.f4.params.toList args.toList L p0:=o;rw [Tryz.params4] at A b;obtain⟨V,Y,Z,d1,p0,p1,rfl,rfl,rfl,y,z⟩:=trodAll_two A;obtain⟨rfl,rfl⟩:=trodVars_none N;obtain⟨fs,r⟩:=adA Qn.e;obtain⟨u,rfl,_⟩:=okWide_struct r (b 0 33 V rfl rfl);obtain⟨s,d,cap1,rfl⟩:=okWide_slice adz (b 1 34 Y rfl rfl);obtain⟨ι,R⟩:=WB M;obtain⟨f0,T⟩:=id y;obtain⟨f1,U⟩:=id z;obtain⟨K,n,E⟩:=ady R rfl T U;have n:K=.slice s d cap1:=by have:=n;simp [Value.cells] at this;exact this.symm
 have p:(#[.agg (Value.agg u).cells.toList.toArray,K]:Array Value)=#[.agg u,.slice s d cap1]:=by rw [n];simp [Value.cells]
 rw [p] at E;refine E.mono λe W' ⟨he,h3,h4,h5,h6,h7⟩=>?_;subst he;have D:Below W.heap.size W W':=⟨h5,h7,h6,h3,h4⟩;refine⟨_,rfl,?_⟩;simp only [agq] at f;have G:=f.lt;have Q:∀may,W.keptBut W' may:=λmay=>by refine⟨h5,h6,λi F=>?_⟩;have:=(World.keptBut_refl W may).2.2 i F;rw [h4 i F];exact this
 have I:∀x,x∈p0->x∈p0++p1:=λx a=>by simp [a]
 have J:∀x,x∈p1->x∈p0++p1:=λx a=>by simp [a]
 refine Mx (pa:=p0++p1) (pv:=[]) f (λ_ _ _=>trodAll_mk1 (shut_bool WC _)) (λsp l=>?_) (λ_ _=>rfl) (by simp) (Q _) (λx a=>by unfold World.frozen?;rw [h4 _ a]) (ok_one (by kernel_rfl) rfl (okWide_bool_mk WC _));rw [Tryz.params4];exact⟨p0,p1,WideElems.Trod_stays laidOut aiI sz4 y (λx a=>D.same (G x (I x a))) (λx a=>l x (I x a)),⟨p1,[],WideElems.Trod_stays laidOut ZQ aiJ z (λx a=>D.same (G x (J x a))) (λx a=>l x (J x a)),rfl,by simp⟩,by simp⟩
end Go.Proofs.YtcnimimffiiimaaGreatDoor.TT
