/- The row of BenchParses, lifted from its walk; conditions: the row's own. -/
import Derived.Test.YteecnooaopfkeaaGreatDoorPG0
import Derived.Test.YteecnooaopfkeaaGreatDoorPT3
import Derived.Test.YteecnooaopfkeaaGreatDoorRows
import Derived.ProofKit
import Derived.LaidMore
import Derived.Lib.LaidU8
import Derived.Stop.LaidErr
import Derived.Lay
set_option linter.all false
namespace Go.Proofs.YteecnooaopfkeaaGreatDoor.TT
open Go Go.AM Go.ChangeShapes Go.WideShapes Go.ChangeAt Go.RowKit
set_option maxRecDepth 100000
theorem gy0:(Tryz.prog.globals[0]?).map (·.type)=some 93:=by kernel_rfl
theorem gy1:(Tryz.prog.globals[1]?).map (·.type)=some 93:=by kernel_rfl
theorem gy3:(Tryz.prog.globals[3]?).map (·.type)=some 532:=by kernel_rfl
theorem gy4:(Tryz.prog.globals[4]?).map (·.type)=some 537:=by kernel_rfl
theorem gz5:Tryz.prog.underlying 5=some (.int .u8):=by kernel_rfl
theorem gz9:Tryz.prog.underlying 9=some .string:=by kernel_rfl
theorem ahe:Tryz.prog.underlying 537=some (.array 256 5):=by kernel_rfl
theorem ang:Tryz.prog.underlying 260=some (.int .u64):=by kernel_rfl
theorem ahf:Tryz.prog.underlying 532=some (.array 20 260):=by kernel_rfl
theorem TG {P:Program}{t:TypeId}(h:(match P.underlying t with | some (.interface _)=>true | _=>false)=true):∃ms,P.underlying t=some (.interface ms):=by split at h;rename_i ms hu;exact⟨ms,hu⟩;cases h
theorem ZO {P:Program}{t u:TypeId}(h:(match P.underlying t with | some (.struct ⟨[f]⟩)=>Nat.beq f.type u&&Nat.beq f.offset 0 | _=>false)=true):∃f:Field,P.underlying t=some (.struct #[f])∧f.type=u∧f.offset=0:=by split at h;rename_i f hu;simp only [U9] at h;exact⟨f,hu,J4 h.1,J4 h.2⟩;cases h
theorem anh:∃ms,Tryz.prog.underlying 93=some (.interface ms):=TG (by kernel_rfl)
theorem aaN:Tryz.prog.underlying 361=some (.pointer 363):=by kernel_rfl
theorem ahg:∃f:Field,Tryz.prog.underlying 363=some (.struct #[f])∧f.type=9∧f.offset=0:=ZO (by kernel_rfl)
theorem gc5:Tryz.prog.cellsOf 5=1:=by kernel_rfl
theorem gc9:Tryz.prog.cellsOf 9=1:=by kernel_rfl
theorem ahh:Tryz.prog.cellsOf 537=256:=by kernel_rfl
theorem ani:Tryz.prog.cellsOf 260=1:=by kernel_rfl
theorem ahi:Tryz.prog.cellsOf 532=20:=by kernel_rfl
theorem aaO:Tryz.prog.cellsOf 363=1:=by kernel_rfl
theorem aaP: "*" ++ "errors.errorString"= "*errors.errorString":=by decide
theorem Rf (u:TypeId)(h:Tryz.prog.typeName? 3 u=some "*errors.errorString"):u=361:=
 typeName_ptr_named (nm:= "errors.errorString") (by rw [aaP];kernel_rfl) (by kernel_rfl) (by decide) u (by rw [aaP];exact h)
theorem dA:(Rows.laid_strings_asciiSpace:DataW Unit)=Lib.tabData .u8 nsA:=by kernel_rfl
theorem dP:(Rows.laid_internal_strconv_uint64pow10:DataW Unit)=Lib.tabData .u64 nsP:=by kernel_rfl
theorem ZP {W:World}{x1 x2 x3 x4:String×DataW Unit}{rest:List (String×DataW Unit)}(h:laidMet Tryz.prog (("strconv.ErrSyntax",Rows.laid_strconv_ErrSyntax)::("strconv.ErrRange",Rows.laid_strconv_ErrRange)::("internal/strconv.uint64pow10",Rows.laid_internal_strconv_uint64pow10)::x1::x2::x3::x4::("strings.asciiSpace",Rows.laid_strings_asciiSpace)::rest) W):
  ∃ι,RM Tryz.prog base ι (O5 base []) W.heap:=by
 rw [dA,dP] at h;obtain⟨ms,i93⟩:=anh;obtain⟨f,s363,ft,fo⟩:=ahg;obtain⟨a2,s2,e2,_⟩:=laid_sentinel h gn0 gy0 i93 Rf aaN s363 ft fo gz9 aaO gc9;have h:=laidMet.tail h;obtain⟨a3,s3,e3,_⟩:=laid_sentinel h gn1 gy1 i93 Rf aaN s363 ft fo gz9 aaO gc9;have h:=laidMet.tail h;have aP:=Lib.tabIs_of_head gn3 gy3 ahf ang ani ahi h;have h:=laidMet.tail (laidMet.tail (laidMet.tail (laidMet.tail (laidMet.tail h))));have aA:=Lib.tabIs_of_head gn4 gy4 ahe gz5 gc5 ahh h;exact ZN aA aP e2 e3
theorem WK {W:World}(h:laidMetH Tryz.prog Rows.benchParsesRow.laid W):∃ι,RM Tryz.prog base ι (O5 base []) W.heap:=by rw [MakeChecks.laidMetH_plain _ _ _ (by kernel_rfl)] at h;exact ZP h
theorem ad1:ownKnob Tryz.prog.godebug=none:=by kernel_rfl
theorem ahj:9<Tryz.prog.types.size:=of_decide_eq_true (by kernel_rfl)
theorem ZQ:Tryz.prog.readableRec 9=true:=by kernel_rfl
theorem ad2:Tryz.prog.underlying 9=some .string:=by kernel_rfl
theorem WL:Tryz.prog.underlying 4=some .bool:=by kernel_rfl
theorem ZR (os:Os)(started:os.Started)(H:Type)(enc:TypeId×Value->H):
  ReturnsInHanded {} Tryz.checked os 4 .any (λw args=>(Rows.benchParsesSpec.pre enc Tryz.prog Tryz.f4 [] false w args∧laidMetH Tryz.prog Rows.benchParsesRow.laid w)∧sizedMet enc Tryz.prog Tryz.f4 (OpenSpec.ofChange Rows.benchParsesSpec) false w args)
   (Rows.benchParsesSpec.post enc Tryz.prog Tryz.f4 false true false false):=by
 refine returnsInHanded_of_change_and (C:=Tryz.checked) (X:=λw _=>laidMetH Tryz.prog Rows.benchParsesRow.laid w) (λ_ _ _ hh h=>h.of_heap hh) ad1 started (by kernel_rfl) Tryz.func4
  (ChangeSpec.witness_shaped (enc:=enc) (C:=Tryz.checked) (os:=os) (X:=λw _=>laidMetH Tryz.prog Rows.benchParsesRow.laid w) false (World.laidAll Tryz.prog os Rows.benchParsesRow.laid) #[.string ⟨#[]⟩] 8 (World.laidAll_os _ _ _) (World.shaped_of_ZipB (by kernel_rfl) (by kernel_rfl)) (by kernel_rfl) (by kernel_rfl) (by kernel_rfl) (by rw [MakeChecks.laidMetH_plain _ _ _ (by kernel_rfl)];exact laidMet_laidAll _ (by kernel_rfl) (by kernel_rfl))) ?_
 intro W base args ds gs before hval0 hW _ _ hL _;have hval:∀(j:Nat) t v,Tryz.f4.params[j]?=some t->args[j]?=some v->Value.okWide Tryz.prog W .any base t v:=hval0;have hW':=hW;obtain⟨p0,q,hA0,hV,rfl,hfz,hnd⟩:=hW;have hA:DataW.TrodAll enc Tryz.prog W 0 (λ_=>true) true Tryz.f4.params.toList args.toList ds p0:=hA0;rw [Tryz.params4] at hA hval;obtain⟨v0,d0,rfl,rfl,h0⟩:=trodAll_one hA;obtain⟨rfl,rfl⟩:=trodVars_none hV;obtain⟨s0,rfl⟩:=okWide_string ad2 (hval 0 9 v0 rfl rfl);obtain⟨ι,hm⟩:=WK hL;obtain⟨f0,t0⟩:=id h0;obtain⟨u0,e0,hc⟩:=acZ hm rfl t0;have e0:u0=.string s0:=by have:=e0;simp [Value.cells] at this;exact this.symm
 have hc2:(#[u0]:Array Value)=#[.string s0]:=by rw [e0]
 rw [hc2] at hc;refine hc.mono λe W' ⟨he,h3,h4,h5,h6,h7⟩=>?_;subst he;have hb:Below W.heap.size W W':=⟨h5,h7,h6,h3,h4⟩;refine⟨_,rfl,?_⟩;simp only [aiw] at hW';have lt:=hW'.lt;have hk:∀may,W.keptBut W' may:=λmay=>by refine⟨h5,h6,λi hi=>?_⟩;have:=(World.keptBut_refl W may).2.2 i hi;rw [h4 i hi];exact this
 have m0:∀x,x∈p0->x∈p0:=λx hx=>by simp [hx]
 refine NU (pa:=p0) (pv:=[]) hW' (λ_ _ _=>trodAll_mk1 (shut_bool WL _)) (λsp hsp=>?_) (λ_ _=>rfl) (by simp) (hk _) (λx hx=>by unfold World.frozen?;rw [h4 _ hx]) (ok_one (by kernel_rfl) rfl (okWide_bool_mk WL _));rw [Tryz.params4];exact⟨p0,[],WideElems.Trod_stays laidOut ZQ ahj h0 (λx hx=>hb.same (lt x (m0 x hx))) (λx hx=>hsp x (m0 x hx)),rfl,by simp⟩
end Go.Proofs.YteecnooaopfkeaaGreatDoor.TT
