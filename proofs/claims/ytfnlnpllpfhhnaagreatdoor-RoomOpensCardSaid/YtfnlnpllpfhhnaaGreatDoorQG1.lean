/- The row of RoomOpens, lifted from its walk; conditions: the row's own. -/
import Derived.Test.YtfnlnpllpfhhnaaGreatDoorQG0
import Derived.Test.YtfnlnpllpfhhnaaGreatDoorQT3
import Derived.Test.YtfnlnpllpfhhnaaGreatDoorRows
import Derived.ProofKit
import Derived.LaidMore
import Derived.Lib.LaidU8
import Derived.Stop.LaidErr
import Derived.Lay
set_option linter.all false
namespace Go.Proofs.YtfnlnpllpfhhnaaGreatDoor.TT
open Go Go.AM Go.ChangeShapes Go.WideShapes Go.ChangeAt Go.RowKit
set_option maxRecDepth 100000
theorem gy0:(Tryz.prog.globals[0]?).map (·.type)=some 217:=by kernel_rfl
theorem gy1:(Tryz.prog.globals[1]?).map (·.type)=some 311:=by kernel_rfl
theorem gy2:(Tryz.prog.globals[2]?).map (·.type)=some 174:=by kernel_rfl
theorem gy3:(Tryz.prog.globals[3]?).map (·.type)=some 174:=by kernel_rfl
theorem gy5:(Tryz.prog.globals[5]?).map (·.type)=some 518:=by kernel_rfl
theorem gy8:(Tryz.prog.globals[8]?).map (·.type)=some 546:=by kernel_rfl
theorem gy9:(Tryz.prog.globals[9]?).map (·.type)=some 547:=by kernel_rfl
theorem gz5:Tryz.prog.underlying 5=some (.int .u8):=by kernel_rfl
theorem gz9:Tryz.prog.underlying 9=some .string:=by kernel_rfl
theorem ayH:Tryz.prog.underlying 217=some (.array 256 5):=by kernel_rfl
theorem ayI:Tryz.prog.underlying 396=some (.int .u64):=by kernel_rfl
theorem ayJ:Tryz.prog.underlying 518=some (.array 20 396):=by kernel_rfl
theorem ayK:Tryz.prog.underlying 546=some (.array 32 5):=by kernel_rfl
theorem ayL:Tryz.prog.underlying 547=some (.array 64 5):=by kernel_rfl
theorem ayM:Tryz.prog.underlying 311=some (.pointer 383):=by kernel_rfl
theorem YH {P:Program}{t:TypeId}(h:(match P.underlying t with | some (.interface _)=>true | _=>false)=true):∃ms,P.underlying t=some (.interface ms):=by split at h;rename_i ms a;exact⟨ms,a⟩;cases h
theorem agn {P:Program}{t u:TypeId}(h:(match P.underlying t with | some (.struct ⟨[f]⟩)=>Nat.beq f.type u&&Nat.beq f.offset 0 | _=>false)=true):∃f:Field,P.underlying t=some (.struct #[f])∧f.type=u∧f.offset=0:=by split at h;rename_i f a;simp only [rW] at h;exact⟨f,a,l7 h.1,l7 h.2⟩;cases h
theorem ayN:∃ms,Tryz.prog.underlying 174=some (.interface ms):=YH (by kernel_rfl)
theorem aiW:Tryz.prog.underlying 486=some (.pointer 488):=by kernel_rfl
theorem ayO:∃f:Field,Tryz.prog.underlying 488=some (.struct #[f])∧f.type=9∧f.offset=0:=agn (by kernel_rfl)
theorem gc5:Tryz.prog.cellsOf 5=1:=by kernel_rfl
theorem gc9:Tryz.prog.cellsOf 9=1:=by kernel_rfl
theorem ayP:Tryz.prog.cellsOf 217=256:=by kernel_rfl
theorem ayQ:Tryz.prog.cellsOf 396=1:=by kernel_rfl
theorem ayR:Tryz.prog.cellsOf 518=20:=by kernel_rfl
theorem ayS:Tryz.prog.cellsOf 546=32:=by kernel_rfl
theorem ayT:Tryz.prog.cellsOf 547=64:=by kernel_rfl
theorem aiX:Tryz.prog.cellsOf 488=1:=by kernel_rfl
theorem aiY: "*" ++ "errors.errorString"= "*errors.errorString":=by decide
theorem Xh (u:TypeId)(h:Tryz.prog.typeName? 3 u=some "*errors.errorString"):u=486:=
 typeName_ptr_named (nm:= "errors.errorString") (by rw [aiY];kernel_rfl) (by kernel_rfl) (by decide) u (by rw [aiY];exact h)
theorem dA:(Rows.laid_strings_asciiSpace:DataW Unit)=Lib.tabData .u8 nsA:=by kernel_rfl
theorem dP:(Rows.laid_internal_strconv_uint64pow10:DataW Unit)=Lib.tabData .u64 nsP:=by kernel_rfl
theorem d32:(Rows.laid_math_bits_deBruijn32tab:DataW Unit)=Lib.tabData .u8 adE:=by kernel_rfl
theorem d64:(Rows.laid_math_bits_deBruijn64tab:DataW Unit)=Lib.tabData .u8 adF:=by kernel_rfl
theorem dW:(Rows.laid_unicode_White_Space:DataW Unit)=Lib.whiteData:=by kernel_rfl
theorem alN:WhiteExtra Tryz.prog Tryz.Hq:=⟨by kernel_rfl,by kernel_rfl,by kernel_rfl,by kernel_rfl,by kernel_rfl,by kernel_rfl,by kernel_rfl,by kernel_rfl⟩
theorem agp {W:World}{C D:String×DataW Unit}{i:List (String×DataW Unit)}(h:laidMet Tryz.prog (("internal/strconv.uint64pow10",Rows.laid_internal_strconv_uint64pow10)::("math/bits.deBruijn32tab",Rows.laid_math_bits_deBruijn32tab)::("math/bits.deBruijn64tab",Rows.laid_math_bits_deBruijn64tab)::("strconv.ErrSyntax",Rows.laid_strconv_ErrSyntax)::("strconv.ErrRange",Rows.laid_strconv_ErrRange)::C::D::("strings.asciiSpace",Rows.laid_strings_asciiSpace)::("unicode.White_Space",Rows.laid_unicode_White_Space)::i) W):
  ∃ι,RM Tryz.prog base ι (P7 base []) W.heap:=by
 rw [dA,dP,d32,d64,dW] at h;obtain⟨G,c⟩:=ayN;obtain⟨f,d,o,m⟩:=ayO;have u:=Lib.tabIs_of_head gn5 gy5 ayJ ayI ayQ ayR h;have h:=laidMet.tail h;have j:=Lib.tabIs_of_head gn8 gy8 ayK gz5 gc5 ayS h;have h:=laidMet.tail h;have k:=Lib.tabIs_of_head gn9 gy9 ayL gz5 gc5 ayT h;have h:=laidMet.tail h;obtain⟨E,H,w,_⟩:=laid_sentinel h gn2 gy2 c Xh aiW d o m gz9 aiX gc9;have h:=laidMet.tail h;obtain⟨F,I,x,_⟩:=laid_sentinel h gn3 gy3 c Xh aiW d o m gz9 aiX gc9;have h:=laidMet.tail (laidMet.tail (laidMet.tail h));have s:=Lib.tabIs_of_head gn0 gy0 ayH gz5 gc5 ayP h;have h:=laidMet.tail h;have r:=Lib.laidMet.reads h (adR ..);have B:=whiteTab_of_reads Tryz.aga alN r;obtain⟨g,t,v,q,p,A,l,b,z⟩:=r;obtain rfl:=su (gn1.symm.trans A);obtain rfl:=su (gy1.symm.trans l);rcases DataW.trod_pointer ayM z with⟨_,hx⟩ | ⟨a,cs',y,n,_,e,_⟩;cases hx;have e:v=#[.pointer (some a)]:=by apply Array.ext';simpa using e
 rw [e] at b;exact agm s u j k B b w x
theorem acj {W:World}(h:laidMetH Tryz.prog Rows.roomOpensRow.laid W):∃ι,RM Tryz.prog base ι (P7 base []) W.heap:=by rw [MakeChecks.laidMetH_plain _ _ _ (by kernel_rfl)] at h;exact agp h
theorem aE4:ownKnob Tryz.prog.godebug=none:=by kernel_rfl
theorem ayU:3<Tryz.prog.types.size:=of_decide_eq_true (by kernel_rfl)
theorem agq:Tryz.prog.readableRec 3=true:=by kernel_rfl
theorem alO:Tryz.prog.underlying 3=some (.int .i64):=by kernel_rfl
theorem alP:46<Tryz.prog.types.size:=of_decide_eq_true (by kernel_rfl)
theorem acn:Tryz.prog.readableRec 46=true:=by kernel_rfl
theorem agr:Tryz.prog.underlying 46=some (.slice 9):=by kernel_rfl
theorem aco:Tryz.prog.underlying 4=some .bool:=by kernel_rfl
theorem ags (os:Os)(c:os.Started)(H:Type)(enc:TypeId×Value->H):
  ReturnsInHanded {} Tryz.checked os 5 .any (λw args=>(Rows.roomOpensSpec.pre enc Tryz.prog Tryz.f5 [] false w args∧laidMetH Tryz.prog Rows.roomOpensRow.laid w)∧sizedMet enc Tryz.prog Tryz.f5 (OpenSpec.ofChange Rows.roomOpensSpec) false w args)
   (Rows.roomOpensSpec.post enc Tryz.prog Tryz.f5 false true false false):=by
 refine returnsInHanded_of_change_and (C:=Tryz.checked) (X:=λw _=>laidMetH Tryz.prog Rows.roomOpensRow.laid w) (λ_ _ _ R h=>h.of_heap R) aE4 c (by kernel_rfl) Tryz.func5
  (ChangeSpec.witness_shaped (enc:=enc) (C:=Tryz.checked) (os:=os) (X:=λw _=>laidMetH Tryz.prog Rows.roomOpensRow.laid w) false (World.laidAll Tryz.prog os Rows.roomOpensRow.laid) #[.int .i64 0,.slice none 0 0] 8 (World.laidAll_os _ _ _) (World.shaped_of_ZipB (by kernel_rfl) (by kernel_rfl)) (by kernel_rfl) (by kernel_rfl) (by kernel_rfl) (by rw [MakeChecks.laidMetH_plain _ _ _ (by kernel_rfl)];exact laidMet_laidAll _ (by kernel_rfl) (by kernel_rfl))) ?_
 intro W k args N gs n g D _ _ O _;have b:∀(j:Nat) t v,Tryz.f5.params[j]?=some t->args[j]?=some v->Value.okWide Tryz.prog W .any k t v:=g;have f:=D;obtain⟨p,q,s,P,rfl,Q,U⟩:=D;have B:DataW.TrodAll enc Tryz.prog W 0 (λ_=>true) true Tryz.f5.params.toList args.toList N p:=s;rw [Tryz.params5] at B b;obtain⟨Z,v1,d0,d1,m,p1,rfl,rfl,rfl,z,A⟩:=trodAll_two B;obtain⟨rfl,rfl⟩:=trodVars_none P;obtain⟨z0,rfl⟩:=okWide_int alO (b 0 3 Z rfl rfl);obtain⟨y,d,cap1,rfl⟩:=okWide_slice agr (b 1 46 v1 rfl rfl);obtain⟨ι,T⟩:=acj O;obtain⟨f0,V⟩:=id z;obtain⟨f1,Y⟩:=id A;obtain⟨L,M,o,r,F⟩:=alM T rfl V Y;have o:L=.int .i64 z0:=by have:=o;simp [Value.cells] at this;exact this.symm
 have r:M=.slice y d cap1:=by have:=r;simp [Value.cells] at this;exact this.symm
 have u:(#[L,M]:Array Value)=#[.int .i64 z0,.slice y d cap1]:=by rw [o,r]
 rw [u] at F;refine F.mono λe W' ⟨he,w3,w4,w5,w6,w7⟩=>?_;subst he;have E:Below W.heap.size W W':=⟨w5,w7,w6,w3,w4⟩;refine⟨_,rfl,?_⟩;simp only [acH] at f;have I:=f.lt;have S:∀may,W.keptBut W' may:=λmay=>by refine⟨w5,w6,λi G=>?_⟩;have:=(World.keptBut_refl W may).2.2 i G;rw [w4 i G];exact this
 have J:∀x,x∈m->x∈m++p1:=λx a=>by simp [a]
 have K:∀x,x∈p1->x∈m++p1:=λx a=>by simp [a]
 refine SN (pa:=m++p1) (pv:=[]) f (λ_ _ _=>trodAll_mk1 (shut_bool aco _)) (λsp l=>?_) (λ_ _=>rfl) (by simp) (S _) (λx a=>by unfold World.frozen?;rw [w4 _ a]) (ok_one (by kernel_rfl) rfl (okWide_bool_mk aco _));rw [Tryz.params5];exact⟨m,p1,WideElems.Trod_stays laidOut agq ayU z (λx a=>E.same (I x (J x a))) (λx a=>l x (J x a)),⟨p1,[],WideElems.Trod_stays laidOut acn alP A (λx a=>E.same (I x (K x a))) (λx a=>l x (K x a)),rfl,by simp⟩,by simp⟩
end Go.Proofs.YtfnlnpllpfhhnaaGreatDoor.TT
