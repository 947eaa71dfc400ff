/- The row of RoomCrashes, lifted from its walk; conditions: the row's own. -/
import Derived.Test.YtfnlnpllpfhhnaaGreatDoorPG0
import Derived.Test.YtfnlnpllpfhhnaaGreatDoorPT3
import Derived.Test.YtfnlnpllpfhhnaaGreatDoorRows
import Derived.ProofKit
import Derived.LaidMore
import Derived.Lib.LaidU8
import Derived.Stop.LaidErr
import Derived.Lay
set_option linter.all false
namespace Go.Proofs.YtfnlnpllpfhhnaaGreatDoor.TT
open Go Go.AM Go.ChangeShapes Go.WideShapes Go.ChangeAt Go.RowKit
set_option maxRecDepth 100000
theorem gy0:(Tryz.prog.globals[0]?).map (·.type)=some 217:=by kernel_rfl
theorem gy1:(Tryz.prog.globals[1]?).map (·.type)=some 311:=by kernel_rfl
theorem gy2:(Tryz.prog.globals[2]?).map (·.type)=some 174:=by kernel_rfl
theorem gy3:(Tryz.prog.globals[3]?).map (·.type)=some 174:=by kernel_rfl
theorem gy5:(Tryz.prog.globals[5]?).map (·.type)=some 518:=by kernel_rfl
theorem gy8:(Tryz.prog.globals[8]?).map (·.type)=some 546:=by kernel_rfl
theorem gy9:(Tryz.prog.globals[9]?).map (·.type)=some 547:=by kernel_rfl
theorem gz5:Tryz.prog.underlying 5=some (.int .u8):=by kernel_rfl
theorem gz9:Tryz.prog.underlying 9=some .string:=by kernel_rfl
theorem ayw:Tryz.prog.underlying 217=some (.array 256 5):=by kernel_rfl
theorem ayx:Tryz.prog.underlying 396=some (.int .u64):=by kernel_rfl
theorem ayy:Tryz.prog.underlying 518=some (.array 20 396):=by kernel_rfl
theorem ayz:Tryz.prog.underlying 546=some (.array 32 5):=by kernel_rfl
theorem ayA:Tryz.prog.underlying 547=some (.array 64 5):=by kernel_rfl
theorem ayB:Tryz.prog.underlying 311=some (.pointer 383):=by kernel_rfl
theorem Xw {P:Program}{t:TypeId}(h:(match P.underlying t with | some (.interface _)=>true | _=>false)=true):∃ms,P.underlying t=some (.interface ms):=by split at h;rename_i ms a;exact⟨ms,a⟩;cases h
theorem agD {P:Program}{t u:TypeId}(h:(match P.underlying t with | some (.struct ⟨[f]⟩)=>Nat.beq f.type u&&Nat.beq f.offset 0 | _=>false)=true):∃f:Field,P.underlying t=some (.struct #[f])∧f.type=u∧f.offset=0:=by split at h;rename_i f a;simp only [D5] at h;exact⟨f,a,rW h.1,rW h.2⟩;cases h
theorem ayC:∃ms,Tryz.prog.underlying 174=some (.interface ms):=Xw (by kernel_rfl)
theorem ajw:Tryz.prog.underlying 486=some (.pointer 488):=by kernel_rfl
theorem ayD:∃f:Field,Tryz.prog.underlying 488=some (.struct #[f])∧f.type=9∧f.offset=0:=agD (by kernel_rfl)
theorem gc5:Tryz.prog.cellsOf 5=1:=by kernel_rfl
theorem gc9:Tryz.prog.cellsOf 9=1:=by kernel_rfl
theorem ayE:Tryz.prog.cellsOf 217=256:=by kernel_rfl
theorem ayF:Tryz.prog.cellsOf 396=1:=by kernel_rfl
theorem ayG:Tryz.prog.cellsOf 518=20:=by kernel_rfl
theorem ayH:Tryz.prog.cellsOf 546=32:=by kernel_rfl
theorem ayI:Tryz.prog.cellsOf 547=64:=by kernel_rfl
theorem ajx:Tryz.prog.cellsOf 488=1:=by kernel_rfl
theorem ajy: "*" ++ "errors.errorString"= "*errors.errorString":=by decide
theorem VN (u:TypeId)(h:Tryz.prog.typeName? 3 u=some "*errors.errorString"):u=486:=
 typeName_ptr_named (nm:= "errors.errorString") (by rw [ajy];kernel_rfl) (by kernel_rfl) (by decide) u (by rw [ajy];exact h)
theorem dA:(Rows.laid_strings_asciiSpace:DataW Unit)=Lib.tabData .u8 nsA:=by kernel_rfl
theorem dP:(Rows.laid_internal_strconv_uint64pow10:DataW Unit)=Lib.tabData .u64 nsP:=by kernel_rfl
theorem d32:(Rows.laid_math_bits_deBruijn32tab:DataW Unit)=Lib.tabData .u8 aeL:=by kernel_rfl
theorem d64:(Rows.laid_math_bits_deBruijn64tab:DataW Unit)=Lib.tabData .u8 aeM:=by kernel_rfl
theorem dW:(Rows.laid_unicode_White_Space:DataW Unit)=Lib.whiteData:=by kernel_rfl
theorem alY:WhiteExtra Tryz.prog Tryz.Ga:=⟨by kernel_rfl,by kernel_rfl,by kernel_rfl,by kernel_rfl,by kernel_rfl,by kernel_rfl,by kernel_rfl,by kernel_rfl⟩
theorem agE {W:World}{B C:String×DataW Unit}{rest:List (String×DataW Unit)}(h:laidMet Tryz.prog (("internal/strconv.uint64pow10",Rows.laid_internal_strconv_uint64pow10)::("math/bits.deBruijn32tab",Rows.laid_math_bits_deBruijn32tab)::("math/bits.deBruijn64tab",Rows.laid_math_bits_deBruijn64tab)::("strconv.ErrSyntax",Rows.laid_strconv_ErrSyntax)::("strconv.ErrRange",Rows.laid_strconv_ErrRange)::B::C::("strings.asciiSpace",Rows.laid_strings_asciiSpace)::("unicode.White_Space",Rows.laid_unicode_White_Space)::rest) W):
  ∃ι,RM Tryz.prog base ι (K9 base []) W.heap:=by
 rw [dA,dP,d32,d64,dW] at h;obtain⟨F,c⟩:=ayC;obtain⟨f,d,m,l⟩:=ayD;have s:=Lib.tabIs_of_head gn5 gy5 ayy ayx ayF ayG h;have h:=laidMet.tail h;have i:=Lib.tabIs_of_head gn8 gy8 ayz gz5 gc5 ayH h;have h:=laidMet.tail h;have j:=Lib.tabIs_of_head gn9 gy9 ayA gz5 gc5 ayI h;have h:=laidMet.tail h;obtain⟨D,G,v,_⟩:=laid_sentinel h gn2 gy2 c VN ajw d m l gz9 ajx gc9;have h:=laidMet.tail h;obtain⟨E,H,w,_⟩:=laid_sentinel h gn3 gy3 c VN ajw d m l gz9 ajx gc9;have h:=laidMet.tail (laidMet.tail (laidMet.tail h));have r:=Lib.tabIs_of_head gn0 gy0 ayw gz5 gc5 ayE h;have h:=laidMet.tail h;have q:=Lib.laidMet.reads h (adI ..);have A:=whiteTab_of_reads Tryz.agw alY q;obtain⟨g,t,u,o,p,z,k,b,x⟩:=q;obtain rfl:=LA (gn1.symm.trans z);obtain rfl:=LA (gy1.symm.trans k);rcases DataW.trod_pointer ayB x with⟨_,hx⟩ | ⟨a,cs',y,n,_,e,_⟩;cases hx;have e:u=#[.pointer (some a)]:=by apply Array.ext';simpa using e
 rw [e] at b;exact agC r s i j A b v w
theorem ad6 {W:World}(h:laidMetH Tryz.prog Rows.roomCrashesRow.laid W):∃ι,RM Tryz.prog base ι (K9 base []) W.heap:=by rw [MakeChecks.laidMetH_plain _ _ _ (by kernel_rfl)] at h;exact agE h
theorem aEM:ownKnob Tryz.prog.godebug=none:=by kernel_rfl
theorem ad7:3<Tryz.prog.types.size:=of_decide_eq_true (by kernel_rfl)
theorem Ob:Tryz.prog.readableRec 3=true:=by kernel_rfl
theorem Uy:Tryz.prog.underlying 3=some (.int .i64):=by kernel_rfl
theorem alZ:64<Tryz.prog.types.size:=of_decide_eq_true (by kernel_rfl)
theorem ad8:Tryz.prog.readableRec 64=true:=by kernel_rfl
theorem agF:Tryz.prog.underlying 64=some (.slice 40):=by kernel_rfl
theorem ad9:Tryz.prog.underlying 4=some .bool:=by kernel_rfl
theorem agG (os:Os)(c:os.Started)(H:Type)(enc:TypeId×Value->H):
  ReturnsInHanded {} Tryz.checked os 6 .any (λw args=>(Rows.roomCrashesSpec.pre enc Tryz.prog Tryz.f6 [] false w args∧laidMetH Tryz.prog Rows.roomCrashesRow.laid w)∧sizedMet enc Tryz.prog Tryz.f6 (OpenSpec.ofChange Rows.roomCrashesSpec) false w args)
   (Rows.roomCrashesSpec.post enc Tryz.prog Tryz.f6 false true false false):=by
 refine returnsInHanded_of_change_and (C:=Tryz.checked) (X:=λw _=>laidMetH Tryz.prog Rows.roomCrashesRow.laid w) (λ_ _ _ hh h=>h.of_heap hh) aEM c (by kernel_rfl) Tryz.func6
  (ChangeSpec.witness_shaped (enc:=enc) (C:=Tryz.checked) (os:=os) (X:=λw _=>laidMetH Tryz.prog Rows.roomCrashesRow.laid w) false (World.laidAll Tryz.prog os Rows.roomCrashesRow.laid) #[.int .i64 0,.slice none 0 0,.int .i64 0,.int .i64 0] 8 (World.laidAll_os _ _ _) (World.shaped_of_ZipB (by kernel_rfl) (by kernel_rfl)) (by kernel_rfl) (by kernel_rfl) (by kernel_rfl) (by rw [MakeChecks.laidMetH_plain _ _ _ (by kernel_rfl)];exact laidMet_laidAll _ (by kernel_rfl) (by kernel_rfl))) ?_
 intro W o args Z gs r m M _ _ hL _;have b:∀(j:Nat) t v,Tryz.f6.params[j]?=some t->args[j]?=some v->Value.okWide Tryz.prog W .any o t v:=m;have l:=M;obtain⟨p,q,D,hV,rfl,a0,a2⟩:=M;have L:DataW.TrodAll enc Tryz.prog W 0 (λ_=>true) true Tryz.f6.params.toList args.toList Z p:=D;rw [Tryz.params6] at L b;obtain⟨v0,v1,v2,v3,d0,d1,d2,d3,n,k,f,p3,rfl,rfl,rfl,G,I,J,K⟩:=trodAll_four L;obtain⟨rfl,rfl⟩:=trodVars_none hV;obtain⟨z0,rfl⟩:=okWide_int Uy (b 0 3 v0 rfl rfl);obtain⟨F,g,cap1,rfl⟩:=okWide_slice agF (b 1 64 v1 rfl rfl);obtain⟨z2,rfl⟩:=okWide_int Uy (b 2 3 v2 rfl rfl);obtain⟨z3,rfl⟩:=okWide_int Uy (b 3 3 v3 rfl rfl);obtain⟨ι,hm⟩:=ad6 hL;obtain⟨f0,t0⟩:=id G;obtain⟨f1,t1⟩:=id I;obtain⟨f2,t2⟩:=id J;obtain⟨f3,t3⟩:=id K;obtain⟨T,U,V,Y,y,z,A,B,N⟩:=alX hm rfl t0 t1 t2 t3;have y:T=.int .i64 z0:=by have:=y;simp [Value.cells] at this;exact this.symm
 have z:U=.slice F g cap1:=by have:=z;simp [Value.cells] at this;exact this.symm
 have A:V=.int .i64 z2:=by have:=A;simp [Value.cells] at this;exact this.symm
 have B:Y=.int .i64 z3:=by have:=B;simp [Value.cells] at this;exact this.symm
 have E:(#[T,U,V,Y]:Array Value)=#[.int .i64 z0,.slice F g cap1,.int .i64 z2,.int .i64 z3]:=by rw [y,z,A,B]
 rw [E] at N;refine N.mono λe W' ⟨he,w3,w4,w5,w6,w7⟩=>?_;subst he;have s:Below W.heap.size W W':=⟨w5,w7,w6,w3,w4⟩;refine⟨_,rfl,?_⟩;simp only [adB] at l;have u:=l.lt;have hk:∀may,W.keptBut W' may:=λmay=>by refine⟨w5,w6,λi O=>?_⟩;have:=(World.keptBut_refl W may).2.2 i O;rw [w4 i O];exact this
 have P:∀x,x∈n->x∈n++k++f++p3:=λx a=>by simp [a]
 have Q:∀x,x∈k->x∈n++k++f++p3:=λx a=>by simp [a]
 have R:∀x,x∈f->x∈n++k++f++p3:=λx a=>by simp [a]
 have S:∀x,x∈p3->x∈n++k++f++p3:=λx a=>by simp [a]
 refine Rm (pa:=n++k++f++p3) (pv:=[]) l (λ_ _ _=>trodAll_mk1 (shut_bool ad9 _)) (λsp d=>?_) (λ_ _=>rfl) (by simp) (hk _) (λx a=>by unfold World.frozen?;rw [w4 _ a]) (ok_one (by kernel_rfl) rfl (okWide_bool_mk ad9 _));rw [Tryz.params6];exact⟨n,k++f++p3,WideElems.Trod_stays laidOut Ob ad7 G (λx a=>s.same (u x (P x a))) (λx a=>d x (P x a)),⟨k,f++p3,WideElems.Trod_stays laidOut ad8 alZ I (λx a=>s.same (u x (Q x a))) (λx a=>d x (Q x a)),⟨f,p3,WideElems.Trod_stays laidOut Ob ad7 J (λx a=>s.same (u x (R x a))) (λx a=>d x (R x a)),⟨p3,[],WideElems.Trod_stays laidOut Ob ad7 K (λx a=>s.same (u x (S x a))) (λx a=>d x (S x a)),rfl,by simp⟩,by simp⟩,by simp⟩,by simp⟩
end Go.Proofs.YtfnlnpllpfhhnaaGreatDoor.TT
