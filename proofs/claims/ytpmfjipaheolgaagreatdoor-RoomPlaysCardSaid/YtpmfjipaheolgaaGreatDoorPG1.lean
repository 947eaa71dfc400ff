/- The row of RoomPlays, lifted from its walk; conditions: the row's own. -/
import Derived.Test.YtpmfjipaheolgaaGreatDoorPG0
import Derived.Test.YtpmfjipaheolgaaGreatDoorPT3
import Derived.Test.YtpmfjipaheolgaaGreatDoorRows
import Derived.ProofKit
import Derived.LaidMore
import Derived.Lib.LaidU8
import Derived.Stop.LaidErr
import Derived.Lay
set_option linter.all false
namespace Go.Proofs.YtpmfjipaheolgaaGreatDoor.TT
open Go Go.AM Go.ChangeShapes Go.WideShapes Go.ChangeAt Go.RowKit
set_option maxRecDepth 100000
open Nat (beq ble blt)
theorem gy2:(Tryz.prog.globals[2]?).map (·.type)=some 449:=by kernel_rfl
theorem gy4:(Tryz.prog.globals[4]?).map (·.type)=some 511:=by kernel_rfl
theorem gy0:(Tryz.prog.globals[0]?).map (·.type)=some 206:=by kernel_rfl
theorem gy1:(Tryz.prog.globals[1]?).map (·.type)=some 206:=by kernel_rfl
theorem gy7:(Tryz.prog.globals[7]?).map (·.type)=some 558:=by kernel_rfl
theorem gy8:(Tryz.prog.globals[8]?).map (·.type)=some 566:=by kernel_rfl
theorem gy9:(Tryz.prog.globals[9]?).map (·.type)=some 567:=by kernel_rfl
theorem gz5:Tryz.prog.underlying 5=some (.int .u8):=by kernel_rfl
theorem gz9:Tryz.prog.underlying 9=some .string:=by kernel_rfl
theorem arR:Tryz.prog.underlying 449=some (.array 256 5):=by kernel_rfl
theorem arS:Tryz.prog.underlying 351=some (.int .u64):=by kernel_rfl
theorem arT:Tryz.prog.underlying 558=some (.array 20 351):=by kernel_rfl
theorem arU:Tryz.prog.underlying 566=some (.array 32 5):=by kernel_rfl
theorem arV:Tryz.prog.underlying 567=some (.array 64 5):=by kernel_rfl
theorem arW:Tryz.prog.underlying 511=some (.pointer 540):=by kernel_rfl
theorem ZQ{P:cH}{t:cI}(h:(match P.underlying t with|some (.interface _)=>true|_=>false)=true):∃ms,P.underlying t=some (.interface ms):=by split at h;rename_i ms a;exact⟨ms,a⟩;cases h
theorem agw{P:cH}{t u:cI}(h:(match P.underlying t with|some (.struct ⟨[f]⟩)=>beq f.type u&&beq f.offset 0|_=>false)=true):∃f:Field,P.underlying t=some (.struct #[f])∧f.type=u∧f.offset=0:=by split at h;rename_i f a;simp only[oo]at h;exact⟨f,a,nA h.1,nA h.2⟩;cases h
theorem arX:∃ms,Tryz.prog.underlying 206=some (.interface ms):=ZQ (by kernel_rfl)
theorem aha:Tryz.prog.underlying 504=some (.pointer 506):=by kernel_rfl
theorem arY:∃f:Field,Tryz.prog.underlying 506=some (.struct #[f])∧f.type=9∧f.offset=0:=agw (by kernel_rfl)
theorem gc5:Tryz.prog.cellsOf 5=1:=by kernel_rfl
theorem gc9:Tryz.prog.cellsOf 9=1:=by kernel_rfl
theorem arZ:Tryz.prog.cellsOf 449=256:=by kernel_rfl
theorem as0:Tryz.prog.cellsOf 351=1:=by kernel_rfl
theorem as1:Tryz.prog.cellsOf 558=20:=by kernel_rfl
theorem as3:Tryz.prog.cellsOf 566=32:=by kernel_rfl
theorem as5:Tryz.prog.cellsOf 567=64:=by kernel_rfl
theorem ahb:Tryz.prog.cellsOf 506=1:=by kernel_rfl
theorem ahc: "*" ++ "errors.errorString"= "*errors.errorString":=by decide
theorem Ye (u:cI)(h:Tryz.prog.typeName? 3 u=some "*errors.errorString"):u=504:=
 typeName_ptr_named (nm:= "errors.errorString") (by rw [ahc];kernel_rfl) (by kernel_rfl) (by decide) u (by rw [ahc];exact h)
theorem dA:(Rows.laid_strings_asciiSpace:DataW Unit)=Lib.tabData .u8 nsA:=by kernel_rfl
theorem dP:(Rows.laid_internal_strconv_uint64pow10:DataW Unit)=Lib.tabData .u64 nsP:=by kernel_rfl
theorem d32:(Rows.laid_math_bits_deBruijn32tab:DataW Unit)=Lib.tabData .u8 aeb:=by kernel_rfl
theorem d64:(Rows.laid_math_bits_deBruijn64tab:DataW Unit)=Lib.tabData .u8 aec:=by kernel_rfl
theorem dW:(Rows.laid_unicode_White_Space:DataW Unit)=Lib.whiteData:=by kernel_rfl
theorem ajm:WhiteExtra Tryz.prog Tryz.rn:=⟨by kernel_rfl,by kernel_rfl,by kernel_rfl,by kernel_rfl,by kernel_rfl,by kernel_rfl,by kernel_rfl,by kernel_rfl⟩
theorem agx {W:cG}{B C:String×DataW Unit}{rest:List (String×DataW Unit)}(h:laidMet Tryz.prog (("internal/strconv.uint64pow10",Rows.laid_internal_strconv_uint64pow10)::("math/bits.deBruijn32tab",Rows.laid_math_bits_deBruijn32tab)::("math/bits.deBruijn64tab",Rows.laid_math_bits_deBruijn64tab)::("strconv.ErrSyntax",Rows.laid_strconv_ErrSyntax)::("strconv.ErrRange",Rows.laid_strconv_ErrRange)::B::C::("strings.asciiSpace",Rows.laid_strings_asciiSpace)::("unicode.White_Space",Rows.laid_unicode_White_Space)::rest) W):
  ∃Y,RM Tryz.prog base Y (Q7 base []) W.heap:=by
 rw[dA,dP,d32,d64,dW]at h;obtain⟨F,m⟩:=arX;obtain⟨f,q,k,j⟩:=arY;have s:=Lib.tabIs_of_head gn7 gy7 arT arS as0 as1 h;have h:=laidMet.tail h;have d:=Lib.tabIs_of_head gn8 gy8 arU gz5 gc5 as3 h;have h:=laidMet.tail h;have e:=Lib.tabIs_of_head gn9 gy9 arV gz5 gc5 as5 h;have h:=laidMet.tail h;obtain⟨D,G,v,_⟩:=laid_sentinel h gn0 gy0 m Ye aha q k j gz9 ahb gc9;have h:=laidMet.tail h;obtain⟨E,H,w,_⟩:=laid_sentinel h gn1 gy1 m Ye aha q k j gz9 ahb gc9;have h:=laidMet.tail h;have h:=laidMet.tail h;have h:=laidMet.tail h;have r:=Lib.tabIs_of_head gn2 gy2 arR gz5 gc5 arZ h;have h:=laidMet.tail h;have o:=Lib.laidMet.reads h (agD ..);have A:=whiteTab_of_reads Tryz.agq ajm o;obtain⟨g,t,u,l,p,z,i,b,x⟩:=o;obtain rfl:=rW (gn4.symm.trans z);obtain rfl:=rW (gy4.symm.trans i);rcases DataW.trod_pointer arW x with⟨_,hx⟩|⟨a,cs',y,n,_,c,_⟩;cases hx;have c:u=#[.pointer (some a)]:=by apply Array.ext';simpa using c
 rw[c]at b;exact agv r s d e A b v w
theorem ade{W:cG}(h:laidMetH Tryz.prog Rows.roomPlaysRow.laid W):∃Y,RM Tryz.prog base Y (Q7 base []) W.heap:=by rw[MakeChecks.laidMetH_plain _ _ _ (by kernel_rfl)]at h;exact agx h
theorem avW:ownKnob Tryz.prog.godebug=none:=by kernel_rfl
theorem sz4:66<Tryz.prog.types.size:=of_decide_eq_true (by kernel_rfl)
theorem as6:Tryz.prog.readableRec 66=true:=by kernel_rfl
theorem avX:Tryz.prog.underlying 66=some (.slice 75):=by kernel_rfl
theorem adf:Tryz.prog.underlying 4=some .bool:=by kernel_rfl
theorem agy(os:Os)(a:os.Started)(H:Type)(enc:cI×Value->H):
  ReturnsInHanded {} Tryz.checked os 4 .any (λw args=>(Rows.roomPlaysSpec.pre enc Tryz.prog Tryz.f4 [] false w args∧laidMetH Tryz.prog Rows.roomPlaysRow.laid w)∧sizedMet enc Tryz.prog Tryz.f4 (OpenSpec.ofChange Rows.roomPlaysSpec) false w args)
   (Rows.roomPlaysSpec.post enc Tryz.prog Tryz.f4 false true false false):=by
 refine returnsInHanded_of_change_and (C:=Tryz.checked) (X:=λw _=>laidMetH Tryz.prog Rows.roomPlaysRow.laid w) (λ_ _ _ G h=>h.of_heap G) avW a (by kernel_rfl) Tryz.func4
  (ChangeSpec.witness_shaped (enc:=enc) (C:=Tryz.checked) (os:=os) (X:=λw _=>laidMetH Tryz.prog Rows.roomPlaysRow.laid w) false (World.laidAll Tryz.prog os Rows.roomPlaysRow.laid) #[.slice none 0 0] 8 (World.laidAll_os _ _ _) (World.shaped_of_ZipB (by kernel_rfl) (by kernel_rfl)) (by kernel_rfl) (by kernel_rfl) (by kernel_rfl) (by rw[MakeChecks.laidMetH_plain _ _ _ (by kernel_rfl)];exact laidMet_laidAll _ (by kernel_rfl) (by kernel_rfl))) ?_
 intro W f args A R l d s _ _ B _;have b:∀(j:Nat) t v,Tryz.f4.params[j]?=some t->args[j]?=some v->Value.okWide Tryz.prog W .any f t v:=d;have c:=s;obtain⟨p0,q,n,D,rfl,F,K⟩:=s;have r:DataW.TrodAll enc Tryz.prog W 0 (λ_=>true) true Tryz.f4.params.toList args.toList A p0:=n;rw[Tryz.params4]at r b;obtain⟨O,P,rfl,rfl,p⟩:=trodAll_one r;obtain⟨rfl,rfl⟩:=trodVars_none D;obtain⟨z,k,cap0,rfl⟩:=okWide_slice avX (b 0 66 O rfl rfl);obtain⟨T,J⟩:=ade B;obtain⟨Q,M⟩:=id p;obtain⟨N,m,u⟩:=ajl J rfl M;have m:N=.slice z k cap0:=by have:=m;simp[Value.cells]at this;exact this.symm
 rw[m]at u;refine u.mono λe W' ⟨he,w3,w4,w5,w6,w7⟩=>?_;subst he;have E:Below W.heap.size W W':=⟨w5,w7,w6,w3,w4⟩;refine⟨_,rfl,?_⟩;simp only[agA]at c;have L:=c.lt;have I:∀may,W.keptBut W' may:=λmay=>by refine⟨w5,w6,λi y=>?_⟩;have:=(World.keptBut_refl W may).2.2 i y;rw[w4 i y];exact this
 refine TM (pa:=p0) (pv:=[]) c (λ_ _ _=>trodAll_mk1 (shut_bool adf _)) (λS o=>?_) (λ_ _=>rfl) (by simp) (I _) (λx g=>by unfold World.frozen?;rw[w4 _ g]) (ok_one (by kernel_rfl) rfl (okWide_bool_mk adf _));rw[Tryz.params4];exact⟨p0,[],WideElems.Trod_stays laidOut as6 sz4 p (λx g=>E.same (L x g)) (λx g=>o x g),rfl,by simp⟩
end Go.Proofs.YtpmfjipaheolgaaGreatDoor.TT
