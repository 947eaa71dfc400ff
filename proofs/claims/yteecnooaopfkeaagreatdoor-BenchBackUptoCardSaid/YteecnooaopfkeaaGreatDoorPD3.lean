/- The parser of the program, walked; conditions: the memory holds what the arguments say. -/
import Derived.Test.YteecnooaopfkeaaGreatDoorPD2
set_option linter.all false
namespace Go.Proofs.YteecnooaopfkeaaGreatDoor.TT
open Go Go.AM
theorem Zw (a:List Ex)(b:Ex):U1 (a ++ [b])=U1 a+ng b:=by
 induction a with
 | nil=>simp [U1]
 | cons x l ih=>simp [U1,ih];omega
theorem Qu (a:List V4)(b:V4):V6 (a ++ [b])=V6 a+stP b:=by
 induction a with
 | nil=>simp [V6]
 | cons x l ih=>simp [V6,ih];omega
theorem HZ (f:Nat):(∀lv t x r,aj f lv t=some (x,r)->ng x+r.length<=t.length)∧(∀lv x t y r,bK f lv x t=some (y,r)->ng y+r.length<=ng x+t.length)∧(∀t x r,iw f t=some (x,r)->ng x+r.length<=t.length)∧
  (∀t x r,gF f t=some (x,r)->U1 x+r.length<=t.length)∧(∀l t x r,fZ f l t=some (x,r)->U1 x+r.length<=U1 l+t.length):=by
 induction f with
 | zero=>exact⟨by intro _ _ _ _ h;simp [aj] at h,by intro _ _ _ _ _ h;simp [bK] at h,by intro _ _ _ h;simp [iw] at h,by intro _ _ _ h;simp [gF] at h,by intro _ _ _ _ h;simp [fZ] at h⟩
 | succ f ih=>obtain⟨c,g,m,n,i⟩:=ih;refine⟨λlv t x r h=>?_,λlv x t y r h=>?_,λt x r h=>?_,λt x r h=>?_,λl t x r h=>?_⟩;rw [aj] at h;split at h;split at h;rename_i b;have:=aR b;split at h;cases h;rename_i a;have:=c _ _ _ _ a;cases h;simp [ng,U1] at this ⊢;omega;exact c _ _ _ _ h;split at h;split at h;rename_i b;have:=aR b;split at h;cases h;rename_i a;have:=c _ _ _ _ a;cases h;simp [ng,U1] at this ⊢;omega;exact m _ _ _ h;split at h;cases h;rename_i a;have:=c _ _ _ _ a;have:=g _ _ _ _ _ h;omega;rw [bK] at h;split at h;cases h;omega;rename_i k;have:=Ng k;split at h;cases h;rename_i a;have d:=c _ _ _ _ a;simp at d;split at h;cases h;simp [ng,U1];omega;have:=g _ _ _ _ _ h;simp [ng,U1] at this;omega;rw [iw] at h;split at h;rename_i b;have:=Qr b;cases h;simp [ng,U1];omega;split at h;rename_i b;have:=aR b;split at h;cases h;rename_i a;have d:=c _ _ _ _ a;simp at d;split at h;cases h;simp;omega;cases h;split at h;rename_i b;have:=sJ b;split at h;split at h;cases h;simp [ng,U1];omega;split at h;cases h;rename_i e _ _ _ _ a;have d:=n _ _ _ a;have j:=aR e;simp at d j;split at h;cases h;simp [ng];omega;cases h;cases h;simp [ng,U1];omega;cases h;rw [gF] at h;split at h;cases h;rename_i a;have:=c _ _ _ _ a;have:=i _ _ _ _ h;simp [U1] at this;omega;rw [fZ] at h;split at h;rename_i b;have:=aR b;split at h;cases h;rename_i a;have d:=c _ _ _ _ a;simp at d;have:=i _ _ _ _ h;rw [Zw] at this;omega;cases h;omega
theorem Qv {f:Nat}{k:Int}{t r:List Tok}{x:V4}(h:zK f k t=some (x,r)):stP x+r.length<=t.length:=by unfold zK at h;split at h;split at h;split at h;cases h;rename_i a _ _ _ d;have b:=(HZ f).1 _ _ _ _ d;have c:=aR a;cases h;simp [stP,U1,V6] at b c ⊢;omega;cases h;cases h
theorem Zx {f:Nat}{t r:List Tok}{x:V4}(h:wW f t=some (x,r)):stP x+r.length<=t.length+1:=by unfold wW at h;split at h;rename_i b;have:=aR b;split at h;cases h;rename_i a;have:=(HZ f).2.2.2.1 _ _ _ a;cases h;simp [stP,U1,V6] at this ⊢;omega;split at h;have:=Qv h;simp at this;omega;split at h;split at h;cases h;rename_i a;have:=(HZ f).2.2.1 _ _ _ a;cases h;simp [stP,U1,V6] at this ⊢;omega;have:=Qv h;omega
theorem ag4 (f:Nat):(∀t x r,kY f t=some (x,r)->stP x+r.length<=t.length)∧(∀t x r,pU f t=some (x,r)->V6 x+r.length<=t.length)∧(∀l t x r,qp f l t=some (x,r)->V6 x+r.length<=V6 l+t.length):=by
 induction f with
 | zero=>exact⟨by intro _ _ _ h;simp [kY] at h,by intro _ _ _ h;simp [pU] at h,by intro _ _ _ _ h;simp [qp] at h⟩
 | succ f ih=>obtain⟨n,g,j⟩:=ih;refine⟨λt x r h=>?_,λt x r h=>?_,λl t x r h=>?_⟩;rw [kY] at h;split at h;rename_i b;have:=aR b;split at h;cases h;rename_i a;have c:=(HZ f).1 _ _ _ _ a;simp at c;split at h;cases h;rename_i e;have i:=g _ _ _ e;split at h;split at h;cases h;rename_i m;have k:=g _ _ _ m;cases h;simp [stP,U1] at k ⊢;omega;cases h;simp [stP,U1,V6];omega;split at h;rename_i b;have:=aR b;split at h;cases h;rename_i a;have c:=(HZ f).1 _ _ _ _ a;simp at c;split at h;cases h;rename_i e;have i:=g _ _ _ e;cases h;simp [stP,U1,V6];omega;split at h;cases h;rename_i a;have c:=Zx a;split at h;rename_i d;have i:=aR d;cases h;simp;omega;cases h;rw [pU] at h;split at h;have:=j _ _ _ _ h;simp [V6] at this;omega;cases h;rw [qp] at h;split at h;rename_i b;have:=aR b;cases h;simp;split at h;cases h;rename_i a;have:=n _ _ _ a;have:=j _ _ _ _ h;rw [Qu] at this;omega
theorem Zy (f:Nat):∀l t x,sI f l t=some x->V6 x<=V6 l+t.length:=by
 induction f with
 | zero=>intro _ _ _ h;simp [sI] at h
 | succ f ih=>intro l t x h;rw [sI] at h;split at h;cases h;omega;split at h;cases h;rename_i b;have c:=(ag4 f).1 _ _ _ b;have a:=ih _ _ _ h;rw [Qu] at a;omega
mutual
theorem ag5:∀(e:Ex),wU e<=ng e
 | .mk _ _ _ a=>by rw [wU,ng];have:=Nj a;omega
theorem Nj:∀(l:List Ex),bF l<=U1 l
 | []=>by simp [bF]
 | e::l=>by rw [bF,U1];have:=ag5 e;have:=Nj l;omega
end
mutual
theorem ag6:∀(e:V4),zO e<=stP e
 | .mk _ _ e t f=>by rw [zO,stP];have:=Nj e;have:=Nk t;have:=Nk f;omega
theorem Nk:∀(l:List V4),cu l<=V6 l
 | []=>by simp [cu]
 | e::l=>by rw [cu,V6];have:=ag6 e;have:=Nk l;omega
end
set_option maxRecDepth 100000
set_option maxHeartbeats 2000000
theorem ag7 (f:Nat):CM f:=by
 intro n H p t S M hR hW ht hm hn a9;obtain⟨n,rfl⟩:∃k,n=k+6:=⟨n-6,by omega⟩;have hM:=hR.ok;have ax:=hR.lt;have af:=hR.lF;have E1:=H7 hM [o9 (r5 0 [] nS nS nS)];have n1:(ext M [o9 (r5 0 [] nS nS nS)]).nx=M.nx+1:=by simp
 have ak:=hR.fence.ext E1;have ai:(ext M [o9 (r5 0 [] nS nS nS)]).get M.nx=some (o9 (r5 0 [] nS nS nS)):=by rw [F7 hM];rfl
 have ab:∀(M3:Mem),bT p (ext M [o9 (r5 0 [] nS nS nS)]) M3->M3.get M.nx=some (o9 (r5 0 [] nS nS nS))∧M.nx<M3.nx∧M3.lim<=M.nx∧bT p M M3:=λM3 X=>by have:=X.nx;exact⟨by rw [X.old _ (by omega) (by omega),ai],by omega,by rw [X.lim,E1.lim];exact af,E1.toB.trans X⟩
 obtain⟨M1,w,X1,R1⟩:=mo ak 112 [114,105,110,116] (n+2) H;have au:=X1.nx;unfold jL at R1;unfold wW;cases hpr:bC [112,114,105,110,116] t with
 | true=>
  have hl:=aR hpr;rw [hpr] at w R1;simp only [if_true] at R1 ⊢;have o:=(xU f f (aP _)).2.2 (n+5) H p (t.drop 1) _ _ R1 (hW.drop 1) (by simp;omega) (by simp;omega) (by omega) a9;cases hq:gF f (t.drop 1) with
  | none=>rw [hq] at o;obtain⟨M3,V,X3⟩:=o;refine⟨M3,?_,E1.toB.trans (X1.trans X3)⟩;rw [enter (sf:=f58) rfl rfl];simp [f58,D7,F6,w,V,panics]
  | some q=>
   obtain⟨l,r⟩:=q;rw [hq] at o;obtain⟨v',M3,V,X3,⟨ah,aa,ar⟩,R3⟩:=o;have am:=X3.nx;have po:=Jp aa.slice;have cv:=aa.slice.cells;have ov:=aa.slice.H6;obtain⟨q1,U,q3,q4⟩:=ab _ (X1.trans X3);have E:=sB q3;have gs:∀B,(M3.set M.nx B).get M.nx=some B:=λB=>D6 X3.ok _ U rfl;have F:=fin hR q4 U R3 (λi hi d=>by
    rcases d with (d | d) | d;exact .inl d;exact .inr (by omega);exact .inr (by omega)) (o9 (r5 5 [] v' nS nS))
   have k1:∀i,i<M3.nx->M1.nx<=i->(M3.set M.nx (o9 (r5 5 [] v' nS nS))).get i=M3.get i:=λi hi d=>w9 X3.ok _ U (by omega);refine⟨(r5 5 [] v' nS nS),_,?_,F.1,⟨v',nS,nS,ah,[],[],rfl,aa.mono (aP _) k1 (λi _ h=>by omega),I7.mono (m:=M3) (m':=M3.set M.nx (o9 (r5 5 [] v' nS nS))) (aP _) k1 (λi _ h=>by omega) _ _ ar,.inl ⟨rfl,rfl⟩,rfl,.inl ⟨rfl,rfl⟩,rfl⟩,F.2⟩;rw [enter (sf:=f58) rfl rfl];simp [f58,D7,F6,w,V,po,cv,ov,E,q1,gs]
 | false=>
  rw [hpr] at w R1;simp only [Xd,if_false] at R1 ⊢;obtain⟨M2,z,X2,R2⟩:=mo R1 108 [101,116] (n+2) H;have av:=X2.nx;have X12:=X1.trans X2;unfold jL at R2;cases hle:bC [108,101,116] t with
  | true=>
   have hl:=aR hle;rw [hle] at z R2;simp only [if_true] at R2 ⊢;have al:=hW.drop 1;have ay:(t.drop 1).length+1=t.length:=by simp;omega
   generalize t.drop 1=u at *;obtain⟨M4,J,X4,R4⟩:=Nh R2 n H (by omega);have an:=X4.nx;unfold zK;cases hnx:fV u with
   | false=>rw [hnx] at J;simp only [Xd,if_false] at J ⊢;refine⟨M4,?_,E1.toB.trans (X12.trans X4)⟩;rw [enter (sf:=f58) rfl rfl];simp [f58,D7,F6,w,z,J,panics]
   | true=>
    have aq:=sJ hnx;have R4:=R4 hnx;rw [hnx] at J;simp only [if_true] at J ⊢;have e:r9 KW H (n+5) (.func 100) [.ptr p 0] M2=some [⟨.str (txt u),M4⟩]:=J;have E5:=H7 X4.ok [o9 (r5 1 (txt u) nS nS nS)];have n5:(ext M4 [o9 (r5 1 (txt u) nS nS nS)]).nx=M4.nx+1:=(by simp);obtain⟨L,N,O,P,Q,R⟩:=qo X4.ok R4.lF;obtain⟨M6,A,X6,R6⟩:=CX (R4.fence.ext E5) 61 [] (n+1) H;have ap:=X6.nx;unfold jL at R6;have ac:M6.get M4.nx=some (o9 (r5 1 (txt u) nS nS nS)):=(by rw [X6.old _ (by omega) (by omega),F7 X4.ok];rfl);cases h61:bC [61] (u.drop 1) with
    | false=>rw [h61] at A;simp only [Xd,if_false] at A ⊢;refine⟨M6,?_,E1.toB.trans (X12.trans (X4.trans (E5.toB.trans X6)))⟩;rw [enter (sf:=f58) rfl rfl];simp [f58,D7,F6,w,z,e,L,N,O,P,Q,R,A,panics]
    | true=>
     rw [h61] at A R6;simp only [if_true,adS,Nat.reduceAdd] at A R6 ⊢;have o:=(xU f f (aP _)).1 0 (n+5) H p (u.drop 2) _ _ R6 (al.drop 2) (by simp;omega) (by omega) (by simp;omega) (by omega) a9;cases hq:aj f 0 (u.drop 2) with
     | none=>rw [hq] at o;obtain⟨M7,g7,X7⟩:=o;have s:r9 KW H (n+5) (.func 56) [.ptr p 0,iV 0] M6=_:=g7;refine⟨M7,?_,E1.toB.trans (X12.trans (X4.trans (E5.toB.trans (X6.trans X7))))⟩;rw [enter (sf:=f58) rfl rfl];simp [f58,D7,F6,w,z,e,L,N,O,P,Q,R,A,s,panics]
     | some q=>
      obtain⟨x,r⟩:=q;rw [hq] at o;obtain⟨a,M7,g7,X7,hr,R7⟩:=o;have s:r9 KW H (n+5) (.func 56) [.ptr p 0,iV 0] M6=_:=g7;have C:=hr.row;have ad:=X7.nx;have K:=λx ls env o=>Ni C.1 (x:=x) (ls:=ls) (env:=env) o;have E8:=H7 X7.ok [o9 a];have n8:(ext M7 [o9 a]).nx=M7.nx+1:=(by simp);obtain⟨D,a7,a8⟩:=Bt X7.ok hr ad;have q8:M4.nx<(ext M7 [o9 a]).nx:=(by omega);have Y:(ext M7 [o9 a]).get M4.nx=some (o9 (r5 1 (txt u) nS nS nS)):=(by rw [E8.old _ (by omega),X7.old _ (by omega) (by omega),ac]);have l8:(ext M7 [o9 a]).lim<=M4.nx:=(by rw [E8.lim,X7.lim,X6.lim,E5.lim];exact R4.lF);have a6:=sB l8;have G:((ext M7 [o9 a]).set M4.nx (o9 (r5 1 (txt u) (.slice M7.nx 0 1 1) nS nS))).Ok:=Mem.Ok.set E8.ok q8 _;have Z:((ext M7 [o9 a]).set M4.nx (o9 (r5 1 (txt u) (.slice M7.nx 0 1 1) nS nS))).get M4.nx=some (o9 (r5 1 (txt u) (.slice M7.nx 0 1 1) nS nS)):=D6 E8.ok _ q8 rfl;have X18:=X12.trans (X4.trans (E5.toB.trans (X6.trans (X7.trans E8.toB))));have X19:bT p (ext M [o9 (r5 0 [] nS nS nS)]) ((ext M7 [o9 a]).set M4.nx (o9 (r5 1 (txt u) (.slice M7.nx 0 1 1) nS nS))):=⟨G,X18.nx,X18.lim,λi hi hn=>by rw [w9 E8.ok _ q8 (by omega),X18.old i hi hn]⟩;have R8:=R7.ext E8;have R9:=RD.mono (M':=(ext M7 [o9 a]).set M4.nx (o9 (r5 1 (txt u) (.slice M7.nx 0 1 1) nS nS))) R8 G (aP _) rfl (w9 E8.ok _ q8 (by omega)) (λi hi d=>w9 E8.ok _ q8 (by rcases d with (d | d) | d<;>omega)) (λ_ _ h=>h) R8.np
      obtain⟨q1,U,q3,q4⟩:=ab _ X19;have E:=sB q3;have gs:∀B,(((ext M7 [o9 a]).set M4.nx (o9 (r5 1 (txt u) (.slice M7.nx 0 1 1) nS nS))).set M.nx B).get M.nx=some B:=λB=>D6 G _ U rfl;have F:=fin hR q4 U R9 (λi hi d=>by
       rcases d with (⟨(((d | d) | d) | d),_⟩ | d) | d;exact .inl d;all_goals exact .inr (by omega)) (o9 (r5 1 (txt u) (.slice M7.nx 0 1 1) nS nS))
      have k1:∀i,i<(ext M7 [o9 a]).nx->M6.nx<=i->(((ext M7 [o9 a]).set M4.nx (o9 (r5 1 (txt u) (.slice M7.nx 0 1 1) nS nS))).set M.nx (o9 (r5 1 (txt u) (.slice M7.nx 0 1 1) nS nS))).get i=(ext M7 [o9 a]).get i:=λi hi d=>(by rw [w9 G _ U (by omega),w9 E8.ok _ q8 (by omega)]);have a1:(ext M7 [o9 a]).nx<=(((ext M7 [o9 a]).set M4.nx (o9 (r5 1 (txt u) (.slice M7.nx 0 1 1) nS nS))).set M.nx (o9 (r5 1 (txt u) (.slice M7.nx 0 1 1) nS nS))).nx:=aP _;refine⟨(r5 1 (txt u) (.slice M7.nx 0 1 1) nS nS),_,?_,F.1,⟨.slice M7.nx 0 1 1,nS,nS,D,[],[],rfl,a7.mono a1 k1 (λi _ h=>by omega),I7.mono a1 k1 (λi _ h=>by omega) _ _ a8,.inl ⟨rfl,rfl⟩,rfl,.inl ⟨rfl,rfl⟩,rfl⟩,F.2⟩;rw [enter (sf:=f58) rfl rfl];simp [f58,D7,F6,w,z,e,L,N,O,P,Q,R,A,s,wY,K,C.1,Y,a6,Z,E,q1,gs]
  | false=>
   have aw:¬ bC [108,101,116] t=true:=by rw [hle];decide
   rw [hle] at z R2;simp only [Xd,if_false] at R2 ⊢;obtain⟨v,I,h2⟩:=R2.has;have b:=h2.slice.len;rw [show (U6 t).length=t.length from by simp [U6]] at b;obtain⟨M3,ae,E3⟩:=Zr R2 (n+1) H (by omega);have ag:∃M3,Ext M2 M3∧((¬ (1:Int)<(t.length:Int)∧M3=M2∧pR t=false)∨
     ((1:Int)<(t.length:Int)∧∃c y,∃(k:Nat) (x:By),lG v none (λid j g _=>idx g (o7.int .i64 1) λk=>some (o7.ptr id (j+k*2))) (λid j g _=>idx g (o7.int .i64 1) λk=>some (o7.ptr id (j+k*2)))=some (.ptr c y)∧AO (M2.get c) y 2=some (.agg [iV (k:Int),.str x])∧¬ k=3∧¬ (k:Int)=3∧M3=M2∧pR t=false)∨
     ((1:Int)<(t.length:Int)∧∃c y,∃(x:By),lG v none (λid j g _=>idx g (o7.int .i64 1) λk=>some (o7.ptr id (j+k*2))) (λid j g _=>idx g (o7.int .i64 1) λk=>some (o7.ptr id (j+k*2)))=some (.ptr c y)∧AO (M2.get c) y 2=some (.agg [iV 3,.str x])∧¬ x=[40]∧M3=M2∧pR t=false)∨
     ((1:Int)<(t.length:Int)∧∃c y,lG v none (λid j g _=>idx g (o7.int .i64 1) λk=>some (o7.ptr id (j+k*2))) (λid j g _=>idx g (o7.int .i64 1) λk=>some (o7.ptr id (j+k*2)))=some (.ptr c y)∧AO (M2.get c) y 2=some (.agg [iV 3,.str [40]])∧r9 KW H (n+1+4) (.func 99) [.ptr p 0] M2=some [⟨.bool (pR t),M3⟩])):=by
    by_cases hl:1<t.length;match t,hl with
    | z0::(k,x)::ts,hl=>obtain⟨c,y,a1,a2,a3,a4,a5⟩:=h2.slice.at (i:=1) (by simp [U6]);have T:=a4 0 2 (by omega) (by omega);simp only [Y7,U6,Z5,agD,ae4,uP,K9,adI,ahr] at T;have W:lG v none (λid j g _=>idx g (o7.int .i64 1) λk=>some (o7.ptr id (j+k*2))) (λid j g _=>idx g (o7.int .i64 1) λk=>some (o7.ptr id (j+k*2)))=some (.ptr c y):=(by simpa using a1);have a0:(1:Int)<(((z0::(k,x)::ts).length:Nat):Int):=(by omega);by_cases hk:k=3;subst hk;by_cases o:x=[40];subst o;have hp:pR (z0::(3,[40])::ts)=fV (z0::(3,[40])::ts):=(by simp [pR,bC,zJ,jq]);exact⟨M3,E3,.inr (.inr (.inr ⟨a0,c,y,W,T,by rw [hp];exact ae⟩))⟩;exact⟨M2,Ext.refl R2.ok,.inr (.inr (.inl ⟨a0,c,y,x,W,T,o,rfl,by simp [pR,bC,zJ,jq,o]⟩))⟩;exact⟨M2,Ext.refl R2.ok,.inr (.inl ⟨a0,c,y,k,x,W,T,hk,by omega,rfl,by simp [pR,bC,zJ,jq,hk]⟩)⟩
    exact⟨M2,Ext.refl R2.ok,.inl ⟨by omega,rfl,by
     have:t.drop 1=[]:=List.drop_eq_nil_iff.2 (by omega);unfold pR;rw [this];rfl⟩⟩
   clear ae E3 M3;obtain⟨M3,E3,lk⟩:=ag;have R3:=R2.ext E3;have X13:=X12.trans E3.toB;have am:M2.nx<=M3.nx:=E3.nx;cases hc:pR t with
   | true=>
    rw [hc] at lk;simp only [Bool.true_eq_false,and_false,exists_false,false_or] at lk;obtain⟨a0,c,y,W,T,V⟩:=lk;simp only [if_true];have o:=(xU f f (aP _)).2.1 (n+5) H p t _ _ R3 hW (by omega) (by omega) (by omega) a9;cases hq:iw f t with
    | none=>rw [hq] at o;obtain⟨M5,g5,X5⟩:=o;refine⟨M5,?_,E1.toB.trans (X13.trans X5)⟩;rw [enter (sf:=f58) rfl rfl];simp [f58,D7,F6,w,z,I,b,a0,W,T,V,g5,panics]
    | some q=>
     obtain⟨x,r⟩:=q;rw [hq] at o;obtain⟨a,M5,g5,X5,hr,R5⟩:=o;have C:=hr.row;have ao:=X5.nx;have K:=λx ls env o=>Ni C.1 (x:=x) (ls:=ls) (env:=env) o;have E6:=H7 X5.ok [o9 a];have n6:(ext M5 [o9 a]).nx=M5.nx+1:=(by simp);obtain⟨D,a7,a8⟩:=Bt X5.ok hr ao;have R6:=R5.ext E6;obtain⟨q1,U,q3,q4⟩:=ab _ (X13.trans (X5.trans E6.toB));have E:=sB q3;have gs:∀B,((ext M5 [o9 a]).set M.nx B).get M.nx=some B:=λB=>D6 E6.ok _ U rfl;have F:=fin hR q4 U R6 (λi hi d=>by
      rcases d with ((d | d) | d) | d;exact .inl d;all_goals exact .inr (by omega)) (o9 (r5 6 [] (.slice M5.nx 0 1 1) nS nS))
     have k1:∀i,i<(ext M5 [o9 a]).nx->M3.nx<=i->((ext M5 [o9 a]).set M.nx (o9 (r5 6 [] (.slice M5.nx 0 1 1) nS nS))).get i=(ext M5 [o9 a]).get i:=λi hi d=>(by rw [w9 E6.ok _ U (by omega)]);have a1:(ext M5 [o9 a]).nx<=((ext M5 [o9 a]).set M.nx (o9 (r5 6 [] (.slice M5.nx 0 1 1) nS nS))).nx:=aP _;refine⟨(r5 6 [] (.slice M5.nx 0 1 1) nS nS),_,?_,F.1,⟨.slice M5.nx 0 1 1,nS,nS,D,[],[],rfl,a7.mono a1 k1 (λi _ h=>by omega),I7.mono a1 k1 (λi _ h=>by omega) _ _ a8,.inl ⟨rfl,rfl⟩,rfl,.inl ⟨rfl,rfl⟩,rfl⟩,F.2⟩;rw [enter (sf:=f58) rfl rfl];simp [f58,D7,F6,w,z,I,b,a0,W,T,V,g5,wY,K,C.1,E,q1,gs]
   | false=>
    rw [hc] at lk;simp only [Xd,if_false];obtain⟨M4,J,X4,R4⟩:=Nh R3 n H (by omega);have an:=X4.nx;unfold zK;cases hnx:fV t with
    | false=>rw [hnx] at J;simp only [Xd,if_false] at J ⊢;refine⟨M4,?_,E1.toB.trans (X13.trans X4)⟩;rw [enter (sf:=f58) rfl rfl];rcases lk with⟨l0,rfl,_⟩ | ⟨l0,c,y,k,x,l1,l2,l3,K,rfl,_⟩ | ⟨l0,c,y,x,l1,l2,l3,rfl,_⟩ | ⟨l0,c,y,l1,l2,V⟩;simp [f58,D7,F6,w,z,I,b,l0,J,panics];simp [f58,D7,F6,w,z,I,b,l0,l1,l2,l3,K,C8,J,panics];simp [f58,D7,F6,w,z,I,b,l0,l1,l2,l3,C8,J,panics];simp [f58,D7,F6,w,z,I,b,l0,l1,l2,V,J,panics]
    | true=>
     have aq:=sJ hnx;have R4:=R4 hnx;rw [hnx] at J;simp only [if_true] at J ⊢;have e:r9 KW H (n+5) (.func 100) [.ptr p 0] M3=some [⟨.str (txt t),M4⟩]:=J;have E5:=H7 X4.ok [o9 (r5 2 (txt t) nS nS nS)];have n5:(ext M4 [o9 (r5 2 (txt t) nS nS nS)]).nx=M4.nx+1:=(by simp);obtain⟨L,N,O,P,Q,R⟩:=qo X4.ok R4.lF;obtain⟨M6,A,X6,R6⟩:=CX (R4.fence.ext E5) 61 [] (n+1) H;have ap:=X6.nx;unfold jL at R6;have ac:M6.get M4.nx=some (o9 (r5 2 (txt t) nS nS nS)):=(by rw [X6.old _ (by omega) (by omega),F7 X4.ok];rfl);cases h61:bC [61] (t.drop 1) with
     | false=>rw [h61] at A;simp only [Xd,if_false] at A ⊢;refine⟨M6,?_,E1.toB.trans (X13.trans (X4.trans (E5.toB.trans X6)))⟩;rw [enter (sf:=f58) rfl rfl];rcases lk with⟨l0,rfl,_⟩ | ⟨l0,c,y,k,x,l1,l2,l3,K,rfl,_⟩ | ⟨l0,c,y,x,l1,l2,l3,rfl,_⟩ | ⟨l0,c,y,l1,l2,V⟩;simp [f58,D7,F6,w,z,I,b,l0,e,L,N,O,P,Q,R,A,panics];simp [f58,D7,F6,w,z,I,b,l0,l1,l2,l3,K,C8,e,L,N,O,P,Q,R,A,panics];simp [f58,D7,F6,w,z,I,b,l0,l1,l2,l3,C8,e,L,N,O,P,Q,R,A,panics];simp [f58,D7,F6,w,z,I,b,l0,l1,l2,V,e,L,N,O,P,Q,R,A,panics]
     | true=>
      rw [h61] at A R6;simp only [if_true,adS,Nat.reduceAdd] at A R6 ⊢;have o:=(xU f f (aP _)).1 0 (n+5) H p (t.drop 2) _ _ R6 (hW.drop 2) (by simp;omega) (by omega) (by simp;omega) (by omega) a9;cases hq:aj f 0 (t.drop 2) with
      | none=>rw [hq] at o;obtain⟨M7,g7,X7⟩:=o;have s:r9 KW H (n+5) (.func 56) [.ptr p 0,iV 0] M6=_:=g7;refine⟨M7,?_,E1.toB.trans (X13.trans (X4.trans (E5.toB.trans (X6.trans X7))))⟩;rw [enter (sf:=f58) rfl rfl];rcases lk with⟨l0,rfl,_⟩ | ⟨l0,c,y,k,x,l1,l2,l3,K,rfl,_⟩ | ⟨l0,c,y,x,l1,l2,l3,rfl,_⟩ | ⟨l0,c,y,l1,l2,V⟩;simp [f58,D7,F6,w,z,I,b,l0,e,L,N,O,P,Q,R,A,s,panics];simp [f58,D7,F6,w,z,I,b,l0,l1,l2,l3,K,C8,e,L,N,O,P,Q,R,A,s,panics];simp [f58,D7,F6,w,z,I,b,l0,l1,l2,l3,C8,e,L,N,O,P,Q,R,A,s,panics];simp [f58,D7,F6,w,z,I,b,l0,l1,l2,V,e,L,N,O,P,Q,R,A,s,panics]
      | some q=>
       obtain⟨x,r⟩:=q;rw [hq] at o;obtain⟨a,M7,g7,X7,hr,R7⟩:=o;have s:r9 KW H (n+5) (.func 56) [.ptr p 0,iV 0] M6=_:=g7;have C:=hr.row;have ad:=X7.nx;have K:=λx ls env o=>Ni C.1 (x:=x) (ls:=ls) (env:=env) o;have E8:=H7 X7.ok [o9 a];have n8:(ext M7 [o9 a]).nx=M7.nx+1:=(by simp);obtain⟨D,a7,a8⟩:=Bt X7.ok hr ad;have q8:M4.nx<(ext M7 [o9 a]).nx:=(by omega);have Y:(ext M7 [o9 a]).get M4.nx=some (o9 (r5 2 (txt t) nS nS nS)):=(by rw [E8.old _ (by omega),X7.old _ (by omega) (by omega),ac]);have l8:(ext M7 [o9 a]).lim<=M4.nx:=(by rw [E8.lim,X7.lim,X6.lim,E5.lim];exact R4.lF);have a6:=sB l8;have G:((ext M7 [o9 a]).set M4.nx (o9 (r5 2 (txt t) (.slice M7.nx 0 1 1) nS nS))).Ok:=Mem.Ok.set E8.ok q8 _;have Z:((ext M7 [o9 a]).set M4.nx (o9 (r5 2 (txt t) (.slice M7.nx 0 1 1) nS nS))).get M4.nx=some (o9 (r5 2 (txt t) (.slice M7.nx 0 1 1) nS nS)):=D6 E8.ok _ q8 rfl;have X18:=X13.trans (X4.trans (E5.toB.trans (X6.trans (X7.trans E8.toB))));have X19:bT p (ext M [o9 (r5 0 [] nS nS nS)]) ((ext M7 [o9 a]).set M4.nx (o9 (r5 2 (txt t) (.slice M7.nx 0 1 1) nS nS))):=⟨G,X18.nx,X18.lim,λi hi hn=>by rw [w9 E8.ok _ q8 (by omega),X18.old i hi hn]⟩;have R8:=R7.ext E8;have R9:=RD.mono (M':=(ext M7 [o9 a]).set M4.nx (o9 (r5 2 (txt t) (.slice M7.nx 0 1 1) nS nS))) R8 G (aP _) rfl (w9 E8.ok _ q8 (by omega)) (λi hi d=>w9 E8.ok _ q8 (by rcases d with (d | d) | d<;>omega)) (λ_ _ h=>h) R8.np
       obtain⟨q1,U,q3,q4⟩:=ab _ X19;have E:=sB q3;have gs:∀B,(((ext M7 [o9 a]).set M4.nx (o9 (r5 2 (txt t) (.slice M7.nx 0 1 1) nS nS))).set M.nx B).get M.nx=some B:=λB=>D6 G _ U rfl;have F:=fin hR q4 U R9 (λi hi d=>by
        rcases d with (⟨(((d | d) | d) | d),_⟩ | d) | d;exact .inl d;all_goals exact .inr (by omega)) (o9 (r5 2 (txt t) (.slice M7.nx 0 1 1) nS nS))
       have k1:∀i,i<(ext M7 [o9 a]).nx->M6.nx<=i->(((ext M7 [o9 a]).set M4.nx (o9 (r5 2 (txt t) (.slice M7.nx 0 1 1) nS nS))).set M.nx (o9 (r5 2 (txt t) (.slice M7.nx 0 1 1) nS nS))).get i=(ext M7 [o9 a]).get i:=λi hi d=>(by rw [w9 G _ U (by omega),w9 E8.ok _ q8 (by omega)]);have a1:(ext M7 [o9 a]).nx<=(((ext M7 [o9 a]).set M4.nx (o9 (r5 2 (txt t) (.slice M7.nx 0 1 1) nS nS))).set M.nx (o9 (r5 2 (txt t) (.slice M7.nx 0 1 1) nS nS))).nx:=aP _;refine⟨(r5 2 (txt t) (.slice M7.nx 0 1 1) nS nS),_,?_,F.1,⟨.slice M7.nx 0 1 1,nS,nS,D,[],[],rfl,a7.mono a1 k1 (λi _ h=>by omega),I7.mono a1 k1 (λi _ h=>by omega) _ _ a8,.inl ⟨rfl,rfl⟩,rfl,.inl ⟨rfl,rfl⟩,rfl⟩,F.2⟩;rw [enter (sf:=f58) rfl rfl];rcases lk with⟨l0,rfl,_⟩ | ⟨l0,c,y,k,x,l1,l2,l3,K,rfl,_⟩ | ⟨l0,c,y,x,l1,l2,l3,rfl,_⟩ | ⟨l0,c,y,l1,l2,V⟩;simp [f58,D7,F6,w,z,I,b,l0,e,L,N,O,P,Q,R,A,s,wY,K,C.1,Y,a6,Z,E,q1,gs];simp [f58,D7,F6,w,z,I,b,l0,l1,l2,l3,K,C8,e,L,N,O,P,Q,R,A,s,wY,K,C.1,Y,a6,Z,E,q1,gs];simp [f58,D7,F6,w,z,I,b,l0,l1,l2,l3,C8,e,L,N,O,P,Q,R,A,s,wY,K,C.1,Y,a6,Z,E,q1,gs];simp [f58,D7,F6,w,z,I,b,l0,l1,l2,V,e,L,N,O,P,Q,R,A,s,wY,K,C.1,Y,a6,Z,E,q1,gs]
set_option maxHeartbeats 4000000
theorem Zz (f:Nat):∀k,k<=f->CS k∧CB k:=by
 induction f with
 | zero=>
  intro k a;obtain rfl:k=0:=by omega
  exact⟨λn b p t S M c d g e=>by omega,λn b p t S M c d g e=>by omega⟩
 | succ f ih=>
  intro k a;by_cases h:k<=f;exact ih k h;obtain rfl:k=f+1:=by omega
  exact⟨acp (λk a=>(ih k a).2) (λk _=>ag7 k),aco (λk a=>(ih k a).1)⟩
theorem Wy {m:Mem}{lo rs:Nat}{v:o7}{l:List (List o7)}{r a:List o7}(h:bZ lo rs m v (l ++ [r]))(o:m.Ok)(f:m.lim<=lo)(p:a.length=rs)(d:N7 a=true):
  ∃id off m',lG v none (λid off len _=>idx len (o7.int .i64 (l.length:Int)) λk=>some (o7.ptr id (off+k*rs))) (λid off len _=>idx len (o7.int .i64 (l.length:Int)) λk=>some (o7.ptr id (off+k*rs)))=some (.ptr id off)∧
   (∀{β:Type} (k:Mem->Option β),storeAt m id off a k=k m')∧bZ lo rs m' v (l ++ [a])∧bT id m m'∧lo<=id∧id<m.nx:=by
 rcases h with⟨_,h⟩ | ⟨id,h2,h3,h4,h5,h6,h7⟩;simp at h;obtain⟨m',q,g,j⟩:=GV.store h5 o h3 (by omega) (i:=l.length) (by simp) p d;have b:N7 (l ++ [a]).flatten=true:=by rw [ajD,mH] at h4;obtain⟨n,s⟩:=(l9 _ _).mp h4;rw [ajD,mH,n];simpa using d
 have c:(l ++ [r]).set l.length a=l ++ [a]:=by simp
 rw [c] at g;have e:l.length<(l ++ [r]).length:=by simp
 refine⟨id,l.length*rs,m',?_,λk=>q k,.inr ⟨id,h2,J3 h3 j.nx,b,g,by simp,?_⟩,j,h2,h3⟩;rcases h7 with rfl | rfl;simp only [sj];rw [qL _ _ _ e,Z9];simp only [pG];rw [qL _ _ _ e,Z9];simpa using h7
theorem Wz {m:Mem}{lo rs:Nat}{v:o7}{l:List (List o7)}(h:bZ lo rs m v l)(n:Nat):dh (n+1) v v=true:=by rcases h with⟨rfl,_⟩ | ⟨id,_,_,_,_,_,rfl | rfl⟩;rfl;show bi (Nat.beq id id) (bi (Nat.beq 0 0) (bi (Nat.beq _ _) (Nat.beq _ _) false) false) false=true;simp [dJ];show bi (Nat.beq id id) (bi (Nat.beq 0 0) (bi (Nat.beq _ _) (Nat.beq _ _) false) false) false=true;simp [dJ]
theorem Bv {α β:Type}(a b:α)(f:α->Option (List β)):bnd (some [a,b]) f=ob (f a) λx=>ob (f b) λy=>some (x++y):=by
 show ob (f a) (λx=>ob (ob (f b) λz=>ob (some []) λy=>some (z++y)) λy=>some (x++y))=_;cases f a with
 | none=>rfl
 | some x=>
  cases f b with
  | none=>rfl
  | some y=>simp
structure FrQ (lo p q:Nat)(m m':Mem):Prop where
 ok:m'.Ok
 nx:m.nx<=m'.nx
 lim:m'.lim=m.lim
 old:∀i,i<lo->i≠p->i≠q->m'.get i=m.get i
theorem FrQ.refl {lo p q:Nat}{m:Mem}(h:m.Ok):FrQ lo p q m m:=⟨h,aP _,rfl,λ_ _ _ _=>rfl⟩
theorem FrQ.trans {lo p q:Nat}{a b c:Mem}(h:FrQ lo p q a b)(k:FrQ lo p q b c):FrQ lo p q a c:=
 ⟨k.ok,gI h.nx k.nx,k.lim.trans h.lim,λi d e f=>(k.old i d e f).trans (h.old i d e f)⟩
theorem ajY (ls:List o7)(env:T o7)(nid:Nat):zcA ls env nid=some (.slice nid 0 1 1,some (o9 (r5 0 [] nS nS nS))):=rfl
theorem acr {f n fu p q lo:Nat}(hE:∀k,k<=f->CS k)(hn:f+40<=n)(hfu:20000<=fu)(hpl:p<lo)(hql:q<lo)(hpq:q≠p)(a0 a1 a2 a4 a10 a11:o7)(mk:List Mk):∀(k:Nat),k<=f+1->∀(t:List Tok) (acc:List V4) (v c6 c7 c8 c9:o7) (S T:Nat->Prop) (M:Mem) (N:Nat),RD S p M t->¬ S q->Ur t->t.length<=10000->acc.length+t.length<=10010->10*t.length+13<=k->
  Qt lo S T M v acc->M.get q=some (o9 [v])->lo<=M.nx->M.lim<=q->t.length+1<=N->
  match sI k acc t with
  | none=>∃c6' c7' c8' c9' d6 d7 d8 d9 v' M',K8 (λenv m k=>DX (r9 KW fu n) fu none env m k) N (Jo a0 a1 a2 (.ptr q 0) a4 (.ptr p 0) c6 c7 c8 c9 a10 a11) M mk=some [⟨.ret,(Jo a0 a1 a2 (.ptr q 0) a4 (.ptr p 0) c6' c7' c8' c9' a10 a11),M',mk,some (.iface 58 (.agg []))⟩,⟨.ret,(Jo a0 a1 a2 (.ptr q 0) a4 (.ptr p 0) d6 d7 d8 d9 a10 a11),M',mk,some (.iface 58 (.agg []))⟩]∧FrQ lo p q M M'∧M'.get q=some (o9 [v'])
  | some l=>∃c6' c7' c8' c9' v' M' T',K8 (λenv m k=>DX (r9 KW fu n) fu none env m k) N (Jo a0 a1 a2 (.ptr q 0) a4 (.ptr p 0) c6 c7 c8 c9 a10 a11) M mk=some [⟨.exit 0,(Jo a0 a1 a2 (.ptr q 0) a4 (.ptr p 0) c6' c7' c8' c9' a10 a11),M',mk,none⟩]∧FrQ lo p q M M'∧M'.get q=some (o9 [v'])∧Qt lo (λi=>False) T' M' v' l:=by
 intro k;induction k with
 | zero=>intro hk t acc v c6 c7 c8 c9 S T M N hR hSq hW ht hac hm;omega
 | succ k ih=>
  intro hk t acc v c6 c7 c8 c9 S T M N hR hSq hW ht hac hm hA hq hlo hlim hN;obtain⟨N,rfl⟩:∃k,N=k+1:=⟨N-1,by omega⟩;obtain⟨n',rfl⟩:∃k,n=k+3:=⟨n-3,by omega⟩;obtain⟨tv,h1,h2⟩:=hR.has;have hlen:=h2.slice.len;rw [show (U6 t).length=t.length from by simp [U6]] at hlen;rw [sI];obtain⟨rows,o1,o2⟩:=hA.own;have hsl:=o1.slice.len;have hsame:=Wz o1 99;by_cases ht0:t=[];rw [if_pos ht0];have hlt:¬ (0:Int)<(t.length:Int):=by subst ht0;simp
  have hltN:¬ 0<t.length:=by omega
  refine⟨.bool false,c7,c8,c9,v,M,T,?_,FrQ.refl hR.ok,hq,⟨⟨rows,o1,o2⟩,hA.apartT,λ_ _ _ _ _ h=>h,hA.WQ⟩⟩;rw [A8];simp [DX,h1,hlen,hlt,hltN];rw [if_neg ht0];have hl0:0<t.length:=ael.2 ht0;have hlt:(0:Int)<(t.length:Int):=by omega
  have hRok:=hR.ok;have hRlt:=hR.lt;have E1:=H7 hR.ok [.void];have n1:(ext M [.void]).nx=M.nx+1:=by simp
  have R1:=hR.fence.ext E1;have hx:=hE k (by omega) (n'+3) fu p t _ _ R1 hW ht (by omega) (by omega) hfu;have gv1:(ext M [.void]).get M.nx=some .void:=by rw [F7 hRok];rfl
  have gq1:(ext M [.void]).get q=some (o9 [v]):=by rw [E1.old q (by omega)];exact hq
  cases hp:kY k t with
  | none=>rw [hp] at hx;obtain⟨M2,g2,X2⟩:=hx;simp only;refine⟨.bool true,c7,c8,c9,.bool true,c7,iV (rows.length:Int),c9,v,M2,?_,⟨X2.ok,by have:=X2.nx;omega,X2.lim.trans E1.lim,λi hi hp _=>by rw [X2.old i (by omega) hp,E1.old i (by omega)]⟩,by rw [X2.old q (by omega) hpq];exact gq1⟩;rw [A8];simp [DX,h1,hlen,hlt,hl0,D7,g2,gv1,gq1,hsame,hsl,ajY,panics,Bv]
  | some z=>
   obtain⟨y,r⟩:=z;rw [hp] at hx;obtain⟨row,M2,g2,X2,hr,R2⟩:=hx;simp only;have hr4:=hr.row;have hX2:=X2.nx;have vlt:∀i o n e,v=.sliceU i o n e->lo<=i∧i<M.nx:=λi o n e hv=>o1.lt hv;have tp:∀i,T i->i≠p:=λi hi=>by have:=hA.WQ i hi;omega
   have gv2:M2.get M.nx=some .void:=by rw [X2.old _ (by omega) (by omega)];exact gv1
   have gq2:M2.get q=some (o9 [v]):=by rw [X2.old q (by omega) hpq];exact gq1
   have q3:M.nx<M2.nx:=by omega
   have ok3:(M2.set M.nx (o9 (r5 0 [] nS nS nS))).Ok:=Mem.Ok.set X2.ok q3 _;have g3:∀i,i≠M.nx->(M2.set M.nx (o9 (r5 0 [] nS nS nS))).get i=M2.get i:=λi hi=>w9 X2.ok _ q3 hi;have g3s:(M2.set M.nx (o9 (r5 0 [] nS nS nS))).get M.nx=some (o9 (r5 0 [] nS nS nS)):=D6 X2.ok _ q3 rfl;have l3:(M2.set M.nx (o9 (r5 0 [] nS nS nS))).lim<=lo:=by show M2.lim<=lo;rw [X2.lim,E1.lim];omega
   have rows3:bZ lo 5 (M2.set M.nx (o9 (r5 0 [] nS nS nS))) v rows:=o1.keep (by show M.nx<=M2.nx;omega) λi h1 h2=>by rw [g3 i (by omega),X2.old i (by omega) (by omega),E1.old i h2]
   have hxr:fT (M2.set M.nx (o9 (r5 0 [] nS nS nS))) 5 (.slice M.nx 0 1 1) [(r5 0 [] nS nS nS)]:=
    .inr ⟨M.nx,0,.inl ⟨1,by simp,by simp⟩,q3,.inr ⟨1,AM.T.ofList [(r5 0 [] nS nS nS)],by rw [g3s];rfl,by simp,by simp,λi hi=>by
     obtain rfl:i=0:=(by simpa using hi);rw [AM.T.au];rfl⟩⟩
   have hrl:=I4.len o2;obtain⟨v5,M5,gb,ho5,F5,old5⟩:=EO (lo:=lo) (rs:=5) (bytes:=96) (r:=(r5 0 [] nS nS nS)) ok3 l3 (by show lo<=M2.nx;omega) (by omega) rows3 hxr rfl rfl (by rw [hrl];omega) ⟨by omega,by omega⟩;have n3:(M2.set M.nx (o9 (r5 0 [] nS nS nS))).nx=M2.nx:=rfl;have hF5:=F5.nx;rw [n3] at hF5 ho5;have old5:∀i,i<M2.nx->(∀o n e,v≠.sliceU i o n e)->M5.get i=(M2.set M.nx (o9 (r5 0 [] nS nS nS))).get i:=old5;have lim5:M5.lim=M.lim:=by rw [F5.lim];show M2.lim=_;rw [X2.lim,E1.lim]
   obtain⟨id6,off6,M6,ga6,st6,ho6,X6,hid6,hid6'⟩:=Wy ho5 F5.ok (by rw [lim5];omega) hr4.1 hr4.2;have hX6:=X6.nx;have po:=Jp ho5.slice;have cv5:=ho5.slice.cells;have ov5:=ho5.slice.H6;have gq6:M6.get q=some (o9 [v]):=by rw [X6.old q (by omega) (by omega),old5 q (by omega) (λo n e hv=>by have:=(vlt q o n e hv).1;omega),g3 q (by omega),gq2]
   have q7:q<M6.nx:=by omega
   have lim6:M6.lim<=q:=by rw [X6.lim,lim5];exact hlim
   have st7:=sB lim6;have ok7:(M6.set q (o9 [v5])).Ok:=Mem.Ok.set X6.ok q7 _;have hqid:¬ q=id6:=by omega
   have hidq:¬ id6=q:=by omega
   have g7:∀i,i<M2.nx->i≠M.nx->i≠q->(∀o n e,v≠.sliceU i o n e)->(M6.set q (o9 [v5])).get i=M2.get i:=λi hi hb hq' hv=>by rw [w9 X6.ok _ q7 hq',X6.old i (by omega) (by omega),old5 i hi hv,g3 i hb]
   have rows7:bZ M2.nx 5 (M6.set q (o9 [v5])) v5 (rows ++ [row]):=ho6.keep (aP _) λi h1 h2=>w9 X6.ok _ q7 (by omega);have hacc:Qt lo (λi=>((S i∧i<M.nx)∨M.nx<i)∧i<M2.nx) (λi=>(T i∨M.nx<i)∧i<M2.nx) (M6.set q (o9 [v5])) v5 (acc ++ [y]):=by
    refine⟨⟨rows ++ [row],rows7.down (by omega),I4.snoc ?_ ?_⟩,λi o n e hv h=>?_,λi o n e hv h=>?_,λi h=>?_⟩;refine I4.mono (by show M.nx<=M6.nx;omega) (λi hi ht=>?_) (λi hi ht=>⟨.inl ht,by omega⟩) _ _ o2;rw [g7 i (by omega) (by omega) (by have:=hA.WQ i ht;omega) (λo n e hv=>hA.apartT i o n e hv ht),X2.old i (by omega) (tp i ht),E1.old i hi];refine nI.mono (by show M2.nx<=M6.nx;omega) (λi hi ht=>?_) (λi hi ht=>⟨.inr (by omega),hi⟩) _ _ hr;exact g7 i hi (by omega) (by omega) λo n e hv=>by have:=(vlt i o n e hv).2;omega
    have:=(rows7.lt hv).1;omega;have:=(rows7.lt hv).1;omega;rcases h.1 with h | h;exact hA.WQ i h;omega
   have hnp:¬ (((S p∧p<M.nx)∨M.nx<p)∧p<M2.nx):=λh=>by rcases h.1 with h | h;exact hR.np h.1;omega
   have hnq:¬ (((S q∧q<M.nx)∨M.nx<q)∧q<M2.nx):=λh=>by rcases h.1 with h | h;exact hSq h.1;omega
   have R7:RD (λi=>((S i∧i<M.nx)∨M.nx<i)∧i<M2.nx) p (M6.set q (o9 [v5])) r:=by
    refine R2.mono ok7 (by show M2.nx<=M6.nx;omega) (by show M6.lim=_;rw [X6.lim,lim5,X2.lim,E1.lim]) (g7 p R2.lt (by omega) (λh=>hpq h.symm) λo n e hv=>by have:=(vlt p o n e hv).1;omega) (λi hi hs=>?_) (λi hi hs=>⟨?_,hi⟩) hnp;rcases hs with hs | hs;exact g7 i hi (by omega) (λh=>hSq (h▸hs.1)) λo n e hv=>hA.apartS i o n e hv hs.1;exact g7 i hi (by omega) (by omega) λo n e hv=>by have:=(vlt i o n e hv).2;omega
    rcases hs with hs | hs;exact .inl hs;exact .inr (by omega)
   have hrl2:=(SL k).1 _ _ _ hp;have Fall:FrQ lo p q M (M6.set q (o9 [v5])):=⟨ok7,by show M.nx<=M6.nx;omega,by show M6.lim=_;rw [X6.lim,lim5],λi hi hp hq'=>by
    rw [g7 i (by omega) (by omega) hq' (λo n e hv=>by have:=(vlt i o n e hv).1;omega),X2.old i (by omega) hp,E1.old i (by omega)]⟩
   have step:∀N,K8 (λenv m k=>DX (r9 KW fu (n'+3)) fu none env m k) (N+1) (Jo a0 a1 a2 (.ptr q 0) a4 (.ptr p 0) c6 c7 c8 c9 a10 a11) M mk=K8 (λenv m k=>DX (r9 KW fu (n'+3)) fu none env m k) N (Jo a0 a1 a2 (.ptr q 0) a4 (.ptr p 0) tt v5 (iV (rows.length:Int)) (.agg row) a10 a11) (M6.set q (o9 [v5])) mk:=λN=>by rw [A8];simp [DX,h1,hlen,hlt,hl0,D7,g2,gv1,gq1,gv2,gq2,hsame,hsl,ajY,Le,gb,po,ga6,hr4.1,st6,st7,gq6,cv5,ov5,vE,hqid,hidq,dJ]
   have hrec:=ih (by omega) r (acc ++ [y]) v5 tt v5 (iV (rows.length:Int)) (.agg row) _ _ (M6.set q (o9 [v5])) N R7 hnq (λx hx=>?_) (by omega) (by simp;omega) (by omega) hacc (D6 X6.ok _ q7 rfl) (by show lo<=M6.nx;omega) lim6 (by omega);rw [step];cases hm:sI k (acc ++ [y]) r with
   | none=>rw [hm] at hrec;obtain⟨c6',c7',c8',c9',d6,d7,d8,d9,v',M',g,F,G⟩:=hrec;exact⟨c6',c7',c8',c9',d6,d7,d8,d9,v',M',g,Fall.trans F,G⟩
   | some l=>rw [hm] at hrec;obtain⟨c6',c7',c8',c9',v',M',T',g,F,G,A⟩:=hrec;exact⟨c6',c7',c8',c9',v',M',T',g,Fall.trans F,G,A⟩
   exact hW x (Qs k _ _ _ hp x hx)
set_option maxHeartbeats 16000000
theorem ajZ (cf:F8)(fu:Nat)(env:T o7)(m:Mem):yx (.reg [⟨.e .recover,none,none⟩,⟨.p (.mov (.loc 0)),some 0,none⟩]) cf fu env m none=some [⟨⟨.normal,dS (some 0) .nilIface env,m,[],none⟩,none⟩]:=by rw [Qb (h:=rfl)];rfl
theorem ak0 (cf:F8)(fu:Nat)(env:T o7)(m:Mem)(x:o7):yx (.reg [⟨.e .recover,none,none⟩,⟨.p (.mov (.loc 0)),some 0,none⟩]) cf fu env m (some x)=some [⟨⟨.normal,dS (some 0) x env,m,[],none⟩,none⟩]:=by rw [Qb (h:=rfl)];rfl
theorem ak1:xB (.reg [⟨.p (.mov (.slot 0)),none,none⟩,⟨.p (.eq true .iface (.loc 0) (.con o7.nilIface)),some 1,none⟩])=p8 (K5 (pNe iF dK zda) xQ u7):=rfl
theorem aed (cf:F8)(fu:Nat)(env:T o7)(m:Mem)(a:Option o7):yx (.reg [⟨.p (.mov (.slot 0)),none,none⟩,⟨.p (.eq true .iface (.loc 0) (.con o7.nilIface)),some 1,none⟩]) cf fu env m a=bnd (p8 (K5 (pNe iF dK zda) xQ u7) cf fu none env m []) (MO a):=by rw [wP (h:=rfl),ak1]
theorem ak2:xB (.reg [⟨.p (.mov (.slot 0)),none,none⟩,⟨.p (.assert 58 (A []) true (.loc 0)),none,none⟩,⟨.p (.mov (.loc 0)),none,none⟩,⟨.p (.ext (.loc 0) 0),none,none⟩,⟨.p (.ext (.loc 1) 1),none,none⟩,⟨.a (.alloc []),none,none⟩,⟨.e (.store 0 (.loc 0) (.loc 2)),none,none⟩,⟨.p (.mov (.loc 2)),some 2,none⟩])=p8 (p9 (sZ 58 (A []) true dK) (p9 Hg (p9 Kr (kZ (jv []) (D9 (L8 0 G8 dV) (K5 zeF zD u7)))))):=rfl
theorem aee (cf:F8)(fu:Nat)(env:T o7)(m:Mem)(b:Option o7):yx (.reg [⟨.p (.mov (.slot 0)),none,none⟩,⟨.p (.assert 58 (A []) true (.loc 0)),none,none⟩,⟨.p (.mov (.loc 0)),none,none⟩,⟨.p (.ext (.loc 0) 0),none,none⟩,⟨.p (.ext (.loc 1) 1),none,none⟩,⟨.a (.alloc []),none,none⟩,⟨.e (.store 0 (.loc 0) (.loc 2)),none,none⟩,⟨.p (.mov (.loc 2)),some 2,none⟩]) cf fu env m b=bnd (p8 (p9 (sZ 58 (A []) true dK) (p9 Hg (p9 Kr (kZ (jv []) (D9 (L8 0 G8 dV) (K5 zeF zD u7)))))) cf fu none env m []) (MO b):=by rw [wP (h:=rfl),ak2]
theorem ak3:xB (.reg [⟨.p (.mov (.slot 2)),none,none⟩,⟨.p (.not (.loc 0)),some 3,none⟩])=p8 (K5 (NY qd) sP u7):=rfl
theorem aef (cf:F8)(fu:Nat)(env:T o7)(m:Mem)(a:Option o7):yx (.reg [⟨.p (.mov (.slot 2)),none,none⟩,⟨.p (.not (.loc 0)),some 3,none⟩]) cf fu env m a=bnd (p8 (K5 (NY qd) sP u7) cf fu none env m []) (MO a):=by rw [wP (h:=rfl),ak3]
theorem ak4:xB (.reg [⟨.p (.mov (.slot 0)),none,none⟩,⟨.e (.panic (.loc 0)),none,none⟩])=p8 (D9 (tH dK) u7):=rfl
theorem aeg (cf:F8)(fu:Nat)(env:T o7)(m:Mem)(a:Option o7):yx (.reg [⟨.p (.mov (.slot 0)),none,none⟩,⟨.e (.panic (.loc 0)),none,none⟩]) cf fu env m a=bnd (p8 (D9 (tH dK) u7) cf fu none env m []) (MO a):=by rw [wP (h:=rfl),ak4]
theorem ak5:xB (.reg [⟨.e (.store 1 (.slot 4) (.con Z)),none,none⟩,⟨.e (.store 1 (.slot 5) (.con (o7.int .i64 (Int.ofNat 7)))),none,none⟩])=p8 (D9 (L8 1 uX (G6 Z)) (D9 (L8 1 qm zcv) u7)):=rfl
theorem ak6 (cf:F8)(fu:Nat)(env:T o7)(m:Mem)(a:Option o7):yx (.reg [⟨.e (.store 1 (.slot 4) (.con Z)),none,none⟩,⟨.e (.store 1 (.slot 5) (.con (o7.int .i64 (Int.ofNat 7)))),none,none⟩]) cf fu env m a=bnd (p8 (D9 (L8 1 uX (G6 Z)) (D9 (L8 1 qm zcv) u7)) cf fu none env m []) (MO a):=by rw [wP (h:=rfl),ak5]
abbrev URD:o7:=.iface 58 (.agg [])
theorem ak7:G9 (.slot 1)=ig:=rfl
theorem ak8:G9 (.slot 3)=zag:=rfl
theorem KI {x:OF}{ls:List o7}{env:T o7}(h:x ls env=URD):sZ 58 (.agg []) true x ls env=some (.tuple [.agg [],.bool true]):=by unfold sZ;rw [h];rfl
theorem aeh:wF (some (o9 [])) 0 []=some (o9 []):=rfl
theorem ZA (cf:F8)(fu:Nat)(env:T o7)(m:Mem)(a:Option o7):yx (.reg [⟨.e (.store 1 (.slot 4) (.con nS)),none,none⟩,⟨.e (.store 1 (.slot 5) (.con (iV 7))),none,none⟩]) cf fu env m a=bnd (p8 (D9 (L8 1 uX (G6 Z)) (D9 (L8 1 qm zcv) u7)) cf fu none env m []) (MO a):=ak6 cf fu env m a
theorem ZB (cf:F8)(fu:Nat)(args:List o7)(a:Option o7)(m:Mem):qz KW cf fu 28 args a m=aaM cf fu f28 args a m:=by show ob (KW.fns 28) _=_;have h:fns 28=some f28:=rfl;show ob ((fns 28).map _) _=_;rw [h];rfl
theorem ZC (cf:F8)(fu:Nat)(a b:Nat)(m:Mem):qz KW cf fu 28 [.ptr a 0,.ptr b 0] none m=some [(m,none)]:=by rw [ZB];simp [aaM,f28,Ua,Qa,Qc,ajZ,aed,aee,aef,aeg,ZA,Km,xB,ak7,ak8,KI,aeh]
theorem ZE {M:Mem}(k:M.Ok)(cf:F8)(fu:Nat)(a b:Nat){x y:o7}(f:M.lim<=a)(g:M.lim<=b)(q:a<M.nx)(hb:b<M.nx)(d:b≠a)(m:M.get a=some (o9 [x]))(n:M.get b=some (o9 [y])):
  ∃M',qz KW cf fu 28 [.ptr a 0,.ptr b 0] (some URD) M=some [(M',none)]∧M'.Ok∧M.nx<=M'.nx∧M'.lim=M.lim∧(∀i,i<M.nx->i≠a->i≠b->M'.get i=M.get i)∧M'.get a=some (o9 [nS])∧M'.get b=some (o9 [iV 7]):=by
 rw [ZB];have E:=H7 k [o9 []];have s:M.lim<=M.nx:=by omega
 have v:(ext M [o9 []]).nx=M.nx+1:=by simp
 have l:(ext M [o9 []]).get a=some (o9 [x]):=by rw [E.old a q];exact m
 have o:(ext M [o9 []]).get b=some (o9 [y]):=by rw [E.old b hb];exact n
 have t:(ext M [o9 []]).lim<=a:=by rw [E.lim];exact f
 have c:((ext M [o9 []]).set a (o9 [nS])).Ok:=Mem.Ok.set E.ok (by omega) _;have u:((ext M [o9 []]).set a (o9 [nS])).lim<=b:=by show (ext M [o9 []]).lim<=b;rw [E.lim];exact g
 have e:((ext M [o9 []]).set a (o9 [nS])).get b=some (o9 [y]):=by rw [w9 E.ok _ (by omega) d];exact o
 have h:=sB t;have j:=sB u;refine⟨((ext M [o9 []]).set a (o9 [nS])).set b (o9 [iV 7]),?_,Mem.Ok.set c (by show b<(ext M [o9 []]).nx;omega) _,by show M.nx<=(ext M [o9 []]).nx;omega,E.lim,λi r e p=>?_,?_,?_⟩;simp [aaM,f28,Ua,Qa,Qc,ak0,aed,aee,aef,aeg,ZA,Km,xB,ak7,ak8,KI,aeh,dF k s,H6,h,j,l,e];rw [w9 c _ (by show b<(ext M [o9 []]).nx;omega) p,w9 E.ok _ (by omega) e,E.old i r];rw [w9 c _ (by show b<(ext M [o9 []]).nx;omega) (ahE d)];exact D6 E.ok _ (by omega) rfl;exact D6 c _ (by show b<(ext M [o9 []]).nx;omega) rfl
noncomputable def Ew (s:By):Int ⊕ List V4:=match nY 0 s with
 | .inl _=>.inl 7
 | .inr ts=>match sI (10*ts.length+13) [] ts with
  | none=>.inl 7
  | some l=>if (nK l).1<0 then .inl 2 else .inr l
def WfK (t:List Tok):Prop:=∀x∈t,(x.1=2∧nX x.2<=9007199254740992∧(∀b∈x.2,bD b=true)∧x.2≠[])∨(x.1≠2∧x.1=zJ x.2)
theorem acs {s:By}{k l:Nat}(h:kX s=some (k,l)):(k=2∧nX (s.take l)<=9007199254740992∧(∀b∈s.take l,bD b=true)∧s.take l≠[])∨(k≠2∧k=zJ (s.take l)):=by
 have e:=wT h;match s with
 | []=>cases h
 | b::t=>
  have a:((b::t).take l).headD 0=b:=by obtain⟨l,rfl⟩:∃j,l=j+1:=⟨l-1,by omega⟩;rfl
  have c:(b::t).take l≠[]:=by obtain⟨l,rfl⟩:∃j,l=j+1:=⟨l-1,by omega⟩;simp
  rw [kX] at h;by_cases h1:jq b=true;rw [if_pos h1] at h;split at h<;>cases h
  right;refine⟨by omega,?_⟩;unfold zJ;rw [a,if_pos h1];rw [if_neg h1] at h;by_cases h2:bD b=true;rw [if_pos h2] at h;split at h;cases h;rename_i d;cases h;left;exact⟨rfl,by omega,Uj _ _,c⟩;rw [if_neg h2] at h;right;split at h;cases h;refine⟨by omega,?_⟩;unfold zJ;rw [a,if_neg h1];split at h;cases h;refine⟨by omega,?_⟩;unfold zJ;rw [a,if_neg h1];cases h
theorem EW:∀(n i:Nat) (s:By) (ts:List Tok),pO n i s=.inr ts->WfK ts∧∀x∈ts,x.2.length<=s.length
 | 0,i,s,ts,h=>by cases h;exact⟨λx hx=>by simp at hx,λx hx=>by simp at hx⟩
 | n+1,i,[],ts,h=>by cases h;exact⟨λx hx=>by simp at hx,λx hx=>by simp at hx⟩
 | n+1,i,b::t,ts,h=>by rw [pO] at h;split at h;obtain⟨a,c⟩:=EW n _ t ts h;exact⟨a,λx hx=>by have:=c x hx;simp;omega⟩;split at h;obtain⟨a,c⟩:=EW n _ _ ts h;exact⟨a,λx hx=>by have:=c x hx;simp at this ⊢;omega⟩;split at h;cases h;rename_i k l ht;split at h;cases h;rename_i ts' he;cases h;obtain⟨a,c⟩:=EW n _ _ ts' he;refine⟨λx hx=>?_,λx hx=>?_⟩;rcases Y4.1 hx with rfl | hx;exact acs ht;exact a x hx;rcases Y4.1 hx with rfl | hx;simp;omega;have:=c x hx;simp at this ⊢;omega
theorem ZF {s:By}{ts:List Tok}(hs:s.length<1000000)(h:nY 0 s=.inr ts):Ur ts:=λx c d=>by obtain⟨a,b⟩:=EW _ _ _ _ h;have e:=b x c;rcases a x c with⟨_,h3,h4,h5⟩ | ⟨h3,_⟩;rcases Hw x.2 h5 h4 with⟨_,h6⟩ | ⟨h6,_⟩;exact⟨h6,by omega⟩;omega;exact absurd d h3
def Two (x:dU)(o:VM):Prop:=x=some [o]∨x=some [o,o]
theorem ZG {m:Mem}(hm:m.Ok)(hl:m.lim<=m.nx)(s:By)(hs:s.length<=8000)(n fu:Nat)(hn:90000<=n)(hfu:20000<=fu):
  ∃v e m',Two (r9 KW fu n (.func 10) [.str s] m) ⟨.tuple [v,iV e],m'⟩∧Ext m m'∧match Ew s with
   | .inl c=>v=nS∧e=c
   | .inr l=>e=0∧aG m' (λi=>m.nx<=i) l v∧V6 l<=s.length∧r9 KW fu n (.func 10) [.str s] m=some [⟨.tuple [v,iV e],m'⟩]:=by
 obtain⟨n,rfl⟩:∃k,n=k+6:=⟨n-6,by omega⟩;have E0:=H7 hm [o9 [nS],o9 [iV 0]];have n0:(ext m [o9 [nS],o9 [iV 0]]).nx=m.nx+2:=by simp
 have ga0:(ext m [o9 [nS],o9 [iV 0]]).get m.nx=some (o9 [nS]):=by rw [F7 hm];rfl
 have gb0:(ext m [o9 [nS],o9 [iV 0]]).get (m.nx+1)=some (o9 [iV 0]):=by rw [bR hm];rfl
 obtain⟨v,e,a,m1,g1,E1,hlex⟩:=ajO E0.ok (by rw [E0.lim,n0];omega) s (by omega) n fu (by omega);have hn1:=E1.nx;have l1:m1.lim<=m.nx:=by rw [E1.lim,E0.lim];exact hl
 have l1':m1.lim<=m.nx+1:=by omega
 have hlt1:m.nx+1<m1.nx:=by omega
 have ga1:m1.get m.nx=some (o9 [nS]):=(E1.old _ (by omega)).trans ga0;have gb1:m1.get (m.nx+1)=some (o9 [iV 0]):=(E1.old _ (by omega)).trans gb0;have st1:=sB l1';have EE1:Ext m m1:=E0.trans E1;unfold Ew;cases hlx:nY 0 s with
 | inl j=>
  rw [hlx] at hlex;obtain⟨rfl,rfl,rfl⟩:=hlex;have ok2:(m1.set (m.nx+1) (o9 [iV 7])).Ok:=Mem.Ok.set E1.ok hlt1 _;have gb2:(m1.set (m.nx+1) (o9 [iV 7])).get (m.nx+1)=some (o9 [iV 7]):=D6 E1.ok _ hlt1 rfl;have ga2:(m1.set (m.nx+1) (o9 [iV 7])).get m.nx=some (o9 [nS]):=(w9 E1.ok _ hlt1 (by omega)).trans ga1;have l2:(m1.set (m.nx+1) (o9 [iV 7])).lim<=m.nx:=l1;have st2:=sB l2;have q2:m.nx<(m1.set (m.nx+1) (o9 [iV 7])).nx:=by show m.nx<m1.nx;omega
  have ok3:((m1.set (m.nx+1) (o9 [iV 7])).set m.nx (o9 [nS])).Ok:=Mem.Ok.set ok2 q2 _;have ga3:((m1.set (m.nx+1) (o9 [iV 7])).set m.nx (o9 [nS])).get m.nx=some (o9 [nS]):=D6 ok2 _ q2 rfl;have gb3:((m1.set (m.nx+1) (o9 [iV 7])).set m.nx (o9 [nS])).get (m.nx+1)=some (o9 [iV 7]):=(w9 ok2 _ q2 (by omega)).trans gb2;have l3:((m1.set (m.nx+1) (o9 [iV 7])).set m.nx (o9 [nS])).lim<=m.nx+1:=l1';have st3:=sB l3;have q3:m.nx+1<((m1.set (m.nx+1) (o9 [iV 7])).set m.nx (o9 [nS])).nx:=hlt1;have ga4:∀B,(((m1.set (m.nx+1) (o9 [iV 7])).set m.nx (o9 [nS])).set (m.nx+1) B).get m.nx=some (o9 [nS]):=λB=>(w9 ok3 _ q3 (by omega)).trans ga3;have gb4:∀B,(((m1.set (m.nx+1) (o9 [iV 7])).set m.nx (o9 [nS])).set (m.nx+1) B).get (m.nx+1)=some B:=λB=>D6 ok3 _ q3 rfl;refine⟨nS,7,((m1.set (m.nx+1) (o9 [iV 7])).set m.nx (o9 [nS])).set (m.nx+1) (o9 [iV 7]),.inl ?_,⟨Mem.Ok.set ok3 q3 _,EE1.nx,EE1.lim,λi hi=>?_⟩,rfl,rfl⟩;rw [enter (sf:=f10) rfl rfl];simp [f10,D7,F6,g1,ga1,gb1,st1,ga2,gb2,st2,ga3,gb3,st3,ga4,gb4,su];rw [w9 ok3 _ q3 (by omega),w9 ok2 _ q2 (by omega),w9 E1.ok _ hlt1 (by omega),EE1.old i hi]
 | inr ts=>
  rw [hlx] at hlex;obtain⟨ho,hts,rfl,rfl⟩:=hlex;have vc:=ho.slice.cells;have ok2:(m1.set (m.nx+1) (o9 [iV 0])).Ok:=Mem.Ok.set E1.ok hlt1 _;have gb2:(m1.set (m.nx+1) (o9 [iV 0])).get (m.nx+1)=some (o9 [iV 0]):=D6 E1.ok _ hlt1 rfl;have ga2:(m1.set (m.nx+1) (o9 [iV 0])).get m.nx=some (o9 [nS]):=(w9 E1.ok _ hlt1 (by omega)).trans ga1;have g2n:∀i,i≠m.nx+1->(m1.set (m.nx+1) (o9 [iV 0])).get i=m1.get i:=λi hi=>w9 E1.ok _ hlt1 hi;generalize hm2:m1.set (m.nx+1) (o9 [iV 0])=m2 at *;have n2:m2.nx=m1.nx:=by rw [← hm2];rfl
  have lim2:m2.lim=m1.lim:=by rw [← hm2];rfl
  have E3:=H7 ok2 [o9 [v]];have n3:(ext m2 [o9 [v]]).nx=m1.nx+1:=by simp [n2]
  have gp3:(ext m2 [o9 [v]]).get m1.nx=some (o9 [v]):=by rw [← n2,F7 ok2];rfl
  have gq3:(ext m2 [o9 [v]]).get m.nx=some (o9 [nS]):=(E3.old _ (by omega)).trans ga2;have gr3:(ext m2 [o9 [v]]).get (m.nx+1)=some (o9 [iV 0]):=(E3.old _ (by omega)).trans gb2;have R3:RD (λi=>(ext m [o9 [nS],o9 [iV 0]]).nx<=i∧i<m1.nx) m1.nx (ext m2 [o9 [v]]) ts:=
   ⟨E3.ok,by omega,by rw [E3.lim,lim2];omega,λh=>by omega,v,gp3,ho.s.mono (by omega) (λi hi hs=>by rw [E3.old i (by omega),g2n i (by omega)]) λi hi hs=>⟨hs,hi⟩⟩
  have hacc:Qt (m1.nx+1) (λi=>(ext m [o9 [nS],o9 [iV 0]]).nx<=i∧i<m1.nx) (λi=>m1.nx+1<=i) (ext m2 [o9 [v]]) nS []:=
   ⟨⟨[],bZ.nil _ _ _,rfl⟩,λi o n e hv=>(by cases hv),λi o n e hv=>(by cases hv),λi h=>h⟩
  have L:=acr (f:=10*ts.length+12) (n:=n+5) (fu:=fu) (p:=m1.nx) (q:=m.nx) (lo:=m1.nx+1) (λk hk=>(Zz _ k hk).1) (by omega) hfu (by omega) (by omega) (by omega) (.str s) (.ptr (m.nx+1) 0) ff v .undef .undef [.d (.func (.func 28) [] [.ptr m.nx 0,.ptr (m.nx+1) 0]) []] (10*ts.length+13) (by omega) ts [] nS .undef .undef .undef .undef (_) _ (ext m2 [o9 [v]]) fu R3 (λh=>by omega) (ZF (by omega) hlx) (by omega) (by simp;omega) (by omega) hacc gq3 (by omega) (by rw [E3.lim,lim2];exact l1) (by omega);have old3:∀i,i<m.nx->(ext m2 [o9 [v]]).get i=m.get i:=λi hi=>by rw [E3.old i (by omega),g2n i (by omega),EE1.old i hi]
  simp only;cases hp:sI (10*ts.length+13) [] ts with
  | none=>
   rw [hp] at L;obtain⟨c6',c7',c8',c9',d6,d7,d8,d9,v',M',g,F,G⟩:=L;have hF:=F.nx;have gb:M'.get (m.nx+1)=some (o9 [iV 0]):=by rw [F.old _ (by omega) (by omega) (by omega)];exact gr3
   have lM:M'.lim<=m.nx:=by rw [F.lim,E3.lim,lim2];exact l1
   obtain⟨M,k0,k1,k2,k3,k4,k5,k6⟩:=ZE F.ok (r9 KW fu (n+5)) fu m.nx (m.nx+1) lM (by omega) (by omega) (by omega) (by omega) G gb;refine⟨nS,7,M,.inr ?_,⟨k1,by omega,by rw [k3,F.lim,E3.lim,lim2];exact EE1.lim,λi hi=>?_⟩,rfl,rfl⟩;rw [enter (sf:=f10) rfl rfl];simp [f10,D7,F6,g1,ga1,gb1,st1,hm2,gb2,n2,vc,g,Bv,MN,k0,k5,k6];rw [k4 i (by omega) (by omega) (by omega),F.old i (by omega) (by omega) (by omega),old3 i hi]
  | some l=>
   rw [hp] at L;obtain⟨c6',c7',c8',c9',v',M',T',g,F,G,⟨⟨rows,o1,o2⟩,_,_,a4⟩⟩:=L;have hF:=F.nx;have hpar:=Zy _ _ _ _ hp;rw [V6,Z9] at hpar;have gb:M'.get (m.nx+1)=some (o9 [iV 0]):=by rw [F.old _ (by omega) (by omega) (by omega)];exact gr3
   have lM:M'.lim<=m.nx:=by rw [F.lim,E3.lim,lim2];exact l1
   obtain⟨M5,g5,E5⟩:=Zn (m:=M') F.ok (by omega) (v:=v') (l:=l) ⟨rows,o1.s.mono (aP _) (λ_ _ _=>rfl) (λ_ _ _=>trivial),I4.mono (aP _) (λ_ _ _=>rfl) (λ_ _ _=>trivial) _ _ o2⟩ (by omega) (n-45) fu hfu;rw [show n-45+50=n+5 from by omega] at g5;have h5:=E5.nx;have G5:M5.get m.nx=some (o9 [v']):=(E5.old _ (by omega)).trans G;have gb5:M5.get (m.nx+1)=some (o9 [iV 0]):=(E5.old _ (by omega)).trans gb;have l5:M5.lim<=m.nx:=by rw [E5.lim];exact lM
   have q5:m.nx<M5.nx:=by omega
   have st5:=sB l5;have po:=Jp o1.slice;have cv:=o1.slice.cells;have ov:=o1.slice.H6;have d28:=λM=>ZC (r9 KW fu (n+5)) fu m.nx (m.nx+1) M;have fn:∀w (B6:P9) (hw:B6=o9 [w]) (z:Int),(M5.set m.nx B6).Ok∧m.nx+1<(M5.set m.nx B6).nx∧(M5.set m.nx B6).get (m.nx+1)=some (o9 [iV 0])∧(M5.set m.nx B6).lim<=m.nx+1∧((M5.set m.nx B6).set (m.nx+1) (o9 [iV z])).get m.nx=some B6∧
     ((M5.set m.nx B6).set (m.nx+1) (o9 [iV z])).get (m.nx+1)=some (o9 [iV z])∧Ext m ((M5.set m.nx B6).set (m.nx+1) (o9 [iV z])):=λw B6 hw z=>by
    have ok6:(M5.set m.nx B6).Ok:=Mem.Ok.set E5.ok q5 _;have q6:m.nx+1<(M5.set m.nx B6).nx:=(by show _<M5.nx;omega);refine⟨ok6,q6,by rw [w9 E5.ok _ q5 (by omega)];exact gb5,by show M5.lim<=_;omega,by rw [w9 ok6 _ q6 (by omega)];exact D6 E5.ok _ q5 rfl,D6 ok6 _ q6 rfl,Mem.Ok.set ok6 q6 _,by show m.nx<=M5.nx;omega,?_,λi hi=>?_⟩;show M5.lim=_;rw [E5.lim,F.lim,E3.lim,lim2];exact EE1.lim;rw [w9 ok6 _ q6 (by omega),w9 E5.ok _ q5 (by omega),E5.old i (by omega),F.old i (by omega) (by omega) (by omega),old3 i hi]
   simp only;by_cases hneg:(nK l).1<0;rw [if_pos hneg];obtain⟨z1,z2,z3,z4,z5,z6,z7⟩:=fn nS _ rfl 2;have st6:=sB z4;refine⟨nS,2,_,.inl ?_,z7,rfl,rfl⟩;rw [enter (sf:=f10) rfl rfl];simp [f10,D7,F6,g1,ga1,gb1,st1,hm2,gb2,n2,vc,g,MN,G,g5,po,hneg,G5,st5,z3,st6,z5,z6,d28];rw [if_neg hneg];obtain⟨z1,z2,z3,z4,z5,z6,z7⟩:=fn v' _ rfl 0;have st6:=sB z4;have hv:rD ((M5.set m.nx (o9 [v'])).set (m.nx+1) (o9 [iV 0])) (λi=>m.nx<=i) 5 v' rows:=
    o1.s.mono (by show M'.nx<=M5.nx;omega) (λi hi hs=>by rw [w9 z1 _ z2 (by omega),w9 E5.ok _ q5 (by omega),E5.old i hi]) (λi hi hs=>by omega)
   have ht:I4 ((M5.set m.nx (o9 [v'])).set (m.nx+1) (o9 [iV 0])) (λi=>m.nx<=i) l rows:=
    I4.mono (by show M'.nx<=M5.nx;omega) (λi hi hs=>by have:=a4 i hs;rw [w9 z1 _ z2 (by omega),w9 E5.ok _ q5 (by omega),E5.old i hi]) (λi hi hs=>by have:=a4 i hs;omega) _ _ o2
   have key:r9 KW fu (n+6) (.func 10) [.str s] m=some [⟨.tuple [v',iV 0],(M5.set m.nx (o9 [v'])).set (m.nx+1) (o9 [iV 0])⟩]:=by rw [enter (sf:=f10) rfl rfl];simp [f10,D7,F6,g1,ga1,gb1,st1,hm2,gb2,n2,vc,g,MN,G,g5,po,hneg,G5,st5,z3,st6,z5,z6,d28,cv,ov]
   exact⟨v',0,_,.inl key,z7,rfl,⟨rows,hv,ht⟩,by omega,key⟩
end Go.Proofs.YteecnooaopfkeaaGreatDoor.TT
