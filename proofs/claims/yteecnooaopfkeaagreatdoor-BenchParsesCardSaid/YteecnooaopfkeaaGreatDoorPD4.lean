/- The parser of the program, walked; conditions: the memory holds what the arguments say. -/
import Derived.Test.YteecnooaopfkeaaGreatDoorPD3
set_option linter.all false
namespace Go.Proofs.YteecnooaopfkeaaGreatDoor.TT
open Go Go.AM
theorem Wo (a:List Ex)(b:Ex):aR (a ++ [b])=aR a+sQ b:=by
 induction a with
 | nil=>simp [aR]
 | cons x l ih=>simp [aR,ih];omega
theorem NN (a:List dO)(b:dO):aN (a ++ [b])=aN a+stP b:=by
 induction a with
 | nil=>simp [aN]
 | cons x l ih=>simp [aN,ih];omega
theorem Fw (f:Nat):(∀lv t x r,bZ f lv t=some (x,r)->sQ x+r.length<=t.length)∧(∀lv x t y r,mH f lv x t=some (y,r)->sQ y+r.length<=sQ x+t.length)∧(∀t x r,vG f t=some (x,r)->sQ x+r.length<=t.length)∧
  (∀t x r,kE f t=some (x,r)->aR x+r.length<=t.length)∧(∀l t x r,mJ f l t=some (x,r)->aR x+r.length<=aR l+t.length):=by
 induction f with
 | zero=>exact⟨by intro _ _ _ _ h;simp [bZ] at h,by intro _ _ _ _ _ h;simp [mH] at h,by intro _ _ _ h;simp [vG] at h,by intro _ _ _ h;simp [kE] at h,by intro _ _ _ _ h;simp [mJ] at h⟩
 | succ f ih=>obtain⟨i1,i2,i3,i4,i5⟩:=ih;refine⟨λlv t x r h=>?_,λlv x t y r h=>?_,λt x r h=>?_,λt x r h=>?_,λl t x r h=>?_⟩;rw [bZ] at h;split at h;split at h;rename_i ha;have:=U1 ha;split at h;cases h;rename_i he;have:=i1 _ _ _ _ he;cases h;simp [sQ,aR] at this ⊢;omega;exact i1 _ _ _ _ h;split at h;split at h;rename_i ha;have:=U1 ha;split at h;cases h;rename_i he;have:=i1 _ _ _ _ he;cases h;simp [sQ,aR] at this ⊢;omega;exact i3 _ _ _ h;split at h;cases h;rename_i he;have:=i1 _ _ _ _ he;have:=i2 _ _ _ _ _ h;omega;rw [mH] at h;split at h;cases h;omega;rename_i ho;have:=CR ho;split at h;cases h;rename_i he;have h1:=i1 _ _ _ _ he;simp at h1;split at h;cases h;simp [sQ,aR];omega;have:=i2 _ _ _ _ _ h;simp [sQ,aR] at this;omega;rw [vG] at h;split at h;rename_i ha;have:=Fp ha;cases h;simp [sQ,aR];omega;split at h;rename_i ha;have:=U1 ha;split at h;cases h;rename_i he;have h1:=i1 _ _ _ _ he;simp at h1;split at h;cases h;simp;omega;cases h;split at h;rename_i ha;have:=nH ha;split at h;split at h;cases h;simp [sQ,aR];omega;split at h;cases h;rename_i h40 _ _ _ _ he;have h1:=i4 _ _ _ he;have h2:=U1 h40;simp at h1 h2;split at h;cases h;simp [sQ];omega;cases h;cases h;simp [sQ,aR];omega;cases h;rw [kE] at h;split at h;cases h;rename_i he;have:=i1 _ _ _ _ he;have:=i5 _ _ _ _ h;simp [aR] at this;omega;rw [mJ] at h;split at h;rename_i ha;have:=U1 ha;split at h;cases h;rename_i he;have h1:=i1 _ _ _ _ he;simp at h1;have:=i5 _ _ _ _ h;rw [Wo] at this;omega;cases h;omega
theorem NP {f:Nat}{k:Int}{t r:List Tok}{x:dO}(h:yh f k t=some (x,r)):stP x+r.length<=t.length:=by unfold yh at h;split at h;split at h;split at h;cases h;rename_i h61 _ _ _ he;have h1:=(Fw f).1 _ _ _ _ he;have h2:=U1 h61;cases h;simp [stP,aR,aN] at h1 h2 ⊢;omega;cases h;cases h
theorem Wp {f:Nat}{t r:List Tok}{x:dO}(h:Gp f t=some (x,r)):stP x+r.length<=t.length+1:=by unfold Gp at h;split at h;rename_i ha;have:=U1 ha;split at h;cases h;rename_i he;have:=(Fw f).2.2.2.1 _ _ _ he;cases h;simp [stP,aR,aN] at this ⊢;omega;split at h;have:=NP h;simp at this;omega;split at h;split at h;cases h;rename_i he;have:=(Fw f).2.2.1 _ _ _ he;cases h;simp [stP,aR,aN] at this ⊢;omega;have:=NP h;omega
theorem acO (f:Nat):(∀t x r,sj f t=some (x,r)->stP x+r.length<=t.length)∧(∀t x r,qx f t=some (x,r)->aN x+r.length<=t.length)∧(∀l t x r,wD f l t=some (x,r)->aN x+r.length<=aN l+t.length):=by
 induction f with
 | zero=>exact⟨by intro _ _ _ h;simp [sj] at h,by intro _ _ _ h;simp [qx] at h,by intro _ _ _ _ h;simp [wD] at h⟩
 | succ f ih=>obtain⟨i1,i2,i3⟩:=ih;refine⟨λt x r h=>?_,λt x r h=>?_,λl t x r h=>?_⟩;rw [sj] at h;split at h;rename_i ha;have:=U1 ha;split at h;cases h;rename_i he;have h1:=(Fw f).1 _ _ _ _ he;simp at h1;split at h;cases h;rename_i hb;have h2:=i2 _ _ _ hb;split at h;split at h;cases h;rename_i hc;have h3:=i2 _ _ _ hc;cases h;simp [stP,aR] at h3 ⊢;omega;cases h;simp [stP,aR,aN];omega;split at h;rename_i ha;have:=U1 ha;split at h;cases h;rename_i he;have h1:=(Fw f).1 _ _ _ _ he;simp at h1;split at h;cases h;rename_i hb;have h2:=i2 _ _ _ hb;cases h;simp [stP,aR,aN];omega;split at h;cases h;rename_i he;have h1:=Wp he;split at h;rename_i h59;have h2:=U1 h59;cases h;simp;omega;cases h;rw [qx] at h;split at h;have:=i3 _ _ _ _ h;simp [aN] at this;omega;cases h;rw [wD] at h;split at h;rename_i ha;have:=U1 ha;cases h;simp;split at h;cases h;rename_i he;have:=i1 _ _ _ he;have:=i3 _ _ _ _ h;rw [NN] at this;omega
theorem NQ (f:Nat):∀l t x,Ci f l t=some x->aN x<=aN l+t.length:=by
 induction f with
 | zero=>intro _ _ _ h;simp [Ci] at h
 | succ f ih=>intro l t x h;rw [Ci] at h;split at h;cases h;omega;split at h;cases h;rename_i he;have h1:=(acO f).1 _ _ _ he;have h2:=ih _ _ _ h;rw [NN] at h2;omega
mutual
theorem acP:∀(e:Ex),CJ e<=sQ e
 | .mk _ _ _ a=>by rw [CJ,sQ];have:=KE a;omega
theorem KE:∀(l:List Ex),eP l<=aR l
 | []=>by simp [eP]
 | e::l=>by rw [eP,aR];have:=acP e;have:=KE l;omega
end
mutual
theorem acQ:∀(e:dO),Gn e<=stP e
 | .mk _ _ e t f=>by rw [Gn,stP];have:=KE e;have:=CU t;have:=CU f;omega
theorem CU:∀(l:List dO),iQ l<=aN l
 | []=>by simp [iQ]
 | e::l=>by rw [iQ,aN];have:=acQ e;have:=CU l;omega
end
set_option maxRecDepth 100000
set_option maxHeartbeats 2000000
theorem acR (f:Nat):CM f:=by
 intro n fu p t S M hR hW ht hm hn hfu;obtain⟨n,rfl⟩:∃k,n=k+6:=⟨n-6,by omega⟩;have hM:=hR.ok;have hlt:=hR.lt;have hlim:=hR.iF;have E1:=y9 hM [j4 (r5 0 [] nS nS nS)];have n1:(ext M [j4 (r5 0 [] nS nS nS)]).nx=M.nx+1:=by simp
 have hR1:=hR.fence.ext E1;have gq1:(ext M [j4 (r5 0 [] nS nS nS)]).get M.nx=some (j4 (r5 0 [] nS nS nS)):=by rw [z8 hM];rfl
 have stq:∀(M3:Mem),bg p (ext M [j4 (r5 0 [] nS nS nS)]) M3->M3.get M.nx=some (j4 (r5 0 [] nS nS nS))∧M.nx<M3.nx∧M3.lim<=M.nx∧bg p M M3:=λM3 X=>by have:=X.nx;exact⟨by rw [X.old _ (by omega) (by omega),gq1],by omega,by rw [X.lim,E1.lim];exact hlim,E1.toB.trans X⟩
 obtain⟨M1,g1,X1,R1⟩:=kX hR1 112 [114,105,110,116] (n+2) fu;have hX1:=X1.nx;unfold iR at R1;unfold Gp;cases hpr:V3 [112,114,105,110,116] t with
 | true=>
  have hl:=U1 hpr;rw [hpr] at g1 R1;simp only [if_true] at R1 ⊢;have hx:=(vY f f (J2 _)).2.2 (n+5) fu p (t.drop 1) _ _ R1 (hW.drop 1) (by simp;omega) (by simp;omega) (by omega) hfu;cases hq:kE f (t.drop 1) with
  | none=>rw [hq] at hx;obtain⟨M3,g3,X3⟩:=hx;refine⟨M3,?_,E1.toB.trans (X1.trans X3)⟩;rw [enter (sf:=f58) rfl rfl];simp [f58,p9,u7,g1,g3,panics]
  | some q=>
   obtain⟨l,r⟩:=q;rw [hq] at hx;obtain⟨v',M3,g3,X3,⟨rows,hv1,hv2⟩,R3⟩:=hx;have hX3:=X3.nx;have po:=Ch hv1.slice;have cv:=hv1.slice.cells;have ov:=hv1.slice.K5;obtain⟨q1,q2,q3,q4⟩:=stq _ (X1.trans X3);have stz:=sB q3;have gs:∀B,(M3.set M.nx B).get M.nx=some B:=λB=>y8 X3.ok _ q2 rfl;have F:=fin hR q4 q2 R3 (λi hi hs=>by
    rcases hs with (hs | hs) | hs;exact .inl hs;exact .inr (by omega);exact .inr (by omega)) (j4 (r5 5 [] v' nS nS))
   have k1:∀i,i<M3.nx->M1.nx<=i->(M3.set M.nx (j4 (r5 5 [] v' nS nS))).get i=M3.get i:=λi hi hs=>p8 X3.ok _ q2 (by omega);refine⟨(r5 5 [] v' nS nS),_,?_,F.1,⟨v',nS,nS,rows,[],[],rfl,hv1.mono (J2 _) k1 (λi _ h=>by omega),H8.mono (m:=M3) (m':=M3.set M.nx (j4 (r5 5 [] v' nS nS))) (J2 _) k1 (λi _ h=>by omega) _ _ hv2,.inl ⟨rfl,rfl⟩,rfl,.inl ⟨rfl,rfl⟩,rfl⟩,F.2⟩;rw [enter (sf:=f58) rfl rfl];simp [f58,p9,u7,g1,g3,po,cv,ov,stz,q1,gs]
 | false=>
  rw [hpr] at g1 R1;simp only [J9,if_false] at R1 ⊢;obtain⟨M2,g2,X2,R2⟩:=kX R1 108 [101,116] (n+2) fu;have hX2:=X2.nx;have X12:=X1.trans X2;unfold iR at R2;cases hle:V3 [108,101,116] t with
  | true=>
   have hl:=U1 hle;rw [hle] at g2 R2;simp only [if_true] at R2 ⊢;have hWu:=hW.drop 1;have hul:(t.drop 1).length+1=t.length:=by simp;omega
   generalize t.drop 1=u at *;obtain⟨M4,g4,X4,R4⟩:=KC R2 n fu (by omega);have hX4:=X4.nx;unfold yh;cases hnx:bL u with
   | false=>rw [hnx] at g4;simp only [J9,if_false] at g4 ⊢;refine⟨M4,?_,E1.toB.trans (X12.trans X4)⟩;rw [enter (sf:=f58) rfl rfl];simp [f58,p9,u7,g1,g2,g4,panics]
   | true=>
    have hlu:=nH hnx;have R4:=R4 hnx;rw [hnx] at g4;simp only [if_true] at g4 ⊢;have g4':o9 KW fu (n+5) (.func 100) [.ptr p 0] M2=some [⟨.str (txt u),M4⟩]:=g4;have E5:=y9 X4.ok [j4 (r5 1 (txt u) nS nS nS)];have n5:(ext M4 [j4 (r5 1 (txt u) nS nS nS)]).nx=M4.nx+1:=(by simp);obtain⟨y1,y2,y3,y4,y5,y6⟩:=bG X4.ok R4.iF;obtain⟨M6,g6,X6,R6⟩:=AQ (R4.fence.ext E5) 61 [] (n+1) fu;have hX6:=X6.nx;unfold iR at R6;have gx6:M6.get M4.nx=some (j4 (r5 1 (txt u) nS nS nS)):=(by rw [X6.old _ (by omega) (by omega),z8 X4.ok];rfl);cases h61:V3 [61] (u.drop 1) with
    | false=>rw [h61] at g6;simp only [J9,if_false] at g6 ⊢;refine⟨M6,?_,E1.toB.trans (X12.trans (X4.trans (E5.toB.trans X6)))⟩;rw [enter (sf:=f58) rfl rfl];simp [f58,p9,u7,g1,g2,g4',y1,y2,y3,y4,y5,y6,g6,panics]
    | true=>
     rw [h61] at g6 R6;simp only [if_true,Z6,Nat.reduceAdd] at g6 R6 ⊢;have hx:=(vY f f (J2 _)).1 0 (n+5) fu p (u.drop 2) _ _ R6 (hWu.drop 2) (by simp;omega) (by omega) (by simp;omega) (by omega) hfu;cases hq:bZ f 0 (u.drop 2) with
     | none=>rw [hq] at hx;obtain⟨M7,g7,X7⟩:=hx;have g7':o9 KW fu (n+5) (.func 56) [.ptr p 0,iV 0] M6=_:=g7;refine⟨M7,?_,E1.toB.trans (X12.trans (X4.trans (E5.toB.trans (X6.trans X7))))⟩;rw [enter (sf:=f58) rfl rfl];simp [f58,p9,u7,g1,g2,g4',y1,y2,y3,y4,y5,y6,g6,g7',panics]
     | some q=>
      obtain⟨x,r⟩:=q;rw [hq] at hx;obtain⟨row,M7,g7,X7,hr,R7⟩:=hx;have g7':o9 KW fu (n+5) (.func 56) [.ptr p 0,iV 0] M6=_:=g7;have hr4:=hr.row;have hX7:=X7.nx;have l4:=λx ls env hx=>wE hr4.1 (x:=x) (ls:=ls) (env:=env) hx;have E8:=y9 X7.ok [j4 row];have n8:(ext M7 [j4 row]).nx=M7.nx+1:=(by simp);obtain⟨rowse,tn1,tn2⟩:=lH X7.ok hr hX7;have q8:M4.nx<(ext M7 [j4 row]).nx:=(by omega);have gx8:(ext M7 [j4 row]).get M4.nx=some (j4 (r5 1 (txt u) nS nS nS)):=(by rw [E8.old _ (by omega),X7.old _ (by omega) (by omega),gx6]);have l8:(ext M7 [j4 row]).lim<=M4.nx:=(by rw [E8.lim,X7.lim,X6.lim,E5.lim];exact R4.iF);have st8:=sB l8;have ok9:((ext M7 [j4 row]).set M4.nx (j4 (r5 1 (txt u) (.slice M7.nx 0 1 1) nS nS))).Ok:=Mem.Ok.set E8.ok q8 _;have gx9:((ext M7 [j4 row]).set M4.nx (j4 (r5 1 (txt u) (.slice M7.nx 0 1 1) nS nS))).get M4.nx=some (j4 (r5 1 (txt u) (.slice M7.nx 0 1 1) nS nS)):=y8 E8.ok _ q8 rfl;have X18:=X12.trans (X4.trans (E5.toB.trans (X6.trans (X7.trans E8.toB))));have X19:bg p (ext M [j4 (r5 0 [] nS nS nS)]) ((ext M7 [j4 row]).set M4.nx (j4 (r5 1 (txt u) (.slice M7.nx 0 1 1) nS nS))):=⟨ok9,X18.nx,X18.lim,λi hi hn=>by rw [p8 E8.ok _ q8 (by omega),X18.old i hi hn]⟩;have R8:=R7.ext E8;have R9:=RD.mono (M':=(ext M7 [j4 row]).set M4.nx (j4 (r5 1 (txt u) (.slice M7.nx 0 1 1) nS nS))) R8 ok9 (J2 _) rfl (p8 E8.ok _ q8 (by omega)) (λi hi hs=>p8 E8.ok _ q8 (by rcases hs with (hs | hs) | hs<;>omega)) (λ_ _ h=>h) R8.np
      obtain⟨q1,q2,q3,q4⟩:=stq _ X19;have stz:=sB q3;have gs:∀B,(((ext M7 [j4 row]).set M4.nx (j4 (r5 1 (txt u) (.slice M7.nx 0 1 1) nS nS))).set M.nx B).get M.nx=some B:=λB=>y8 ok9 _ q2 rfl;have F:=fin hR q4 q2 R9 (λi hi hs=>by
       rcases hs with (⟨(((hs | hs) | hs) | hs),_⟩ | hs) | hs;exact .inl hs;all_goals exact .inr (by omega)) (j4 (r5 1 (txt u) (.slice M7.nx 0 1 1) nS nS))
      have k1:∀i,i<(ext M7 [j4 row]).nx->M6.nx<=i->(((ext M7 [j4 row]).set M4.nx (j4 (r5 1 (txt u) (.slice M7.nx 0 1 1) nS nS))).set M.nx (j4 (r5 1 (txt u) (.slice M7.nx 0 1 1) nS nS))).get i=(ext M7 [j4 row]).get i:=λi hi hs=>(by rw [p8 ok9 _ q2 (by omega),p8 E8.ok _ q8 (by omega)]);have a1:(ext M7 [j4 row]).nx<=(((ext M7 [j4 row]).set M4.nx (j4 (r5 1 (txt u) (.slice M7.nx 0 1 1) nS nS))).set M.nx (j4 (r5 1 (txt u) (.slice M7.nx 0 1 1) nS nS))).nx:=J2 _;refine⟨(r5 1 (txt u) (.slice M7.nx 0 1 1) nS nS),_,?_,F.1,⟨.slice M7.nx 0 1 1,nS,nS,rowse,[],[],rfl,tn1.mono a1 k1 (λi _ h=>by omega),H8.mono a1 k1 (λi _ h=>by omega) _ _ tn2,.inl ⟨rfl,rfl⟩,rfl,.inl ⟨rfl,rfl⟩,rfl⟩,F.2⟩;rw [enter (sf:=f58) rfl rfl];simp [f58,p9,u7,g1,g2,g4',y1,y2,y3,y4,y5,y6,g6,g7',iK,l4,hr4.1,gx8,st8,gx9,stz,q1,gs]
  | false=>
   have hl0:¬ V3 [108,101,116] t=true:=by rw [hle];decide
   rw [hle] at g2 R2;simp only [J9,if_false] at R2 ⊢;obtain⟨v,h1,h2⟩:=R2.has;have hlen:=h2.slice.len;rw [show (H9 t).length=t.length from by simp [H9]] at hlen;obtain⟨M3,g99,E3⟩:=Wh R2 (n+1) fu (by omega);have look:∃M3,Ext M2 M3∧((¬ (1:Int)<(t.length:Int)∧M3=M2∧sS t=false)∨
     ((1:Int)<(t.length:Int)∧∃id1 o1,∃(k:Nat) (x:By),jV v none (λid off len _=>idx len (j3.int .i64 1) λk=>some (j3.ptr id (off+k*2))) (λid off len _=>idx len (j3.int .i64 1) λk=>some (j3.ptr id (off+k*2)))=some (.ptr id1 o1)∧Hy (M2.get id1) o1 2=some (.agg [iV (k:Int),.str x])∧¬ k=3∧¬ (k:Int)=3∧M3=M2∧sS t=false)∨
     ((1:Int)<(t.length:Int)∧∃id1 o1,∃(x:By),jV v none (λid off len _=>idx len (j3.int .i64 1) λk=>some (j3.ptr id (off+k*2))) (λid off len _=>idx len (j3.int .i64 1) λk=>some (j3.ptr id (off+k*2)))=some (.ptr id1 o1)∧Hy (M2.get id1) o1 2=some (.agg [iV 3,.str x])∧¬ x=[40]∧M3=M2∧sS t=false)∨
     ((1:Int)<(t.length:Int)∧∃id1 o1,jV v none (λid off len _=>idx len (j3.int .i64 1) λk=>some (j3.ptr id (off+k*2))) (λid off len _=>idx len (j3.int .i64 1) λk=>some (j3.ptr id (off+k*2)))=some (.ptr id1 o1)∧Hy (M2.get id1) o1 2=some (.agg [iV 3,.str [40]])∧o9 KW fu (n+1+4) (.func 99) [.ptr p 0] M2=some [⟨.bool (sS t),M3⟩])):=by
    by_cases hl:1<t.length;match t,hl with
    | z0::(k,x)::ts,hl=>obtain⟨id1,o1,a1,a2,a3,a4,a5⟩:=h2.slice.at (i:=1) (by simp [H9]);have a4':=a4 0 2 (by omega) (by omega);simp only [aay,H9,aaZ,List.getElem_cons_succ,afG,eO,Y3,ae2,afI] at a4';have a1':jV v none (λid off len _=>idx len (j3.int .i64 1) λk=>some (j3.ptr id (off+k*2))) (λid off len _=>idx len (j3.int .i64 1) λk=>some (j3.ptr id (off+k*2)))=some (.ptr id1 o1):=(by simpa using a1);have hli:(1:Int)<(((z0::(k,x)::ts).length:Nat):Int):=(by omega);by_cases hk:k=3;subst hk;by_cases hx:x=[40];subst hx;have hp:sS (z0::(3,[40])::ts)=bL (z0::(3,[40])::ts):=(by simp [sS,V3,wC,oD]);exact⟨M3,E3,.inr (.inr (.inr ⟨hli,id1,o1,a1',a4',by rw [hp];exact g99⟩))⟩;exact⟨M2,Ext.refl R2.ok,.inr (.inr (.inl ⟨hli,id1,o1,x,a1',a4',hx,rfl,by simp [sS,V3,wC,oD,hx]⟩))⟩;exact⟨M2,Ext.refl R2.ok,.inr (.inl ⟨hli,id1,o1,k,x,a1',a4',hk,by omega,rfl,by simp [sS,V3,wC,oD,hk]⟩)⟩
    exact⟨M2,Ext.refl R2.ok,.inl ⟨by omega,rfl,by
     have:t.drop 1=[]:=afw.2 (by omega);unfold sS;rw [this];rfl⟩⟩
   clear g99 E3 M3;obtain⟨M3,E3,lk⟩:=look;have R3:=R2.ext E3;have X13:=X12.trans E3.toB;have hX3:M2.nx<=M3.nx:=E3.nx;cases hc:sS t with
   | true=>
    rw [hc] at lk;simp only [Bool.true_eq_false,and_false,exists_false,false_or] at lk;obtain⟨hli,id1,o1,a1',a4',g3⟩:=lk;simp only [if_true];have hx:=(vY f f (J2 _)).2.1 (n+5) fu p t _ _ R3 hW (by omega) (by omega) (by omega) hfu;cases hq:vG f t with
    | none=>rw [hq] at hx;obtain⟨M5,g5,X5⟩:=hx;refine⟨M5,?_,E1.toB.trans (X13.trans X5)⟩;rw [enter (sf:=f58) rfl rfl];simp [f58,p9,u7,g1,g2,h1,hlen,hli,a1',a4',g3,g5,panics]
    | some q=>
     obtain⟨x,r⟩:=q;rw [hq] at hx;obtain⟨row,M5,g5,X5,hr,R5⟩:=hx;have hr4:=hr.row;have hX5:=X5.nx;have l4:=λx ls env hx=>wE hr4.1 (x:=x) (ls:=ls) (env:=env) hx;have E6:=y9 X5.ok [j4 row];have n6:(ext M5 [j4 row]).nx=M5.nx+1:=(by simp);obtain⟨rowse,tn1,tn2⟩:=lH X5.ok hr hX5;have R6:=R5.ext E6;obtain⟨q1,q2,q3,q4⟩:=stq _ (X13.trans (X5.trans E6.toB));have stz:=sB q3;have gs:∀B,((ext M5 [j4 row]).set M.nx B).get M.nx=some B:=λB=>y8 E6.ok _ q2 rfl;have F:=fin hR q4 q2 R6 (λi hi hs=>by
      rcases hs with ((hs | hs) | hs) | hs;exact .inl hs;all_goals exact .inr (by omega)) (j4 (r5 6 [] (.slice M5.nx 0 1 1) nS nS))
     have k1:∀i,i<(ext M5 [j4 row]).nx->M3.nx<=i->((ext M5 [j4 row]).set M.nx (j4 (r5 6 [] (.slice M5.nx 0 1 1) nS nS))).get i=(ext M5 [j4 row]).get i:=λi hi hs=>(by rw [p8 E6.ok _ q2 (by omega)]);have a1:(ext M5 [j4 row]).nx<=((ext M5 [j4 row]).set M.nx (j4 (r5 6 [] (.slice M5.nx 0 1 1) nS nS))).nx:=J2 _;refine⟨(r5 6 [] (.slice M5.nx 0 1 1) nS nS),_,?_,F.1,⟨.slice M5.nx 0 1 1,nS,nS,rowse,[],[],rfl,tn1.mono a1 k1 (λi _ h=>by omega),H8.mono a1 k1 (λi _ h=>by omega) _ _ tn2,.inl ⟨rfl,rfl⟩,rfl,.inl ⟨rfl,rfl⟩,rfl⟩,F.2⟩;rw [enter (sf:=f58) rfl rfl];simp [f58,p9,u7,g1,g2,h1,hlen,hli,a1',a4',g3,g5,iK,l4,hr4.1,stz,q1,gs]
   | false=>
    rw [hc] at lk;simp only [J9,if_false];obtain⟨M4,g4,X4,R4⟩:=KC R3 n fu (by omega);have hX4:=X4.nx;unfold yh;cases hnx:bL t with
    | false=>rw [hnx] at g4;simp only [J9,if_false] at g4 ⊢;refine⟨M4,?_,E1.toB.trans (X13.trans X4)⟩;rw [enter (sf:=f58) rfl rfl];rcases lk with⟨l0,rfl,_⟩ | ⟨l0,id1,o1,k,x,l1,l2,l3,l4,rfl,_⟩ | ⟨l0,id1,o1,x,l1,l2,l3,rfl,_⟩ | ⟨l0,id1,o1,l1,l2,g3⟩;simp [f58,p9,u7,g1,g2,h1,hlen,l0,g4,panics];simp [f58,p9,u7,g1,g2,h1,hlen,l0,l1,l2,l3,l4,V8,g4,panics];simp [f58,p9,u7,g1,g2,h1,hlen,l0,l1,l2,l3,V8,g4,panics];simp [f58,p9,u7,g1,g2,h1,hlen,l0,l1,l2,g3,g4,panics]
    | true=>
     have hlu:=nH hnx;have R4:=R4 hnx;rw [hnx] at g4;simp only [if_true] at g4 ⊢;have g4':o9 KW fu (n+5) (.func 100) [.ptr p 0] M3=some [⟨.str (txt t),M4⟩]:=g4;have E5:=y9 X4.ok [j4 (r5 2 (txt t) nS nS nS)];have n5:(ext M4 [j4 (r5 2 (txt t) nS nS nS)]).nx=M4.nx+1:=(by simp);obtain⟨y1,y2,y3,y4,y5,y6⟩:=bG X4.ok R4.iF;obtain⟨M6,g6,X6,R6⟩:=AQ (R4.fence.ext E5) 61 [] (n+1) fu;have hX6:=X6.nx;unfold iR at R6;have gx6:M6.get M4.nx=some (j4 (r5 2 (txt t) nS nS nS)):=(by rw [X6.old _ (by omega) (by omega),z8 X4.ok];rfl);cases h61:V3 [61] (t.drop 1) with
     | false=>rw [h61] at g6;simp only [J9,if_false] at g6 ⊢;refine⟨M6,?_,E1.toB.trans (X13.trans (X4.trans (E5.toB.trans X6)))⟩;rw [enter (sf:=f58) rfl rfl];rcases lk with⟨l0,rfl,_⟩ | ⟨l0,id1,o1,k,x,l1,l2,l3,l4,rfl,_⟩ | ⟨l0,id1,o1,x,l1,l2,l3,rfl,_⟩ | ⟨l0,id1,o1,l1,l2,g3⟩;simp [f58,p9,u7,g1,g2,h1,hlen,l0,g4',y1,y2,y3,y4,y5,y6,g6,panics];simp [f58,p9,u7,g1,g2,h1,hlen,l0,l1,l2,l3,l4,V8,g4',y1,y2,y3,y4,y5,y6,g6,panics];simp [f58,p9,u7,g1,g2,h1,hlen,l0,l1,l2,l3,V8,g4',y1,y2,y3,y4,y5,y6,g6,panics];simp [f58,p9,u7,g1,g2,h1,hlen,l0,l1,l2,g3,g4',y1,y2,y3,y4,y5,y6,g6,panics]
     | true=>
      rw [h61] at g6 R6;simp only [if_true,Z6,Nat.reduceAdd] at g6 R6 ⊢;have hx:=(vY f f (J2 _)).1 0 (n+5) fu p (t.drop 2) _ _ R6 (hW.drop 2) (by simp;omega) (by omega) (by simp;omega) (by omega) hfu;cases hq:bZ f 0 (t.drop 2) with
      | none=>rw [hq] at hx;obtain⟨M7,g7,X7⟩:=hx;have g7':o9 KW fu (n+5) (.func 56) [.ptr p 0,iV 0] M6=_:=g7;refine⟨M7,?_,E1.toB.trans (X13.trans (X4.trans (E5.toB.trans (X6.trans X7))))⟩;rw [enter (sf:=f58) rfl rfl];rcases lk with⟨l0,rfl,_⟩ | ⟨l0,id1,o1,k,x,l1,l2,l3,l4,rfl,_⟩ | ⟨l0,id1,o1,x,l1,l2,l3,rfl,_⟩ | ⟨l0,id1,o1,l1,l2,g3⟩;simp [f58,p9,u7,g1,g2,h1,hlen,l0,g4',y1,y2,y3,y4,y5,y6,g6,g7',panics];simp [f58,p9,u7,g1,g2,h1,hlen,l0,l1,l2,l3,l4,V8,g4',y1,y2,y3,y4,y5,y6,g6,g7',panics];simp [f58,p9,u7,g1,g2,h1,hlen,l0,l1,l2,l3,V8,g4',y1,y2,y3,y4,y5,y6,g6,g7',panics];simp [f58,p9,u7,g1,g2,h1,hlen,l0,l1,l2,g3,g4',y1,y2,y3,y4,y5,y6,g6,g7',panics]
      | some q=>
       obtain⟨x,r⟩:=q;rw [hq] at hx;obtain⟨row,M7,g7,X7,hr,R7⟩:=hx;have g7':o9 KW fu (n+5) (.func 56) [.ptr p 0,iV 0] M6=_:=g7;have hr4:=hr.row;have hX7:=X7.nx;have l4:=λx ls env hx=>wE hr4.1 (x:=x) (ls:=ls) (env:=env) hx;have E8:=y9 X7.ok [j4 row];have n8:(ext M7 [j4 row]).nx=M7.nx+1:=(by simp);obtain⟨rowse,tn1,tn2⟩:=lH X7.ok hr hX7;have q8:M4.nx<(ext M7 [j4 row]).nx:=(by omega);have gx8:(ext M7 [j4 row]).get M4.nx=some (j4 (r5 2 (txt t) nS nS nS)):=(by rw [E8.old _ (by omega),X7.old _ (by omega) (by omega),gx6]);have l8:(ext M7 [j4 row]).lim<=M4.nx:=(by rw [E8.lim,X7.lim,X6.lim,E5.lim];exact R4.iF);have st8:=sB l8;have ok9:((ext M7 [j4 row]).set M4.nx (j4 (r5 2 (txt t) (.slice M7.nx 0 1 1) nS nS))).Ok:=Mem.Ok.set E8.ok q8 _;have gx9:((ext M7 [j4 row]).set M4.nx (j4 (r5 2 (txt t) (.slice M7.nx 0 1 1) nS nS))).get M4.nx=some (j4 (r5 2 (txt t) (.slice M7.nx 0 1 1) nS nS)):=y8 E8.ok _ q8 rfl;have X18:=X13.trans (X4.trans (E5.toB.trans (X6.trans (X7.trans E8.toB))));have X19:bg p (ext M [j4 (r5 0 [] nS nS nS)]) ((ext M7 [j4 row]).set M4.nx (j4 (r5 2 (txt t) (.slice M7.nx 0 1 1) nS nS))):=⟨ok9,X18.nx,X18.lim,λi hi hn=>by rw [p8 E8.ok _ q8 (by omega),X18.old i hi hn]⟩;have R8:=R7.ext E8;have R9:=RD.mono (M':=(ext M7 [j4 row]).set M4.nx (j4 (r5 2 (txt t) (.slice M7.nx 0 1 1) nS nS))) R8 ok9 (J2 _) rfl (p8 E8.ok _ q8 (by omega)) (λi hi hs=>p8 E8.ok _ q8 (by rcases hs with (hs | hs) | hs<;>omega)) (λ_ _ h=>h) R8.np
       obtain⟨q1,q2,q3,q4⟩:=stq _ X19;have stz:=sB q3;have gs:∀B,(((ext M7 [j4 row]).set M4.nx (j4 (r5 2 (txt t) (.slice M7.nx 0 1 1) nS nS))).set M.nx B).get M.nx=some B:=λB=>y8 ok9 _ q2 rfl;have F:=fin hR q4 q2 R9 (λi hi hs=>by
        rcases hs with (⟨(((hs | hs) | hs) | hs),_⟩ | hs) | hs;exact .inl hs;all_goals exact .inr (by omega)) (j4 (r5 2 (txt t) (.slice M7.nx 0 1 1) nS nS))
       have k1:∀i,i<(ext M7 [j4 row]).nx->M6.nx<=i->(((ext M7 [j4 row]).set M4.nx (j4 (r5 2 (txt t) (.slice M7.nx 0 1 1) nS nS))).set M.nx (j4 (r5 2 (txt t) (.slice M7.nx 0 1 1) nS nS))).get i=(ext M7 [j4 row]).get i:=λi hi hs=>(by rw [p8 ok9 _ q2 (by omega),p8 E8.ok _ q8 (by omega)]);have a1:(ext M7 [j4 row]).nx<=(((ext M7 [j4 row]).set M4.nx (j4 (r5 2 (txt t) (.slice M7.nx 0 1 1) nS nS))).set M.nx (j4 (r5 2 (txt t) (.slice M7.nx 0 1 1) nS nS))).nx:=J2 _;refine⟨(r5 2 (txt t) (.slice M7.nx 0 1 1) nS nS),_,?_,F.1,⟨.slice M7.nx 0 1 1,nS,nS,rowse,[],[],rfl,tn1.mono a1 k1 (λi _ h=>by omega),H8.mono a1 k1 (λi _ h=>by omega) _ _ tn2,.inl ⟨rfl,rfl⟩,rfl,.inl ⟨rfl,rfl⟩,rfl⟩,F.2⟩;rw [enter (sf:=f58) rfl rfl];rcases lk with⟨l0,rfl,_⟩ | ⟨l0,id1,o1,k,x,l1,l2,l3,l4,rfl,_⟩ | ⟨l0,id1,o1,x,l1,l2,l3,rfl,_⟩ | ⟨l0,id1,o1,l1,l2,g3⟩;simp [f58,p9,u7,g1,g2,h1,hlen,l0,g4',y1,y2,y3,y4,y5,y6,g6,g7',iK,l4,hr4.1,gx8,st8,gx9,stz,q1,gs];simp [f58,p9,u7,g1,g2,h1,hlen,l0,l1,l2,l3,l4,V8,g4',y1,y2,y3,y4,y5,y6,g6,g7',iK,l4,hr4.1,gx8,st8,gx9,stz,q1,gs];simp [f58,p9,u7,g1,g2,h1,hlen,l0,l1,l2,l3,V8,g4',y1,y2,y3,y4,y5,y6,g6,g7',iK,l4,hr4.1,gx8,st8,gx9,stz,q1,gs];simp [f58,p9,u7,g1,g2,h1,hlen,l0,l1,l2,g3,g4',y1,y2,y3,y4,y5,y6,g6,g7',iK,l4,hr4.1,gx8,st8,gx9,stz,q1,gs]
set_option maxHeartbeats 4000000
theorem Wq (f:Nat):∀k,k<=f->CS k∧CB k:=by
 induction f with
 | zero=>
  intro k hk;obtain rfl:k=0:=by omega
  exact⟨λn fu p t S M hR hW ht hm=>by omega,λn fu p t S M hR hW ht hm=>by omega⟩
 | succ f ih=>
  intro k hk;by_cases h:k<=f;exact ih k h;obtain rfl:k=f+1:=by omega
  exact⟨Zo (λk hk=>(ih k hk).2) (λk _=>acR k),Zn (λk hk=>(ih k hk).1)⟩
theorem Tx {m:Mem}{lo rs:Nat}{v:j3}{l:List (List j3)}{r r':List j3}(h:aM lo rs m v (l ++ [r]))(hm:m.Ok)(hlim:m.lim<=lo)(hr:r'.length=rs)(h1:O0 r'=true):
  ∃id off m',jV v none (λid off len _=>idx len (j3.int .i64 (l.length:Int)) λk=>some (j3.ptr id (off+k*rs))) (λid off len _=>idx len (j3.int .i64 (l.length:Int)) λk=>some (j3.ptr id (off+k*rs)))=some (.ptr id off)∧
   (∀{β:Type} (k:Mem->Option β),storeAt m id off r' k=k m')∧aM lo rs m' v (l ++ [r'])∧bg id m m'∧lo<=id∧id<m.nx:=by
 rcases h with⟨_,h⟩ | ⟨id,h2,h3,h4,h5,h6,h7⟩;simp at h;obtain⟨m',s1,s2,s3⟩:=EO.store h5 hm h3 (by omega) (i:=l.length) (by simp) hr h1;have hall:O0 (l ++ [r']).flatten=true:=by rw [aiz,lF] at h4;obtain⟨e1,e2⟩:=(U9 _ _).mp h4;rw [aiz,lF,e1];simpa using h1
 have hset:(l ++ [r]).set l.length r'=l ++ [r']:=by simp
 rw [hset] at s2;have hi:l.length<(l ++ [r]).length:=by simp
 refine⟨id,l.length*rs,m',?_,λk=>s1 k,.inr ⟨id,h2,Xb h3 s3.nx,hall,s2,by simp,?_⟩,s3,h2,h3⟩;rcases h7 with rfl | rfl;simp only [qM];rw [pV _ _ _ hi,aav];simp only [oh];rw [pV _ _ _ hi,aav];simpa using h7
theorem Tz {m:Mem}{lo rs:Nat}{v:j3}{l:List (List j3)}(h:aM lo rs m v l)(n:Nat):aW (n+1) v v=true:=by rcases h with⟨rfl,_⟩ | ⟨id,_,_,_,_,_,rfl | rfl⟩;rfl;show bi (Nat.beq id id) (bi (Nat.beq 0 0) (bi (Nat.beq _ _) (Nat.beq _ _) false) false) false=true;simp [eG];show bi (Nat.beq id id) (bi (Nat.beq 0 0) (bi (Nat.beq _ _) (Nat.beq _ _) false) false) false=true;simp [eG]
theorem KF {α β:Type}(a b:α)(f:α->Option (List β)):bnd (some [a,b]) f=ob (f a) λx=>ob (f b) λy=>some (x++y):=by
 show ob (f a) (λx=>ob (ob (f b) λz=>ob (some []) λy=>some (z++y)) λy=>some (x++y))=_;cases f a with
 | none=>rfl
 | some x=>
  cases f b with
  | none=>rfl
  | some y=>simp
structure Xi (lo p q:Nat)(m m':Mem):Prop where
 ok:m'.Ok
 nx:m.nx<=m'.nx
 lim:m'.lim=m.lim
 old:∀i,i<lo->i≠p->i≠q->m'.get i=m.get i
theorem Xi.refl {lo p q:Nat}{m:Mem}(h:m.Ok):Xi lo p q m m:=⟨h,J2 _,rfl,λ_ _ _ _=>rfl⟩
theorem Xi.trans {lo p q:Nat}{a b c:Mem}(h:Xi lo p q a b)(k:Xi lo p q b c):Xi lo p q a c:=
 ⟨k.ok,Xl h.nx k.nx,k.lim.trans h.lim,λi hi hp hq=>(k.old i hi hp hq).trans (h.old i hi hp hq)⟩
theorem agF (ls:List j3)(env:T j3)(nid:Nat):zcQ ls env nid=some (.slice nid 0 1 1,some (j4 (r5 0 [] nS nS nS))):=rfl
theorem Zp {f n fu p q lo:Nat}(hE:∀k,k<=f->CS k)(hn:f+40<=n)(hfu:20000<=fu)(hpl:p<lo)(hql:q<lo)(hpq:q≠p)(a0 a1 a2 a4 a10 a11:j3)(mk:List Mk):∀(k:Nat),k<=f+1->∀(t:List Tok) (acc:List dO) (v c6 c7 c8 c9:j3) (S T:Nat->Prop) (M:Mem) (N:Nat),RD S p M t->¬ S q->QW t->t.length<=10000->acc.length+t.length<=10010->10*t.length+13<=k->
  wF lo S T M v acc->M.get q=some (j4 [v])->lo<=M.nx->M.lim<=q->t.length+1<=N->
  match Ci k acc t with
  | none=>∃c6' c7' c8' c9' d6 d7 d8 d9 v' M',I4 (λenv m k=>BH (o9 KW fu n) fu none env m k) N (xX a0 a1 a2 (.ptr q 0) a4 (.ptr p 0) c6 c7 c8 c9 a10 a11) M mk=some [⟨.ret,(xX a0 a1 a2 (.ptr q 0) a4 (.ptr p 0) c6' c7' c8' c9' a10 a11),M',mk,some (.iface 58 (.agg []))⟩,⟨.ret,(xX a0 a1 a2 (.ptr q 0) a4 (.ptr p 0) d6 d7 d8 d9 a10 a11),M',mk,some (.iface 58 (.agg []))⟩]∧Xi lo p q M M'∧M'.get q=some (j4 [v'])
  | some l=>∃c6' c7' c8' c9' v' M' T',I4 (λenv m k=>BH (o9 KW fu n) fu none env m k) N (xX a0 a1 a2 (.ptr q 0) a4 (.ptr p 0) c6 c7 c8 c9 a10 a11) M mk=some [⟨.exit 0,(xX a0 a1 a2 (.ptr q 0) a4 (.ptr p 0) c6' c7' c8' c9' a10 a11),M',mk,none⟩]∧Xi lo p q M M'∧M'.get q=some (j4 [v'])∧wF lo (λi=>False) T' M' v' l:=by
 intro k;induction k with
 | zero=>intro hk t acc v c6 c7 c8 c9 S T M N hR hSq hW ht hac hm;omega
 | succ k ih=>
  intro hk t acc v c6 c7 c8 c9 S T M N hR hSq hW ht hac hm hA hq hlo hlim hN;obtain⟨N,rfl⟩:∃k,N=k+1:=⟨N-1,by omega⟩;obtain⟨n',rfl⟩:∃k,n=k+3:=⟨n-3,by omega⟩;obtain⟨tv,h1,h2⟩:=hR.has;have hlen:=h2.slice.len;rw [show (H9 t).length=t.length from by simp [H9]] at hlen;rw [Ci];obtain⟨rows,o1,o2⟩:=hA.own;have hsl:=o1.slice.len;have hsame:=Tz o1 99;by_cases ht0:t=[];rw [if_pos ht0];have hlt:¬ (0:Int)<(t.length:Int):=by subst ht0;simp
  have hltN:¬ 0<t.length:=by omega
  refine⟨.bool false,c7,c8,c9,v,M,T,?_,Xi.refl hR.ok,hq,⟨⟨rows,o1,o2⟩,hA.apartT,λ_ _ _ _ _ h=>h,hA.FH⟩⟩;rw [w9];simp [BH,h1,hlen,hlt,hltN];rw [if_neg ht0];have hl0:0<t.length:=afP.2 ht0;have hlt:(0:Int)<(t.length:Int):=by omega
  have hRok:=hR.ok;have hRlt:=hR.lt;have E1:=y9 hR.ok [.void];have n1:(ext M [.void]).nx=M.nx+1:=by simp
  have R1:=hR.fence.ext E1;have hx:=hE k (by omega) (n'+3) fu p t _ _ R1 hW ht (by omega) (by omega) hfu;have gv1:(ext M [.void]).get M.nx=some .void:=by rw [z8 hRok];rfl
  have gq1:(ext M [.void]).get q=some (j4 [v]):=by rw [E1.old q (by omega)];exact hq
  cases hp:sj k t with
  | none=>rw [hp] at hx;obtain⟨M2,g2,X2⟩:=hx;simp only;refine⟨.bool true,c7,c8,c9,.bool true,c7,iV (rows.length:Int),c9,v,M2,?_,⟨X2.ok,by have:=X2.nx;omega,X2.lim.trans E1.lim,λi hi hp _=>by rw [X2.old i (by omega) hp,E1.old i (by omega)]⟩,by rw [X2.old q (by omega) hpq];exact gq1⟩;rw [w9];simp [BH,h1,hlen,hlt,hl0,p9,g2,gv1,gq1,hsame,hsl,agF,panics,KF]
  | some z=>
   obtain⟨y,r⟩:=z;rw [hp] at hx;obtain⟨row,M2,g2,X2,hr,R2⟩:=hx;simp only;have hr4:=hr.row;have hX2:=X2.nx;have vlt:∀i o n e,v=.sliceU i o n e->lo<=i∧i<M.nx:=λi o n e hv=>o1.lt hv;have tp:∀i,T i->i≠p:=λi hi=>by have:=hA.FH i hi;omega
   have gv2:M2.get M.nx=some .void:=by rw [X2.old _ (by omega) (by omega)];exact gv1
   have gq2:M2.get q=some (j4 [v]):=by rw [X2.old q (by omega) hpq];exact gq1
   have q3:M.nx<M2.nx:=by omega
   have ok3:(M2.set M.nx (j4 (r5 0 [] nS nS nS))).Ok:=Mem.Ok.set X2.ok q3 _;have g3:∀i,i≠M.nx->(M2.set M.nx (j4 (r5 0 [] nS nS nS))).get i=M2.get i:=λi hi=>p8 X2.ok _ q3 hi;have g3s:(M2.set M.nx (j4 (r5 0 [] nS nS nS))).get M.nx=some (j4 (r5 0 [] nS nS nS)):=y8 X2.ok _ q3 rfl;have l3:(M2.set M.nx (j4 (r5 0 [] nS nS nS))).lim<=lo:=by show M2.lim<=lo;rw [X2.lim,E1.lim];omega
   have rows3:aM lo 5 (M2.set M.nx (j4 (r5 0 [] nS nS nS))) v rows:=o1.keep (by show M.nx<=M2.nx;omega) λi h1 h2=>by rw [g3 i (by omega),X2.old i (by omega) (by omega),E1.old i h2]
   have hxr:V7 (M2.set M.nx (j4 (r5 0 [] nS nS nS))) 5 (.slice M.nx 0 1 1) [(r5 0 [] nS nS nS)]:=
    .inr ⟨M.nx,0,.inl ⟨1,by simp,by simp⟩,q3,.inr ⟨1,AM.T.ofList [(r5 0 [] nS nS nS)],by rw [g3s];rfl,by simp,by simp,λi hi=>by
     obtain rfl:i=0:=(by simpa using hi);rw [AM.T.aG];rfl⟩⟩
   have hrl:=G8.len o2;obtain⟨v5,M5,gb,ho5,F5,old5⟩:=rZ (lo:=lo) (rs:=5) (bytes:=96) (r:=(r5 0 [] nS nS nS)) ok3 l3 (by show lo<=M2.nx;omega) (by omega) rows3 hxr rfl rfl (by rw [hrl];omega) ⟨by omega,by omega⟩;have n3:(M2.set M.nx (j4 (r5 0 [] nS nS nS))).nx=M2.nx:=rfl;have hF5:=F5.nx;rw [n3] at hF5 ho5;have old5:∀i,i<M2.nx->(∀o n e,v≠.sliceU i o n e)->M5.get i=(M2.set M.nx (j4 (r5 0 [] nS nS nS))).get i:=old5;have lim5:M5.lim=M.lim:=by rw [F5.lim];show M2.lim=_;rw [X2.lim,E1.lim]
   obtain⟨id6,off6,M6,ga6,st6,ho6,X6,hid6,hid6'⟩:=Tx ho5 F5.ok (by rw [lim5];omega) hr4.1 hr4.2;have hX6:=X6.nx;have po:=Ch ho5.slice;have cv5:=ho5.slice.cells;have ov5:=ho5.slice.K5;have gq6:M6.get q=some (j4 [v]):=by rw [X6.old q (by omega) (by omega),old5 q (by omega) (λo n e hv=>by have:=(vlt q o n e hv).1;omega),g3 q (by omega),gq2]
   have q7:q<M6.nx:=by omega
   have lim6:M6.lim<=q:=by rw [X6.lim,lim5];exact hlim
   have st7:=sB lim6;have ok7:(M6.set q (j4 [v5])).Ok:=Mem.Ok.set X6.ok q7 _;have hqid:¬ q=id6:=by omega
   have hidq:¬ id6=q:=by omega
   have g7:∀i,i<M2.nx->i≠M.nx->i≠q->(∀o n e,v≠.sliceU i o n e)->(M6.set q (j4 [v5])).get i=M2.get i:=λi hi hb hq' hv=>by rw [p8 X6.ok _ q7 hq',X6.old i (by omega) (by omega),old5 i hi hv,g3 i hb]
   have rows7:aM M2.nx 5 (M6.set q (j4 [v5])) v5 (rows ++ [row]):=ho6.keep (J2 _) λi h1 h2=>p8 X6.ok _ q7 (by omega);have hacc:wF lo (λi=>((S i∧i<M.nx)∨M.nx<i)∧i<M2.nx) (λi=>(T i∨M.nx<i)∧i<M2.nx) (M6.set q (j4 [v5])) v5 (acc ++ [y]):=by
    refine⟨⟨rows ++ [row],rows7.down (by omega),G8.snoc ?_ ?_⟩,λi o n e hv h=>?_,λi o n e hv h=>?_,λi h=>?_⟩;refine G8.mono (by show M.nx<=M6.nx;omega) (λi hi ht=>?_) (λi hi ht=>⟨.inl ht,by omega⟩) _ _ o2;rw [g7 i (by omega) (by omega) (by have:=hA.FH i ht;omega) (λo n e hv=>hA.apartT i o n e hv ht),X2.old i (by omega) (tp i ht),E1.old i hi];refine iE.mono (by show M2.nx<=M6.nx;omega) (λi hi ht=>?_) (λi hi ht=>⟨.inr (by omega),hi⟩) _ _ hr;exact g7 i hi (by omega) (by omega) λo n e hv=>by have:=(vlt i o n e hv).2;omega
    have:=(rows7.lt hv).1;omega;have:=(rows7.lt hv).1;omega;rcases h.1 with h | h;exact hA.FH i h;omega
   have hnp:¬ (((S p∧p<M.nx)∨M.nx<p)∧p<M2.nx):=λh=>by rcases h.1 with h | h;exact hR.np h.1;omega
   have hnq:¬ (((S q∧q<M.nx)∨M.nx<q)∧q<M2.nx):=λh=>by rcases h.1 with h | h;exact hSq h.1;omega
   have R7:RD (λi=>((S i∧i<M.nx)∨M.nx<i)∧i<M2.nx) p (M6.set q (j4 [v5])) r:=by
    refine R2.mono ok7 (by show M2.nx<=M6.nx;omega) (by show M6.lim=_;rw [X6.lim,lim5,X2.lim,E1.lim]) (g7 p R2.lt (by omega) (λh=>hpq h.symm) λo n e hv=>by have:=(vlt p o n e hv).1;omega) (λi hi hs=>?_) (λi hi hs=>⟨?_,hi⟩) hnp;rcases hs with hs | hs;exact g7 i hi (by omega) (λh=>hSq (h▸hs.1)) λo n e hv=>hA.apartS i o n e hv hs.1;exact g7 i hi (by omega) (by omega) λo n e hv=>by have:=(vlt i o n e hv).2;omega
    rcases hs with hs | hs;exact .inl hs;exact .inr (by omega)
   have hrl2:=(KD k).1 _ _ _ hp;have Fall:Xi lo p q M (M6.set q (j4 [v5])):=⟨ok7,by show M.nx<=M6.nx;omega,by show M6.lim=_;rw [X6.lim,lim5],λi hi hp hq'=>by
    rw [g7 i (by omega) (by omega) hq' (λo n e hv=>by have:=(vlt i o n e hv).1;omega),X2.old i (by omega) hp,E1.old i (by omega)]⟩
   have step:∀N,I4 (λenv m k=>BH (o9 KW fu (n'+3)) fu none env m k) (N+1) (xX a0 a1 a2 (.ptr q 0) a4 (.ptr p 0) c6 c7 c8 c9 a10 a11) M mk=I4 (λenv m k=>BH (o9 KW fu (n'+3)) fu none env m k) N (xX a0 a1 a2 (.ptr q 0) a4 (.ptr p 0) (.bool true) v5 (iV (rows.length:Int)) (.agg row) a10 a11) (M6.set q (j4 [v5])) mk:=λN=>by rw [w9];simp [BH,h1,hlen,hlt,hl0,p9,g2,gv1,gq1,gv2,gq2,hsame,hsl,agF,tL,gb,po,ga6,hr4.1,st6,st7,gq6,cv5,ov5,tJ,hqid,hidq,eG]
   have hrec:=ih (by omega) r (acc ++ [y]) v5 (.bool true) v5 (iV (rows.length:Int)) (.agg row) _ _ (M6.set q (j4 [v5])) N R7 hnq (λx hx=>?_) (by omega) (by simp;omega) (by omega) hacc (y8 X6.ok _ q7 rfl) (by show lo<=M6.nx;omega) lim6 (by omega);rw [step];cases hm:Ci k (acc ++ [y]) r with
   | none=>rw [hm] at hrec;obtain⟨c6',c7',c8',c9',d6,d7,d8,d9,v',M',g,F,G⟩:=hrec;exact⟨c6',c7',c8',c9',d6,d7,d8,d9,v',M',g,Fall.trans F,G⟩
   | some l=>rw [hm] at hrec;obtain⟨c6',c7',c8',c9',v',M',T',g,F,G,A⟩:=hrec;exact⟨c6',c7',c8',c9',v',M',T',g,Fall.trans F,G,A⟩
   exact hW x (NM k _ _ _ hp x hx)
def Ob (t:List Tok):Prop:=∀x∈t,(x.1=2∧oF x.2<=9007199254740992∧(∀b∈x.2,T9 b=true)∧x.2≠[])∨(x.1≠2∧x.1=wC x.2)
theorem Zq {s:By}{k l:Nat}(h:jE s=some (k,l)):(k=2∧oF (s.take l)<=9007199254740992∧(∀b∈s.take l,T9 b=true)∧s.take l≠[])∨(k≠2∧k=wC (s.take l)):=by
 have hl:=vB h;match s with
 | []=>cases h
 | b::t=>
  have hd:((b::t).take l).headD 0=b:=by obtain⟨l,rfl⟩:∃j,l=j+1:=⟨l-1,by omega⟩;rfl
  have hne:(b::t).take l≠[]:=by obtain⟨l,rfl⟩:∃j,l=j+1:=⟨l-1,by omega⟩;simp
  rw [jE] at h;by_cases h1:oD b=true;rw [if_pos h1] at h;split at h<;>cases h
  right;refine⟨by omega,?_⟩;unfold wC;rw [hd,if_pos h1];rw [if_neg h1] at h;by_cases h2:T9 b=true;rw [if_pos h2] at h;split at h;cases h;rename_i h3;cases h;left;exact⟨rfl,by omega,Kv _ _,hne⟩;rw [if_neg h2] at h;right;split at h;cases h;refine⟨by omega,?_⟩;unfold wC;rw [hd,if_neg h1];split at h;cases h;refine⟨by omega,?_⟩;unfold wC;rw [hd,if_neg h1];cases h
theorem vZ:∀(n i:Nat) (s:By) (ts:List Tok),tu n i s=.inr ts->Ob ts∧∀x∈ts,x.2.length<=s.length
 | 0,i,s,ts,h=>by cases h;exact⟨λx hx=>by simp at hx,λx hx=>by simp at hx⟩
 | n+1,i,[],ts,h=>by cases h;exact⟨λx hx=>by simp at hx,λx hx=>by simp at hx⟩
 | n+1,i,b::t,ts,h=>by rw [tu] at h;split at h;obtain⟨a,c⟩:=vZ n _ t ts h;exact⟨a,λx hx=>by have:=c x hx;simp;omega⟩;split at h;obtain⟨a,c⟩:=vZ n _ _ ts h;exact⟨a,λx hx=>by have:=c x hx;simp at this ⊢;omega⟩;split at h;cases h;rename_i k l ht;split at h;cases h;rename_i ts' he;cases h;obtain⟨a,c⟩:=vZ n _ _ ts' he;refine⟨λx hx=>?_,λx hx=>?_⟩;rcases Z7.1 hx with rfl | hx;exact Zq ht;exact a x hx;rcases Z7.1 hx with rfl | hx;simp;omega;have:=c x hx;simp at this ⊢;omega
theorem Ws {s:By}{ts:List Tok}(h:lV 0 s=.inr ts):Ob ts:=(vZ _ _ _ _ h).1
theorem Wt {s:By}{ts:List Tok}(hs:s.length<1000000)(h:lV 0 s=.inr ts):QW ts:=λx hx h2=>by obtain⟨a,b⟩:=vZ _ _ _ _ h;have hx2:=b x hx;rcases a x hx with⟨_,h3,h4,h5⟩ | ⟨h3,_⟩;rcases Fe x.2 h5 h4 with⟨_,h6⟩ | ⟨h6,_⟩;exact⟨h6,by omega⟩;omega;exact absurd h2 h3
set_option maxHeartbeats 16000000
theorem agG (cf:F4)(fu:Nat)(env:T j3)(m:Mem):wJ (.reg [⟨.e .recover,none,none⟩,⟨.p (.mov (.loc 0)),some 0,none⟩]) cf fu env m none=some [⟨⟨.normal,bW (some 0) .nilIface env,m,[],none⟩,none⟩]:=by rw [Nj (h:=rfl)];rfl
theorem agH (cf:F4)(fu:Nat)(env:T j3)(m:Mem)(x:j3):wJ (.reg [⟨.e .recover,none,none⟩,⟨.p (.mov (.loc 0)),some 0,none⟩]) cf fu env m (some x)=some [⟨⟨.normal,bW (some 0) x env,m,[],none⟩,none⟩]:=by rw [Nj (h:=rfl)];rfl
theorem agI:vK (.reg [⟨.p (.mov (.slot 0)),none,none⟩,⟨.p (.eq true .iface (.loc 0) (.con j3.nilIface)),some 1,none⟩])=j6 (K8 (Xq fZ bn zex) Cy r9):=rfl
theorem aaH (cf:F4)(fu:Nat)(env:T j3)(m:Mem)(md:Option j3):wJ (.reg [⟨.p (.mov (.slot 0)),none,none⟩,⟨.p (.eq true .iface (.loc 0) (.con j3.nilIface)),some 1,none⟩]) cf fu env m md=bnd (j6 (K8 (Xq fZ bn zex) Cy r9) cf fu none env m []) (Kk md):=by rw [uY (h:=rfl),agI]
theorem agJ:vK (.reg [⟨.p (.mov (.slot 0)),none,none⟩,⟨.p (.assert 58 (A []) true (.loc 0)),none,none⟩,⟨.p (.mov (.loc 0)),none,none⟩,⟨.p (.ext (.loc 0) 0),none,none⟩,⟨.p (.ext (.loc 1) 1),none,none⟩,⟨.a (.alloc []),none,none⟩,⟨.e (.store 0 (.loc 0) (.loc 2)),none,none⟩,⟨.p (.mov (.loc 2)),some 2,none⟩])=j6 (o7 (qY 58 (A []) true bn) (o7 Il (o7 Nn (bN (eu []) (D5 (I6 0 G6 dw) (K8 WU vg r9)))))):=rfl
theorem aaI (cf:F4)(fu:Nat)(env:T j3)(m:Mem)(md:Option j3):wJ (.reg [⟨.p (.mov (.slot 0)),none,none⟩,⟨.p (.assert 58 (A []) true (.loc 0)),none,none⟩,⟨.p (.mov (.loc 0)),none,none⟩,⟨.p (.ext (.loc 0) 0),none,none⟩,⟨.p (.ext (.loc 1) 1),none,none⟩,⟨.a (.alloc []),none,none⟩,⟨.e (.store 0 (.loc 0) (.loc 2)),none,none⟩,⟨.p (.mov (.loc 2)),some 2,none⟩]) cf fu env m md=bnd (j6 (o7 (qY 58 (A []) true bn) (o7 Il (o7 Nn (bN (eu []) (D5 (I6 0 G6 dw) (K8 WU vg r9)))))) cf fu none env m []) (Kk md):=by rw [uY (h:=rfl),agJ]
theorem agK:vK (.reg [⟨.p (.mov (.slot 2)),none,none⟩,⟨.p (.not (.loc 0)),some 3,none⟩])=j6 (K8 (KX mG) qV r9):=rfl
theorem aaJ (cf:F4)(fu:Nat)(env:T j3)(m:Mem)(md:Option j3):wJ (.reg [⟨.p (.mov (.slot 2)),none,none⟩,⟨.p (.not (.loc 0)),some 3,none⟩]) cf fu env m md=bnd (j6 (K8 (KX mG) qV r9) cf fu none env m []) (Kk md):=by rw [uY (h:=rfl),agK]
theorem agL:vK (.reg [⟨.p (.mov (.slot 0)),none,none⟩,⟨.e (.panic (.loc 0)),none,none⟩])=j6 (D5 (tK bn) r9):=rfl
theorem aaK (cf:F4)(fu:Nat)(env:T j3)(m:Mem)(md:Option j3):wJ (.reg [⟨.p (.mov (.slot 0)),none,none⟩,⟨.e (.panic (.loc 0)),none,none⟩]) cf fu env m md=bnd (j6 (D5 (tK bn) r9) cf fu none env m []) (Kk md):=by rw [uY (h:=rfl),agL]
theorem agM:vK (.reg [⟨.e (.store 1 (.slot 4) (.con Z)),none,none⟩,⟨.e (.store 1 (.slot 5) (.con (j3.int .i64 (Int.ofNat 7)))),none,none⟩])=j6 (D5 (I6 1 uZ (D8 Z)) (D5 (I6 1 zap QI) r9)):=rfl
theorem agN (cf:F4)(fu:Nat)(env:T j3)(m:Mem)(md:Option j3):wJ (.reg [⟨.e (.store 1 (.slot 4) (.con Z)),none,none⟩,⟨.e (.store 1 (.slot 5) (.con (j3.int .i64 (Int.ofNat 7)))),none,none⟩]) cf fu env m md=bnd (j6 (D5 (I6 1 uZ (D8 Z)) (D5 (I6 1 zap QI) r9)) cf fu none env m []) (Kk md):=by rw [uY (h:=rfl),agM]
abbrev URD:j3:=.iface 58 (.agg [])
theorem agO:F9 (.slot 1)=bY:=rfl
theorem agP:F9 (.slot 3)=zag:=rfl
theorem IQ {x:OF}{ls:List j3}{env:T j3}(h:x ls env=URD):qY 58 (.agg []) true x ls env=some (.tuple [.agg [],.bool true]):=by unfold qY;rw [h];rfl
theorem aaL:FD (some (j4 [])) 0 []=some (j4 []):=rfl
theorem Wu (cf:F4)(fu:Nat)(env:T j3)(m:Mem)(md:Option j3):wJ (.reg [⟨.e (.store 1 (.slot 4) (.con nS)),none,none⟩,⟨.e (.store 1 (.slot 5) (.con (iV 7))),none,none⟩]) cf fu env m md=bnd (j6 (D5 (I6 1 uZ (D8 Z)) (D5 (I6 1 zap QI) r9)) cf fu none env m []) (Kk md):=agN cf fu env m md
theorem Wv (cf:F4)(fu:Nat)(args:List j3)(md:Option j3)(m:Mem):pq KW cf fu 28 args md m=Xx cf fu f28 args md m:=by show ob (KW.fns 28) _=_;have h:fns 28=some f28:=rfl;show ob ((fns 28).map _) _=_;rw [h];rfl
theorem Ww (cf:F4)(fu:Nat)(a b:Nat)(m:Mem):pq KW cf fu 28 [.ptr a 0,.ptr b 0] none m=some [(m,none)]:=by rw [Wv];simp [Xx,f28,QE,Ni,Nk,agG,aaH,aaI,aaJ,aaK,Wu,Ie,vK,agO,agP,IQ,aaL]
theorem Wx {M:Mem}(hM:M.Ok)(cf:F4)(fu:Nat)(a b:Nat){x y:j3}(hla:M.lim<=a)(hlb:M.lim<=b)(ha:a<M.nx)(hb:b<M.nx)(hab:b≠a)(ga:M.get a=some (j4 [x]))(gb:M.get b=some (j4 [y])):
  ∃M',pq KW cf fu 28 [.ptr a 0,.ptr b 0] (some URD) M=some [(M',none)]∧M'.Ok∧M.nx<=M'.nx∧M'.lim=M.lim∧(∀i,i<M.nx->i≠a->i≠b->M'.get i=M.get i)∧M'.get a=some (j4 [nS])∧M'.get b=some (j4 [iV 7]):=by
 rw [Wv];have E:=y9 hM [j4 []];have hl:M.lim<=M.nx:=by omega
 have n0:(ext M [j4 []]).nx=M.nx+1:=by simp
 have g0:(ext M [j4 []]).get a=some (j4 [x]):=by rw [E.old a ha];exact ga
 have h0:(ext M [j4 []]).get b=some (j4 [y]):=by rw [E.old b hb];exact gb
 have la:(ext M [j4 []]).lim<=a:=by rw [E.lim];exact hla
 have ok1:((ext M [j4 []]).set a (j4 [nS])).Ok:=Mem.Ok.set E.ok (by omega) _;have lb:((ext M [j4 []]).set a (j4 [nS])).lim<=b:=by show (ext M [j4 []]).lim<=b;rw [E.lim];exact hlb
 have h1:((ext M [j4 []]).set a (j4 [nS])).get b=some (j4 [y]):=by rw [p8 E.ok _ (by omega) hab];exact h0
 have st1:=sB la;have st2:=sB lb;refine⟨((ext M [j4 []]).set a (j4 [nS])).set b (j4 [iV 7]),?_,Mem.Ok.set ok1 (by show b<(ext M [j4 []]).nx;omega) _,by show M.nx<=(ext M [j4 []]).nx;omega,E.lim,λi hi h1 h2=>?_,?_,?_⟩;simp [Xx,f28,QE,Ni,Nk,agH,aaH,aaI,aaJ,aaK,Wu,Ie,vK,agO,agP,IQ,aaL,p9,u7,z8 hM,G7 hM,O4 hM hl,H6 hM hl,K3 hM,H7 hM,K5,st1,st2,g0,h1];rw [p8 ok1 _ (by show b<(ext M [j4 []]).nx;omega) h2,p8 E.ok _ (by omega) h1,E.old i hi];rw [p8 ok1 _ (by show b<(ext M [j4 []]).nx;omega) (aiA hab)];exact y8 E.ok _ (by omega) rfl;exact y8 ok1 _ (by show b<(ext M [j4 []]).nx;omega) rfl
noncomputable def Wy (s:By):Int ⊕ List dO:=match lV 0 s with
 | .inl _=>.inl 7
 | .inr ts=>match Ci (10*ts.length+13) [] ts with
  | none=>.inl 7
  | some l=>if (oH l).1<0 then .inl 2 else .inr l
def Two (x:bX)(o:VM):Prop:=x=some [o]∨x=some [o,o]
theorem acS {m:Mem}(hm:m.Ok)(hl:m.lim<=m.nx)(s:By)(hs:s.length<=2000)(n fu:Nat)(hn:25000<=n)(hfu:20000<=fu):
  ∃v e m',Two (o9 KW fu n (.func 10) [.str s] m) ⟨.tuple [v,iV e],m'⟩∧Ext m m'∧match Wy s with
   | .inl c=>v=nS∧e=c
   | .inr l=>e=0∧dS m' (λi=>m.nx<=i) l v∧aN l<=s.length:=by
 obtain⟨n,rfl⟩:∃k,n=k+6:=⟨n-6,by omega⟩;have E0:=y9 hm [j4 [nS],j4 [iV 0]];have n0:(ext m [j4 [nS],j4 [iV 0]]).nx=m.nx+2:=by simp
 have ga0:(ext m [j4 [nS],j4 [iV 0]]).get m.nx=some (j4 [nS]):=by rw [z8 hm];rfl
 have gb0:(ext m [j4 [nS],j4 [iV 0]]).get (m.nx+1)=some (j4 [iV 0]):=by rw [G7 hm];rfl
 obtain⟨v,e,a,m1,g1,E1,hlex⟩:=agq E0.ok (by rw [E0.lim,n0];omega) s (by omega) n fu (by omega);have hn1:=E1.nx;have l1:m1.lim<=m.nx:=by rw [E1.lim,E0.lim];exact hl
 have l1':m1.lim<=m.nx+1:=by omega
 have hlt1:m.nx+1<m1.nx:=by omega
 have ga1:m1.get m.nx=some (j4 [nS]):=(E1.old _ (by omega)).trans ga0;have gb1:m1.get (m.nx+1)=some (j4 [iV 0]):=(E1.old _ (by omega)).trans gb0;have st1:=sB l1';have EE1:Ext m m1:=E0.trans E1;unfold Wy;cases hlx:lV 0 s with
 | inl j=>
  rw [hlx] at hlex;obtain⟨rfl,rfl,rfl⟩:=hlex;have ok2:(m1.set (m.nx+1) (j4 [iV 7])).Ok:=Mem.Ok.set E1.ok hlt1 _;have gb2:(m1.set (m.nx+1) (j4 [iV 7])).get (m.nx+1)=some (j4 [iV 7]):=y8 E1.ok _ hlt1 rfl;have ga2:(m1.set (m.nx+1) (j4 [iV 7])).get m.nx=some (j4 [nS]):=(p8 E1.ok _ hlt1 (by omega)).trans ga1;have l2:(m1.set (m.nx+1) (j4 [iV 7])).lim<=m.nx:=l1;have st2:=sB l2;have q2:m.nx<(m1.set (m.nx+1) (j4 [iV 7])).nx:=by show m.nx<m1.nx;omega
  have ok3:((m1.set (m.nx+1) (j4 [iV 7])).set m.nx (j4 [nS])).Ok:=Mem.Ok.set ok2 q2 _;have ga3:((m1.set (m.nx+1) (j4 [iV 7])).set m.nx (j4 [nS])).get m.nx=some (j4 [nS]):=y8 ok2 _ q2 rfl;have gb3:((m1.set (m.nx+1) (j4 [iV 7])).set m.nx (j4 [nS])).get (m.nx+1)=some (j4 [iV 7]):=(p8 ok2 _ q2 (by omega)).trans gb2;have l3:((m1.set (m.nx+1) (j4 [iV 7])).set m.nx (j4 [nS])).lim<=m.nx+1:=l1';have st3:=sB l3;have q3:m.nx+1<((m1.set (m.nx+1) (j4 [iV 7])).set m.nx (j4 [nS])).nx:=hlt1;have ga4:∀B,(((m1.set (m.nx+1) (j4 [iV 7])).set m.nx (j4 [nS])).set (m.nx+1) B).get m.nx=some (j4 [nS]):=λB=>(p8 ok3 _ q3 (by omega)).trans ga3;have gb4:∀B,(((m1.set (m.nx+1) (j4 [iV 7])).set m.nx (j4 [nS])).set (m.nx+1) B).get (m.nx+1)=some B:=λB=>y8 ok3 _ q3 rfl;refine⟨nS,7,((m1.set (m.nx+1) (j4 [iV 7])).set m.nx (j4 [nS])).set (m.nx+1) (j4 [iV 7]),.inl ?_,⟨Mem.Ok.set ok3 q3 _,EE1.nx,EE1.lim,λi hi=>?_⟩,rfl,rfl⟩;rw [enter (sf:=f10) rfl rfl];simp [f10,p9,u7,g1,ga1,gb1,st1,ga2,gb2,st2,ga3,gb3,st3,ga4,gb4,kV];rw [p8 ok3 _ q3 (by omega),p8 ok2 _ q2 (by omega),p8 E1.ok _ hlt1 (by omega),EE1.old i hi]
 | inr ts=>
  rw [hlx] at hlex;obtain⟨ho,hts,rfl,rfl⟩:=hlex;have vc:=ho.slice.cells;have ok2:(m1.set (m.nx+1) (j4 [iV 0])).Ok:=Mem.Ok.set E1.ok hlt1 _;have gb2:(m1.set (m.nx+1) (j4 [iV 0])).get (m.nx+1)=some (j4 [iV 0]):=y8 E1.ok _ hlt1 rfl;have ga2:(m1.set (m.nx+1) (j4 [iV 0])).get m.nx=some (j4 [nS]):=(p8 E1.ok _ hlt1 (by omega)).trans ga1;have g2n:∀i,i≠m.nx+1->(m1.set (m.nx+1) (j4 [iV 0])).get i=m1.get i:=λi hi=>p8 E1.ok _ hlt1 hi;generalize hm2:m1.set (m.nx+1) (j4 [iV 0])=m2 at *;have n2:m2.nx=m1.nx:=by rw [← hm2];rfl
  have lim2:m2.lim=m1.lim:=by rw [← hm2];rfl
  have E3:=y9 ok2 [j4 [v]];have n3:(ext m2 [j4 [v]]).nx=m1.nx+1:=by simp [n2]
  have gp3:(ext m2 [j4 [v]]).get m1.nx=some (j4 [v]):=by rw [← n2,z8 ok2];rfl
  have gq3:(ext m2 [j4 [v]]).get m.nx=some (j4 [nS]):=(E3.old _ (by omega)).trans ga2;have gr3:(ext m2 [j4 [v]]).get (m.nx+1)=some (j4 [iV 0]):=(E3.old _ (by omega)).trans gb2;have R3:RD (λi=>(ext m [j4 [nS],j4 [iV 0]]).nx<=i∧i<m1.nx) m1.nx (ext m2 [j4 [v]]) ts:=
   ⟨E3.ok,by omega,by rw [E3.lim,lim2];omega,λh=>by omega,v,gp3,ho.s.mono (by omega) (λi hi hs=>by rw [E3.old i (by omega),g2n i (by omega)]) λi hi hs=>⟨hs,hi⟩⟩
  have hacc:wF (m1.nx+1) (λi=>(ext m [j4 [nS],j4 [iV 0]]).nx<=i∧i<m1.nx) (λi=>m1.nx+1<=i) (ext m2 [j4 [v]]) nS []:=
   ⟨⟨[],aM.nil _ _ _,rfl⟩,λi o n e hv=>(by cases hv),λi o n e hv=>(by cases hv),λi h=>h⟩
  have L:=Zp (f:=10*ts.length+12) (n:=n+5) (fu:=fu) (p:=m1.nx) (q:=m.nx) (lo:=m1.nx+1) (λk hk=>(Wq _ k hk).1) (by omega) hfu (by omega) (by omega) (by omega) (.str s) (.ptr (m.nx+1) 0) (.bool false) v .undef .undef [.d (.func (.func 28) [] [.ptr m.nx 0,.ptr (m.nx+1) 0]) []] (10*ts.length+13) (by omega) ts [] nS .undef .undef .undef .undef (_) _ (ext m2 [j4 [v]]) fu R3 (λh=>by omega) (Wt (by omega) hlx) (by omega) (by simp;omega) (by omega) hacc gq3 (by omega) (by rw [E3.lim,lim2];exact l1) (by omega);have old3:∀i,i<m.nx->(ext m2 [j4 [v]]).get i=m.get i:=λi hi=>by rw [E3.old i (by omega),g2n i (by omega),EE1.old i hi]
  simp only;cases hp:Ci (10*ts.length+13) [] ts with
  | none=>
   rw [hp] at L;obtain⟨c6',c7',c8',c9',d6,d7,d8,d9,v',M',g,F,G⟩:=L;have hF:=F.nx;have gb:M'.get (m.nx+1)=some (j4 [iV 0]):=by rw [F.old _ (by omega) (by omega) (by omega)];exact gr3
   have lM:M'.lim<=m.nx:=by rw [F.lim,E3.lim,lim2];exact l1
   obtain⟨M,k0,k1,k2,k3,k4,k5,k6⟩:=Wx F.ok (o9 KW fu (n+5)) fu m.nx (m.nx+1) lM (by omega) (by omega) (by omega) (by omega) G gb;refine⟨nS,7,M,.inr ?_,⟨k1,by omega,by rw [k3,F.lim,E3.lim,lim2];exact EE1.lim,λi hi=>?_⟩,rfl,rfl⟩;rw [enter (sf:=f10) rfl rfl];simp [f10,p9,u7,g1,ga1,gb1,st1,hm2,gb2,n2,vc,g,KF,Kj,k0,k5,k6];rw [k4 i (by omega) (by omega) (by omega),F.old i (by omega) (by omega) (by omega),old3 i hi]
  | some l=>
   rw [hp] at L;obtain⟨c6',c7',c8',c9',v',M',T',g,F,G,⟨⟨rows,o1,o2⟩,_,_,a4⟩⟩:=L;have hF:=F.nx;have hpar:=NQ _ _ _ _ hp;rw [aN,aav] at hpar;have gb:M'.get (m.nx+1)=some (j4 [iV 0]):=by rw [F.old _ (by omega) (by omega) (by omega)];exact gr3
   have lM:M'.lim<=m.nx:=by rw [F.lim,E3.lim,lim2];exact l1
   obtain⟨M5,g5,E5⟩:=acy (m:=M') F.ok (by omega) (v:=v') (l:=l) ⟨rows,o1.s.mono (J2 _) (λ_ _ _=>rfl) (λ_ _ _=>trivial),G8.mono (J2 _) (λ_ _ _=>rfl) (λ_ _ _=>trivial) _ _ o2⟩ (by omega) (n-45) fu hfu;rw [show n-45+50=n+5 from by omega] at g5;have h5:=E5.nx;have G5:M5.get m.nx=some (j4 [v']):=(E5.old _ (by omega)).trans G;have gb5:M5.get (m.nx+1)=some (j4 [iV 0]):=(E5.old _ (by omega)).trans gb;have l5:M5.lim<=m.nx:=by rw [E5.lim];exact lM
   have q5:m.nx<M5.nx:=by omega
   have st5:=sB l5;have po:=Ch o1.slice;have cv:=o1.slice.cells;have ov:=o1.slice.K5;have d28:=λM=>Ww (o9 KW fu (n+5)) fu m.nx (m.nx+1) M;have fn:∀w (B6:O9) (hw:B6=j4 [w]) (z:Int),(M5.set m.nx B6).Ok∧m.nx+1<(M5.set m.nx B6).nx∧(M5.set m.nx B6).get (m.nx+1)=some (j4 [iV 0])∧(M5.set m.nx B6).lim<=m.nx+1∧((M5.set m.nx B6).set (m.nx+1) (j4 [iV z])).get m.nx=some B6∧
     ((M5.set m.nx B6).set (m.nx+1) (j4 [iV z])).get (m.nx+1)=some (j4 [iV z])∧Ext m ((M5.set m.nx B6).set (m.nx+1) (j4 [iV z])):=λw B6 hw z=>by
    have ok6:(M5.set m.nx B6).Ok:=Mem.Ok.set E5.ok q5 _;have q6:m.nx+1<(M5.set m.nx B6).nx:=(by show _<M5.nx;omega);refine⟨ok6,q6,by rw [p8 E5.ok _ q5 (by omega)];exact gb5,by show M5.lim<=_;omega,by rw [p8 ok6 _ q6 (by omega)];exact y8 E5.ok _ q5 rfl,y8 ok6 _ q6 rfl,Mem.Ok.set ok6 q6 _,by show m.nx<=M5.nx;omega,?_,λi hi=>?_⟩;show M5.lim=_;rw [E5.lim,F.lim,E3.lim,lim2];exact EE1.lim;rw [p8 ok6 _ q6 (by omega),p8 E5.ok _ q5 (by omega),E5.old i (by omega),F.old i (by omega) (by omega) (by omega),old3 i hi]
   simp only;by_cases hneg:(oH l).1<0;rw [if_pos hneg];obtain⟨z1,z2,z3,z4,z5,z6,z7⟩:=fn nS _ rfl 2;have st6:=sB z4;refine⟨nS,2,_,.inl ?_,z7,rfl,rfl⟩;rw [enter (sf:=f10) rfl rfl];simp [f10,p9,u7,g1,ga1,gb1,st1,hm2,gb2,n2,vc,g,Kj,G,g5,po,hneg,G5,st5,z3,st6,z5,z6,d28];rw [if_neg hneg];obtain⟨z1,z2,z3,z4,z5,z6,z7⟩:=fn v' _ rfl 0;have st6:=sB z4;have hv:pW ((M5.set m.nx (j4 [v'])).set (m.nx+1) (j4 [iV 0])) (λi=>m.nx<=i) 5 v' rows:=
    o1.s.mono (by show M'.nx<=M5.nx;omega) (λi hi hs=>by rw [p8 z1 _ z2 (by omega),p8 E5.ok _ q5 (by omega),E5.old i hi]) (λi hi hs=>by omega)
   have ht:G8 ((M5.set m.nx (j4 [v'])).set (m.nx+1) (j4 [iV 0])) (λi=>m.nx<=i) l rows:=
    G8.mono (by show M'.nx<=M5.nx;omega) (λi hi hs=>by have:=a4 i hs;rw [p8 z1 _ z2 (by omega),p8 E5.ok _ q5 (by omega),E5.old i hi]) (λi hi hs=>by have:=a4 i hs;omega) _ _ o2
   refine⟨v',0,_,.inl ?_,z7,rfl,⟨rows,hv,ht⟩,by omega⟩;rw [enter (sf:=f10) rfl rfl];simp [f10,p9,u7,g1,ga1,gb1,st1,hm2,gb2,n2,vc,g,Kj,G,g5,po,hneg,G5,st5,z3,st6,z5,z6,d28,cv,ov]
end Go.Proofs.YteecnooaopfkeaaGreatDoor.TT
