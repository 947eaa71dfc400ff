/- The law BenchMemory: it answers true on statements of a bounded bulk; conditions: the memory holds what the arguments say. -/
import Derived.Test.YtfddpcckppibjaaGreatDoorPD6
set_option linter.all false
namespace Go.Proofs.YtfddpcckppibjaaGreatDoor.TT
open Go Go.AM
set_option maxRecDepth 100000
set_option maxHeartbeats 16000000
theorem KP {α:Type}:∀(t:Go.AM.T α) (i:Nat) (x y:α),t.get i=some x->∀j,(t.put i y).get j=if j=i then some y else t.get j
 | .e,i,x,y,h,j=>by cases h
 | .nd l z r,0,x,y,h,j=>by
  cases j with
  | zero=>rfl
  | succ j=>rw [if_neg (by omega)];rfl
 | .nd l z r,i+1,x,y,h,j=>by
  have hi:i=2*(i / 2)+i%2:=by omega
  have h:(Nat.rec (l.get (Nat.div i 2)) (λ_ _=>r.get (Nat.div i 2)) (Nat.mod i 2):Option α)=some x:=h;have e:(Go.AM.T.nd l z r).put (i+1) y=Nat.rec (.nd (l.put (Nat.div i 2) y) z r) (λ_ _=>.nd l z (r.put (Nat.div i 2) y)) (Nat.mod i 2):=rfl;rw [e];cases hm:Nat.mod i 2 with
  | zero=>
   rw [hm] at h;have h:l.get (Nat.div i 2)=some x:=h;show (Go.AM.T.nd (l.put (Nat.div i 2) y) z r).get j=_;cases j with
   | zero=>rw [if_neg (by omega)];rfl
   | succ j=>
    show (Nat.rec ((l.put (Nat.div i 2) y).get (Nat.div j 2)) (λ_ _=>r.get (Nat.div j 2)) (Nat.mod j 2):Option α)=if j+1=i+1 then some y else Nat.rec (l.get (Nat.div j 2)) (λ_ _=>r.get (Nat.div j 2)) (Nat.mod j 2)
    cases hj:Nat.mod j 2 with
    | zero=>
     show (l.put (Nat.div i 2) y).get (Nat.div j 2)=if j+1=i+1 then some y else l.get (Nat.div j 2)
     rw [KP l _ x y h];have hj:j%2=0:=hj;have hm:i%2=0:=hm;by_cases q:j=i;rw [if_pos (by rw [q]),if_pos (by omega)];rw [if_neg (λc=>q (by have c:j / 2=i / 2:=c;omega)),if_neg (by omega)]
    | succ k=>have hj':j%2=k+1:=hj;have hm':i%2=0:=hm;rw [if_neg (by omega)]
  | succ k0=>
   rw [hm] at h;have h:r.get (Nat.div i 2)=some x:=h;show (Go.AM.T.nd l z (r.put (Nat.div i 2) y)).get j=_;cases j with
   | zero=>rw [if_neg (by omega)];rfl
   | succ j=>
    show (Nat.rec (l.get (Nat.div j 2)) (λ_ _=>(r.put (Nat.div i 2) y).get (Nat.div j 2)) (Nat.mod j 2):Option α)=if j+1=i+1 then some y else Nat.rec (l.get (Nat.div j 2)) (λ_ _=>r.get (Nat.div j 2)) (Nat.mod j 2)
    cases hj:Nat.mod j 2 with
    | zero=>have hj':j%2=0:=hj;have hm':i%2=k0+1:=hm;rw [if_neg (by omega)];rfl
    | succ k=>
     show (r.put (Nat.div i 2) y).get (Nat.div j 2)=if j+1=i+1 then some y else r.get (Nat.div j 2)
     rw [KP r _ x y h];have hj:j%2=k+1:=hj;have hm:i%2=k0+1:=hm;by_cases q:j=i;rw [if_pos (by rw [q]),if_pos (by omega)];rw [if_neg (λc=>q (by have c:j / 2=i / 2:=c;omega)),if_neg (by omega)]
structure Kp (lo:Nat)(m0 M:Mem):Prop where
 ok:M.Ok
 nx:M.nx=m0.nx
 lim:M.lim=m0.lim
 old:∀i,i<lo->M.get i=m0.get i
 blk:∀id rs N (rows:Go.AM.T (List d9)),m0.get id=some (.cells rs N rows)->∃rows',M.get id=some (.cells rs N rows')∧∀j r,rows.get j=some r->∃r',rows'.get j=some r'∧r'.length=r.length∧r'.drop 1=r.drop 1
theorem Kp.refl {lo:Nat}{m:Mem}(h:m.Ok):Kp lo m m:=⟨h,rfl,rfl,λ_ _=>rfl,λid c N a g=>⟨a,g,λj r b=>⟨r,b,rfl,rfl⟩⟩⟩
theorem Kp.store {lo:Nat}{o M:Mem}(h:Kp lo o M){id rs N j:Nat}{rows:Go.AM.T (List d9)}{r:List d9}(g:o.get id=some (.cells rs N rows))(y:rows.get j=some r)(I:r.length=rs)(hp:0<rs)(E:j<N)(G:lo<=id)(u:id<o.nx)(l:o.lim<=id)(z:Int):
  ∃M',(∀{β:Type} (k:Mem->Option β),storeAt M id (j*rs) [iV z] k=k M')∧Kp lo o M':=by
 obtain⟨a,A,x⟩:=h.blk id rs N rows g;obtain⟨p,m,F,t⟩:=x j r y;have b:id<M.nx:=by rw [h.nx];exact u
 have H:Nat.div (j*rs) rs=j:=ae6 j hp;have K:Nat.mod (j*rs) rs=0:=Nat.mul_mod_left j rs;have J:U1 rs N a (j*rs) [iV z]=some (a.put j (.int .i64 z::p.drop 1)):=by unfold U1;rw [H,K,show Nat.blt j N=true from X8.mpr E,m];show bi (Nat.ble (Nat.add 0 (len' [d9.int .i64 z])) rs) (some (a.put j (kU 0 [d9.int .i64 z] p))) none=_;rw [I5,show Nat.ble (Nat.add 0 [d9.int .i64 z].length) rs=true from Y3 (by show 0+1<=rs;omega),jY _ _ _ (ae1 _)];simp
 refine⟨M.set id (.cells rs N (a.put j (.int .i64 z::p.drop 1))),λk=>?_,Mem.Ok.set h.ok b _,h.nx,h.lim,λi D=>by rw [J6 h.ok _ b (by omega),h.old i D],λn w N2 d s=>?_⟩;rw [jB (by rw [h.lim];exact l) rfl,A];show ob (ob (U1 rs N a (j*rs) [iV z]) λa=>some (O6.cells rs N a)) _=_;rw [J];rfl;by_cases e:n=id;subst e;rw [g] at s;cases s;refine⟨_,J9 h.ok _ b rfl,λv L c=>?_⟩;rw [KP a j p _ m v];by_cases q:v=j;subst q;rw [y] at c;cases c;refine⟨_,if_pos rfl,by simp;omega,by simpa using t⟩;rw [if_neg q];exact x v L c;obtain⟨f,B,C⟩:=h.blk n w N2 d s;exact⟨f,by rw [J6 h.ok _ b e];exact B,C⟩
theorem Sg {M:Mem}{S:Nat->Prop}{rs:Nat}{v:d9}{rows:List (List d9)}(h:jf M S rs v rows){i:Nat}(a:i<rows.length):
  ∃id j N,∃t:Go.AM.T (List d9),S id∧id<M.nx∧qD v none (λid off len _=>idx len (d9.int .i64 i) λk=>some (d9.ptr id (off+k*rs))) (λid off len _=>idx len (d9.int .i64 i) λk=>some (d9.ptr id (off+k*rs)))=some (.ptr id (j*rs))∧M.get id=some (.cells rs N t)∧j<N∧t.get j=some rows[i]∧rows[i].length=rs:=by
 rcases h with⟨_,rfl⟩ | ⟨id0,o0,s0,hv,lt,rfl | ⟨N,t,g,hN,hl,ht⟩⟩;simp at a;simp at a;refine⟨id0,o0+i,N,t,s0,lt,?_,g,by omega,ht i a,hl _ (aa3 a)⟩;rcases hv with⟨c,rfl,_⟩ | rfl;rw [qU,lW _ _ _ a,acG];rw [oP,lW _ _ _ a,acG]
theorem Kp.rows {lo:Nat}{f M:Mem}(h:Kp lo f M){S:Nat->Prop}{rs:Nat}{v:d9}{rows:List (List d9)}(q:jf f S rs v rows):∃rows',jf M S rs v rows'∧rows'.length=rows.length∧∀i (h:i<rows.length) (h':i<rows'.length),rows'[i].drop 1=rows[i].drop 1:=by
 rcases q with⟨rfl,rfl⟩ | ⟨id0,o0,s0,hv,lt,rfl | ⟨N,t,g,hN,hl,ht⟩⟩;exact⟨[],.inl ⟨rfl,rfl⟩,rfl,λi h=>absurd h (ak5 _)⟩;exact⟨[],.inr ⟨id0,o0,s0,hv,by rw [h.nx];exact lt,.inl rfl⟩,rfl,λi h=>absurd h (ak5 _)⟩;obtain⟨j,k,m⟩:=h.blk id0 rs N t g;have a:∀i:Fin rows.length,∃r',j.get (o0+i)=some r'∧r'.length=rows[i].length∧r'.drop 1=rows[i].drop 1:=λi=>m _ _ (ht i i.2);have c:(List.ofFn λi=>(a i).choose).length=rows.length:=by simp
 have b:∀i (h:i<(List.ofFn λi=>(a i).choose).length) (h':i<rows.length),(List.ofFn λi=>(a i).choose)[i]=(a ⟨i,h'⟩).choose:=λi h h'=>by simp
 refine⟨List.ofFn λi=>(a i).choose,.inr ⟨id0,o0,s0,by rw [c];exact hv,by rw [h.nx];exact lt,.inr ⟨N,j,k,by rw [c];exact hN,λr n=>?_,λi d=>?_⟩⟩,c,λi e l=>?_⟩;obtain⟨i,d,rfl⟩:=List.getElem_of_mem n;rw [b i d (by rw [← c];exact d),(a ⟨i,_⟩).choose_spec.2.1];exact hl _ (aa3 _);rw [b i d (by rw [← c];exact d)];exact (a ⟨i,_⟩).choose_spec.1;rw [b i l e];exact (a ⟨i,e⟩).choose_spec.2.2
theorem ajL {lo:Nat}{b:Mem}{S:Nat->Prop}{x:d9}{rows:List (List d9)}(e:jf b S 5 x rows){i:Nat}(f:i<rows.length){k s ve vt vf:d9}(n:rows[i]=[k,s,ve,vt,vf]):
  ∃id j N,∃t:Go.AM.T (List d9),S id∧id<b.nx∧qD x none (λid off len _=>idx len (d9.int .i64 i) λk=>some (d9.ptr id (off+k*5))) (λid off len _=>idx len (d9.int .i64 i) λk=>some (d9.ptr id (off+k*5)))=some (.ptr id (j*5))∧b.get id=some (.cells 5 N t)∧j<N∧t.get j=some rows[i]∧rows[i].length=5∧∀M,Kp lo b M->ld1 (M.get id) (j*5+2)=some ve:=by
 obtain⟨id,j,N,t,y,u,c,g,o,q,p⟩:=Sg e f;refine⟨id,j,N,t,y,u,c,g,o,q,p,λM m=>?_⟩;obtain⟨a,v,D,w⟩:=m.rows e;obtain⟨r,C,d,z,A,B,l⟩:=v.slice.at (i:=i) (by omega);rw [c] at d;cases d;rw [l 2 (by omega)];have h:=w i f (by omega);rw [n] at h;have:(a[i].drop 1)[1]?=some ve:=by rw [h];rfl
 rw [aee] at this;exact this
theorem Yr {n fu lo:Nat}{e:Mem}{S:Nat->Prop}{v x:d9}{tx:List UInt8}{rows:List (List d9)}(J:jf e S 5 x rows)(C:∀i,S i->lo<=i∧e.lim<=i){i:Nat}(O:i<rows.length){k s F vt vf:d9}(L:rows[i]=[k,s,F,vt,vf]){b:List (List d9)}(B:jf e S 4 F b)(hb:b.length<=10000)(A:d9):
  ∀(j q:Nat),q+j=b.length->∀(c6:d9) (M:Mem) (N:Nat),Kp lo e M->j+1<=N->
  ∃c6' M',I4 (λenv m k=>Xh (j6 KW fu n) fu none env m k) N (Qk v ff (iV (i:Int)) x A (iV (q:Int)) c6 (iV 0) (iV 0) .undef (.str tx) .undef ff) M []=some [⟨.exit 2,(Qk v ff (iV (i:Int)) x A (iV (b.length:Int)) c6' (iV 0) (iV 0) .undef (.str tx) .undef ff),M',[],none⟩]∧Kp lo e M':=by
 obtain⟨id,X,NN,t,Z,Y,z,g,T,V,U,D⟩:=ajL (lo:=lo) J O L;have a:=B.slice.len;intro j;induction j with
 | zero=>
  intro q P c6 M N c K;obtain⟨N,rfl⟩:∃k,N=k+1:=⟨N-1,by omega⟩;obtain rfl:q=b.length:=by omega
  refine⟨.bool false,M,?_,c⟩;have f:=D M c;rw [p9];simp [Xh,z,f,a]
 | succ j ih=>
  intro q P c6 M N c K;obtain⟨N,rfl⟩:∃k,N=k+1:=⟨N-1,by omega⟩;have r:q<b.length:=by omega
  have d:(q:Int)<(b.length:Int):=by omega
  have f:=D M c;obtain⟨Q,W,N2,t2,E,w,G,H,o,u,p⟩:=Sg B r;obtain⟨M',R,h⟩:=c.store H u p (by omega) o (C _ E).1 w (C _ E).2 0;obtain⟨c6',M2,I,l⟩:=ih (q+1) (by omega) tt M' N h (by omega);refine⟨c6',M2,?_,l⟩;have y:=λ(β:Type) (k:Mem->Option β)=>R k;rw [p9,← I];simp [Xh,z,f,a,d,G,y,P9 (i:=q) (by omega)]
theorem afm {n fu lo:Nat}(P:20000<=fu){p:Mem}{S:Nat->Prop}{v x:d9}{tx:List UInt8}(l:List ak){rows:List (List d9)}(s:jf p S 5 x rows)(D:H7 p S l rows)(A:∀i,S i->lo<=i∧p.lim<=i)(hp:Z0 l<=10000):
  ∀(j i:Nat),i+j=l.length->∀(c4 c5 c6:d9) (M:Mem) (N:Nat),Kp lo p M->j+1<=N->
  ∃c4' c5' c6' M',I4 (λenv m k=>Xi (j6 KW fu n) fu none env m k) N (Qk v ff (iV (i:Int)) x c4 c5 c6 (iV 0) (iV 0) .undef (.str tx) .undef ff) M []=some [⟨.exit 0,(Qk v ff (iV (l.length:Int)) x c4' c5' c6' (iV 0) (iV 0) .undef (.str tx) .undef ff),M',[],none⟩]∧Kp lo p M':=by
 have c:=H7.len D;have a:=s.slice.len;rw [c] at a;have U:=bD l;intro j;induction j with
 | zero=>
  intro i Q c4 c5 c6 M N u L;obtain⟨N,rfl⟩:∃k,N=k+1:=⟨N-1,by omega⟩;obtain rfl:i=l.length:=by omega
  refine⟨.bool false,c5,c6,M,?_,u⟩;rw [p9];simp [Xi,a]
 | succ j ih=>
  intro i Q c4 c5 c6 M N u L;obtain⟨N,rfl⟩:∃k,N=k+1:=⟨N-1,by omega⟩;have h:i<l.length:=by omega
  have b:i<rows.length:=by omega
  have o:(i:Int)<(l.length:Int):=by omega
  have Y:=H7.get D i h b;have B:=mE l i h;generalize l[i]=X at *;obtain⟨k0,s0,e,t,f⟩:=X;obtain⟨ve,vt,vf,F,rt,rf,E,H,I,t1,t2,f1,f2⟩:=Y;rw [stP] at B;have O:=Q8 e;have V:=D9.len I;obtain⟨id,jj,NN,a0,q,Z,G,g,R,W,T,hf⟩:=ajL (lo:=lo) s b E;obtain⟨M1,st,w⟩:=u.store g W T (by omega) R (A _ q).1 Z (A _ q).2 0;have C:=λ(β:Type) (k:Mem->Option β)=>st k;obtain⟨c6',M2,K,y⟩:=Yr (n:=n) (fu:=fu) (v:=v) (tx:=tx) s A b E H (by omega) tt F.length 0 (by omega) c6 M1 fu w (by omega);have r:I4 (λenv m k=>Xh (j6 KW fu n) fu none env m k) fu (Qk v ff (iV (i:Int)) x tt (iV 0) c6 (iV 0) (iV 0) .undef (.str tx) .undef ff) M1 []=_:=K;obtain⟨c4',c5',d,M3,J,z⟩:=ih (i+1) (by omega) tt (iV (F.length:Int)) c6' M2 N y (by omega);refine⟨c4',c5',d,M3,?_,z⟩;rw [p9,← J];simp [Xi,a,o,G,C,r,P9 (i:=i) (by omega)]
theorem ajM {m:Mem}(N:m.Ok)(A:m.lim<=m.nx)(hb:13<=m.nx){v:d9}{l:List ak}(h:U2 m (λ_=>True) l v)(hp:Z0 l<=2000000)(t:tO l<=4000000000)(n fu:Nat)(W:330<=n)(a:20000<=fu):
  ∃m',j6 KW fu (n+1) (.func 5) [v] m=some [⟨.bool true,m'⟩]∧Ext m m':=by
 have L:∀{M:Mem},Ext m M->M.lim<=M.nx:=λE=>by rw [E.lim];exact aP A E.nx
 obtain⟨n,rfl⟩:∃k,n=k+1:=⟨n-1,by omega⟩;obtain⟨P,d,E1⟩:=ajr (n:=n) (fu:=fu) (by omega) a N A h hp t;have b:∀M,j6 KW fu (n+1) (.func 7) [] M=_:=λM=>Ue n fu M;by_cases hw:l.length<=520∧wS 26 l 600<=600
 case neg=>
  have e:(decide (l.length<=520)&&decide (wS 26 l 600<=600))=false:=by rw [agm,decide_eq_false_iff_not,decide_eq_false_iff_not];omega
  rw [e] at d;refine⟨P,?_,E1⟩;rw [enter (sf:=f5) rfl rfl];simp [f5,d,b]
 have e:(decide (l.length<=520)&&decide (wS 26 l 600<=600))=true:=by rw [q8,decide_eq_true_eq,decide_eq_true_eq];exact hw
 rw [e] at d;obtain⟨q1,g,q3⟩:=Ug hw.2;obtain⟨Q,r,E2⟩:=XT E1.ok (L E1) (U2.ext h E1) (by omega) g n fu (by omega) a;have F2:=E1.trans E2;by_cases c:ckC l=0
 case neg=>refine⟨Q,?_,F2⟩;rw [enter (sf:=f5) rfl rfl];simp [f5,d,r,c,b]
 have j:=Yq c;obtain⟨X,Y,Z⟩:=Qs j;rw [c] at r;obtain⟨R,w,E3⟩:=XL F2.ok (L F2) (aP hb F2.nx) (U2.ext h F2) (by omega) g n fu (by omega) a;rw [j,if_pos rfl] at w;have F3:=F2.trans E3;obtain⟨x,C,y,E4,B⟩:=ajK F3.ok (L F3) (U2.ext h F3) (by omega) g n fu (by omega) a;rw [if_pos c] at B;rw [c] at y;have F4:=F3.trans E4;obtain⟨D,F,U⟩:=B;have T:∀{β:Type} (p:d9->β) q,bg x p q=q:=λp q=>F.slice.mq p q;have O:=wC l;have K:=bD (qC l);have V:=F3.nx;obtain⟨G,H,I,M5,J,f⟩:=afm (n:=n+1) (fu:=fu) (lo:=R.nx) (v:=v) (tx:=bU l 0) a (qC l) F U (λi u=>⟨u,by rw [F4.lim];omega⟩) (by omega) (qC l).length 0 (by omega) .undef .undef .undef C fu (Kp.refl F4.ok) (by omega);have s:I4 (λo m k=>Xi (j6 KW fu (n+1)) fu none o m k) fu (Qk v ff (iV 0) x .undef .undef .undef (iV 0) (iV 0) .undef (.str (bU l 0)) .undef ff) C []=_:=J;have F5:Ext m M5:=⟨f.ok,by rw [f.nx];exact F4.nx,by rw [f.lim,F4.lim],λi u=>by rw [f.old i (by omega),F4.old i u]⟩;obtain⟨S,z,E6⟩:=XL F5.ok (L F5) (aP hb F5.nx) (U2.ext h F5) (by omega) g n fu (by omega) a;rw [j,if_pos rfl] at z;refine⟨S,?_,F5.trans E6⟩;rw [enter (sf:=f5) rfl rfl];simp [f5,d,r,w,y,T,s,z,b,D5]
end Go.Proofs.YtfddpcckppibjaaGreatDoor.TT
