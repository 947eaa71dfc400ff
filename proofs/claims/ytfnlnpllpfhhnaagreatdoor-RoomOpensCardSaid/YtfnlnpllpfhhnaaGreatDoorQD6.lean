/- The law RoomOpens walked: it answers true; conditions: the memory holds what the arguments say. -/
import Derived.Test.YtfnlnpllpfhhnaaGreatDoorQD5
set_option linter.all false
namespace Go.Proofs.YtfnlnpllpfhhnaaGreatDoor.TT
open Go Go.AM
set_option maxRecDepth 100000
set_option maxHeartbeats 8000000
theorem afS {d:By}{t:List By}{c e w f g:By}(hs:splitB 32 d=[c,e,w,f,g]){x:Int}(b:Lib.atoiAll w=.ok x)(h0:0<=x)(a:x<((d::t).length:Int)):rX (d::t)=some x.toNat:=by unfold rX;simp only [hs,b];rw [if_pos ⟨h0,a⟩]
theorem Vr {d:By}{t:List By}(h:(splitB 32 d).length≠5):rX (d::t)=none:=by unfold rX;simp only;split;rename_i a;rw [a] at h;simp at h;rfl
theorem CU {d:By}{t:List By}{b c w e f:By}(hs:splitB 32 d=[b,c,w,e,f])(h:∀x,Lib.atoiAll w=.ok x->¬ (0<=x∧x<((d::t).length:Int))):rX (d::t)=none:=by unfold rX;simp only [hs];split;rename_i x a;rw [if_neg (h x a)];rfl
theorem EB {c:Nat}{a:List By}(h:rX a=none):∀r,¬ Rec c a r:=λr b=>by rw [b.head] at h;cases h
theorem pX (c:UInt8):∀(s w:By),w∈splitB c s->w.length<=s.length
 | [],w,h=>by simp [splitB] at h;simp [h]
 | b::l,w,h=>by rw [splitB] at h;split at h;rcases O9.1 h with rfl | h;simp;have:=pX c l w h;simp;omega;obtain⟨x,xs,e⟩:=mK c l;rw [e] at h;rcases O9.1 (show w∈(b::x)::xs from h) with rfl | h;have:=pX c l x (by rw [e];simp);simp;omega;have:=pX c l w (by rw [e];simp [h]);simp;omega
theorem alk {m:Mem}{v:d9}{ws:List By}(G:m.Ok)(D:m.lim<=m.nx)(hv:DkE m v ws)(hb:ws.length<=10000)(hw:∀w∈ws,w.length<=1000)(hz:Kn v∨∀k,rX ws=some k->k≠0)
  (hj:∀k,rX ws=some k->((ws.drop 1).take k).flatten.length<=16000) (F:Nat) (aj:F<=1000) (n K:Nat) (ab:20001<=K):
  (∃r m',l8 KW K (n+14) (.func 54) [(iN F),v] m=some [⟨.tuple [.agg r.f.cells,(iN ((U5 r))),tV],m'⟩]∧Ext m m'∧Z4 m' r∧r.short∧Rec F ws r)∨
  (∃m',l8 KW K (n+14) (.func 54) [(iN F),v] m=some [⟨.tuple [.agg zr,iZ,fV],m'⟩]∧Ext m m'∧∀r,¬ Rec F ws r):=by
 have g:=hv.vs.len;rw [G8] at g;have E0:=r9 G [j5 zr];have g0:(ext m [j5 zr]).get m.nx=some (j5 zr):=by rw [j6 G];rfl
 have lim:∀{M:Mem},Ext m M->M.lim<=M.nx:=λE=>by rw [E.lim];exact nM D E.nx
 have j:∀{M:Mem},Ext (ext m [j5 zr]) M->∃N,(∀{β:Type} (k:Mem->Option β),storeAt M m.nx 0 zr k=k N)∧N.get m.nx=some (j5 zr)∧Ext m N:=λ{M} E=>by have hn:=E.nx;obtain⟨N,A,q,X⟩:=qP (vs:=zr) E.ok (by simp at hn;omega) (by rw [E.lim,E0.lim];exact D) ((E.old m.nx (by simp)).trans g0) rfl (by decide) rfl;exact⟨N,A,q,(E0.trans E).qp X (aA _)⟩
 have am:zr.length=32:=rfl;rw [enter (sf:=f54) rfl rfl];cases ws with
 | nil=>refine .inr ⟨ext m [j5 zr],?_,E0,EB rfl⟩;simp [f54,bD G D,A8,g]
 | cons d t=>
  have s:¬ ((t.length:Int)+1=0):=by omega
  have ah:t.length+1<=10000:=by simpa using hb
  by_cases hn2:200<F;refine .inr ⟨ext m [j5 zr],?_,E0,λr H=>by have:=H.1;omega⟩;have l:(200:Int)<(F:Int):=by omega
  simp [f54,bD G D,A8,g,s,hn2,l];have l:¬ (200:Int)<(F:Int):=by omega
  have dk:=hv.dk (by simp);obtain⟨id,an,O,_,R⟩:=(hv.ext E0).vs.at0 (x:=.str d) (xs:=strs t);simp at O;obtain⟨v1,M1,U,E1,Q⟩:=abW d 32 (by have:=hw d (by simp);omega) (n+10) K (by have:=hw d (by simp);omega) E0.ok (lim E0);rw [KQ] at Q;have I:=Q.vs.len;rw [G8] at I;have z:=λ{β:Type} (p:d9->β) q=>Q.vs.aY p q;have E01:=E0.trans E1;by_cases h5:(splitB 32 d).length=5;obtain⟨w0,w1,w,w3,w4,hs⟩:∃w0 w1 w w3 w4,splitB 32 d=[w0,w1,w,w3,w4]:=by
   match h:splitB 32 d,h5 with
   | [a,b,c,d,e],_=>exact⟨a,b,c,d,e,rfl⟩
  rw [hs] at I Q;simp at I;obtain⟨af,ag,S,_,P⟩:=Q.vs.at (i:=2) (by rw [G8];simp);have P:ld1 (M1.get af) ag=some (.str w):=P;simp at S;have al:w.length<=d.length:=pX 32 d w (by rw [hs];simp);obtain⟨x,e,M2,Y,E2,Z⟩:=Wu w (by have:=hw d (by simp);omega) (n+12) K M1 E01.ok;have E02:=E01.trans E2;have X2:=E1.trans E2;rcases Z with⟨hx,rfl⟩ | ⟨hx,p,rfl⟩;by_cases hx0:x<0;obtain⟨N,A,C,EN⟩:=j X2;refine .inr ⟨N,?_,EN,EB (CU hs λy W=>by rw [hx] at W;cases W;omega)⟩;simp [f54,bD G D,A8,g,s,hn2,l,O,R,U,z,I,S,P,Y,hx0,A,C];by_cases hxl:(t.length:Int)+1<=x;obtain⟨N,A,C,EN⟩:=j X2;refine .inr ⟨N,?_,EN,EB (CU hs λy W=>by rw [hx] at W;cases W;simp;omega)⟩;simp [f54,bD G D,A8,g,s,hn2,l,O,R,U,z,I,S,P,Y,hx0,hxl,A,C];obtain⟨k,rfl⟩:∃k:Nat,x=(k:Int):=⟨x.toNat,by omega⟩;have hk:rX (d::t)=some k:=by have:=afS hs hx (by omega) (show (k:Int)<((d::t).length:Int) by simp;omega);simpa using this
  have ai:k<t.length+1:=by omega
  have a9:=dk.ext E02;have L:Kn v∨1<(d::t).length:=by rcases hz with hz | hz;exact .inl hz;have:=hz k hk;exact .inr (by simp;omega)
  obtain⟨vm,cm,dm,_,_⟩:=Vq a9 1 k (by simp) (by simp;omega) L M2.nx;have a2:=hj k hk;have j3:=ae8 dm [] (by simp;omega) (by rw [CR];omega) (n+12) K;rw [CR] at j3;have J:=λ(x a b:OF) (ls:List d9) (env:T d9) (hx:x ls env=v) (ha:a ls env=iN 1) (hb:b ls env=iN (1+k))=>(abS hx ha hb M2.nx).trans (cm (some (1+k)) (.inl rfl));obtain⟨q,hq⟩:∃q,q=k+1:=⟨_,rfl⟩;have e3:=ak hq (by omega);rw [show 1+k=q from by omega] at J;generalize hs3:(((d::t).drop 1).take k).flatten=s3 at a2 j3;have o:∀r,Rec F (d::t) r->kV s3 r:=λr H=>by have h:=H.head;rw [hk] at h;have h:=su h;have hb:=Sv H.2;rw [← h] at hb;exact⟨H.2.valid,by rw [← hs3,← hb];rfl⟩
  have a6:=lim E02;have ac:=E02.ok;rcases al0 ac a6 s3 a2 n K ab with⟨r,M3,g3,E3,H,la,lb,lc,ht⟩ | ⟨M3,g3,E3,hno3⟩;have E03:=E02.trans E3;have u:=E03.ok;have B:=lim E03;have E4:=r9 u [j5 r.f.cells,Z6.void];have ho:=H.one;have E04:=E03.trans E4;have a4:=H.ext E4;obtain⟨v4,M5,g4,E5,h4⟩:=abq E04.ok (lim E04) a4 ht.1 (F:Int) (by unfold Sm;omega) (n+8) K (by omega);have E05:=E04.trans E5;obtain⟨vp,cp,dp,_,_⟩:=Vq (dk.ext E05) 0 q (by simp) (by simp;omega) (.inr (by simp)) (M3.nx+1);have a0:=λ(x b:OF) (ls:List d9) (env:T d9) (hx:x ls env=v) (hb:b ls env=iN q)=>(abT hx hb (M3.nx+1)).trans (cp (some q) (.inl (by rw [W9])));have ae:(oJ (F:Int) (D8 r)).length<=10000:=by have:=kF _ (D8 r) (aA _);have:=jK ht.1;rw [iq];omega
  have g5:=alg h4 dp.vs ae (n+12) K (by omega);rw [abR] at g5;have q4:M5.get M3.nx=some (j5 r.f.cells):=by rw [E5.old _ (by simp),j6 u];rfl
  have a8:M5.get (M3.nx+1)=some .void:=by rw [E5.old _ (by simp),l5 u];rfl
  have X5:Ext (ext m [j5 zr]) M5:=X2.trans (E3.trans (E4.trans E5));have a7:=λ{β:Type} (p:d9->β) q=>h4.aY p q;by_cases heq:oJ (F:Int) (D8 r)=(d::t).take q;have a5:U5 r=q:=by have:=congrArg List.length heq;rw [iq] at this;simp at this;unfold U5;omega
  have ad:=X5.nx;obtain⟨N,A,C,X⟩:=qP (vs:=r.f.cells) X5.ok (by simp at ad;omega) (by rw [X5.lim,E0.lim];exact D) ((X5.old m.nx (by simp)).trans g0) (by rw [G6.len];rfl) (by rw [G6.len];omega) H.one;have EN:=(E0.trans X5).qp X (aA _);rw [decide_eq_true heq] at g5;refine .inl ⟨r,N,?_,EN,(a4.ext E5).keep (Gl rfl ((X5.old m.nx (by simp)).trans g0) X),⟨la,lb,lc⟩,Rec.of (by omega) ht.1 (hq▸heq)⟩;rw [a5];clear L o j;simp [f54,bD G D,A8,ku u B,g,s,hn2,l,O,R,U,z,I,S,P,Y,hx0,hxl,e3,J,j3,g3,g4,a0,g5,q4,a8,a7,A,C,ho,Az,G6.len];obtain⟨N,A,C,EN⟩:=j X5;rw [decide_eq_false heq] at g5;refine .inr ⟨N,?_,EN,λr' V=>heq ?_⟩;clear L o j;simp [f54,bD G D,A8,ku u B,g,s,hn2,l,O,R,U,z,I,S,P,Y,hx0,hxl,e3,J,j3,g3,g4,a0,g5,q4,a8,a7,A,C,ho,Az,G6.len];have Q:=WX V.2;have Z:=V.head;rw [hk] at Z;have Z:=su Z;rw [← Z,← hq] at Q;rw [Q,ht.2,(o r' V).2];obtain⟨N,A,C,EN⟩:=j (X2.trans (E3.trans (r9 (E02.trans E3).ok [j5 zr,Z6.void])));have E03:=E02.trans E3;have u:=E03.ok;have B:=lim E03;refine .inr ⟨N,?_,EN,λr H=>hno3 r (o r H)⟩;clear L o j;simp [f54,bD G D,A8,ku u B,g,s,hn2,l,O,R,U,z,I,S,P,Y,hx0,hxl,e3,J,j3,g3,A,C,Az];obtain⟨N,A,C,EN⟩:=j X2;refine .inr ⟨N,?_,EN,EB (CU hs λy W=>absurd W (hx y))⟩;simp [f54,bD G D,A8,g,s,hn2,l,O,R,U,z,I,S,P,Y,A,C];obtain⟨N,A,C,EN⟩:=j E1;refine .inr ⟨N,?_,EN,EB (Vr h5)⟩;have aa:¬ (((splitB 32 d).length:Nat):Int)=5:=by omega
  simp [f54,bD G D,A8,g,s,hn2,l,O,R,U,z,I,h5,aa,A,C]
theorem KT {M:Mem}(a:M.Ok){W:List By}(b:W≠[]):lY M.nx (M.new (.cells 1 (strs W).length (T.ofList ((strs W).map ([·]))))) (.sliceU M.nx 0 (strs W).length 1) W:=by rw [G8];refine .inr ⟨M.nx,_,W.length,aA _,by simp,b,rfl,by rw [Mem.P5 a,if_pos rfl],?_,aA _,λi c=>by rw [T.bN];simp [strs,c]⟩;have:=T.kK ((strs W).map ([·]));simpa [G8] using this
theorem vD (a b:List By):strs (a++b)=strs a++strs b:=by simp [strs]
theorem aiU {lo bytes:Nat}{m:Mem}{v x:d9}{l xs:List By}(z:m.Ok)(K:m.lim<=lo)(O:lo<=m.nx)(h:lY lo m v l)(M:dB m x (strs xs))(f:xs≠[])(hb:l.length+xs.length<=100000)(u:1<=bytes∧bytes<=1000):
  ∃v' m',(∀(s y:OF) (cf:H7) (ls:List d9) (env:T d9),s ls env=v->y ls env=x->lu 1 bytes s y cf ls env m=some [⟨v',m'⟩])∧lY m.nx m' v' (l++xs)∧m'.Ok∧m.nx<=m'.nx∧m'.lim=m.lim∧
   (∀i,i<m.nx->(∀o n e,v≠.sliceU i o n e)->m'.get i=m.get i):=by
 have w:∀(o:pI),kT m 1 bytes xs.length (strs xs) v=o->∀(s y:OF) (cf:H7) (ls:List d9) (env:T d9),s ls env=v->y ls env=x->lu 1 bytes s y cf ls env m=o:=λo P s y cf ls env R S=>by show ob (AM.lenOf (y ls env)) (λn=>ob (aj m 1 n (y ls env)) λG=>kT m 1 bytes n G (s ls env))=_;have H:=M.lenOf;have I:=M.read;rw [G8] at H I;rw [S,R,H,I9,I,I9];exact P
 obtain⟨k,C⟩:∃k,xs.length=k+1:=⟨xs.length-1,by have:=abY.2 f;omega⟩;have q:l++xs≠[]:=λe=>f (List.append_eq_nil_iff.1 e).2;have J:=vC xs;rcases h with⟨rfl,rfl⟩ | ⟨id,t,c,i1,i2,i3,rfl,i4,i5,i6,i7⟩;rw [aaE];obtain⟨g,_⟩:=oU (lo:=m.nx) z (aA _) (strs xs) J;refine⟨_,_,w _ ?_,KT z f,Mem.Ok.new z _,by simp,by simp,λi A _=>by rw [Mem.P5 z,if_neg (by omega)]⟩;rw [← g];show IY m 1 bytes xs.length (strs xs)=_;rw [G8,C];show bi (big (k+1) bytes 1) _ none=_;rw [wY (by simp at hb;omega) u];rfl;have a:(m.set id .dead).Ok:=Mem.Ok.set z i2 _;have N:=abY.2 i3;have p:Nat.ble m.lim id=true:=qb (by omega);have d:∀b,∀i,i<m.nx->(∀o n e,d9.sliceU id 0 l.length 1≠.sliceU i o n e)->((m.set id .dead).new b).get i=m.get i:=λb i A f=>by have:i≠id:=λe=>f 0 l.length 1 (by rw [e]);rw [Mem.P5 a,if_neg (by simp;omega),Mem.U6 z i2,if_neg this]
 by_cases hone:xs.length=1;obtain⟨y,rfl⟩:∃y,xs=[y]:=amD.1 hone;refine⟨.sliceU m.nx 0 (l.length+1) 1,(m.set id .dead).new (.cells 1 (l.length+1) (t.put l.length [.str y])),w _ ?_,?_,Mem.Ok.new a _,by simp,by simp,d _⟩;show mW m 1 bytes 1 [.str y] id 0 l.length 1=_;show bi (Nat.beq 1 1) (bi (big (l.length+1) bytes 1) (bi (Nat.ble m.lim id) (bi (I7 [d9.str y]) (uL (m.get id) _ _) none) none) none) none=_;rw [wY (by simpa using hb) u,p,i4];show bi (bi (Nat.beq 1 1) (bi (Nat.beq 0 0) (bi (Nat.ble l.length l.length) (bi (Nat.beq 1 1) (Nat.beq 1 1) false) false) false) false) _ _=_;rw [show Nat.ble l.length l.length=true from qb (aA _)];rfl;have B:∃c'',l.length+1<=c''∧T.Ok (t.put l.length [.str y]) c'':=by
  by_cases hc:l.length<c;exact⟨c,hc,T.Ok.put i5 _ _ hc⟩;obtain rfl:c=l.length:=by omega
  exact⟨l.length+1,aA _,T.Ok.push i5 _⟩
 obtain⟨c'',U,V⟩:=B;refine .inr ⟨m.nx,_,c'',aA _,by simp,q,by simp,by rw [Mem.P5 a];simp,V,by simpa using U,λi A=>?_⟩;by_cases hil:i=l.length;subst hil;rw [T.aW i5 _ _ (by omega)];simp;have j:i<l.length:=by simp at A;omega
 rw [T.bV i5 _ _ _ (by omega) (ajw hil),i7 i j];simp [adI,j];obtain⟨g,_⟩:=oU (lo:=m.nx) a (by simp) (strs (l++xs)) (vC _);have L:=KT a q;have E:(m.set id .dead).nx=m.nx:=by simp
 rw [E] at L g;refine⟨_,_,w _ ?_,L,Mem.Ok.new a _,by simp,by simp,d _⟩;have F:J7 1 l.length t l.length 0=some (strs l):=by
  have:=jH (rs:=1) (n:=l.length) (rows:=t) (l:=(strs l).map ([·])) (λr Q=>by
   obtain⟨x,_,rfl⟩:=acE.1 Q;rfl) (λi A=>by
   have D:i<l.length:=by simpa [strs] using A
   rw [i7 i D];simp [strs]) (by simp [strs]) l.length 0 (by simp [strs])
  rwa [adG,acL,abR,zI] at this
 rw [← g];show mW m 1 bytes xs.length (strs xs) id 0 l.length 1=_;unfold mW;rw [C];show bi (Nat.beq 1 1) (bi (big (l.length+(k+1)) bytes 1) (bi (Nat.ble m.lim id) (bi (I7 (strs xs)) (uL (m.get id) _ _) none) none) none) none=_;rw [wY (by omega) u,p,J,i4];show bi (bi (Nat.beq 1 1) (bi (Nat.beq 0 0) (bi (Nat.ble l.length l.length) (bi (Nat.beq (k+1) 1) (Nat.beq (len' (strs xs)) 1) false) false) false) false) _ (ob (J7 1 l.length t (Nat.mul l.length 1) 0) λd=>grown (m.set id .dead) 1 (Nat.add l.length (k+1)) (cZ d (strs xs)))=_;rw [show Nat.ble l.length l.length=true from qb (aA _),show Nat.beq (k+1) 1=false from aaD.2 λe=>hone (by rw [C];exact l7 e),
  show Nat.mul l.length 1=l.length from adG _,show Nat.add l.length (k+1)=(strs (l++xs)).length from by rw [G8,acp,C];rfl]
 show ob (J7 1 l.length t l.length 0) (λd=>grown (m.set id .dead) 1 (strs (l++xs)).length (cZ d (strs xs)))=_;rw [F,I9,V8,vD]
structure eD (lo:Nat)(m:Mem)(p:Nat)(rid:Int)(lv fv:d9)(D:List By)(L:List FR):Prop where
 at_:m.get p=some (j5 [lv,iV rid,fv])
 lo_:lo<=p
 pn:p<m.nx
 lim:m.lim<=lo
 list:lY lo m lv D
 facts:jD lo 32 m fv (cellsOf L)
 w:∀r,r∈L->Z4 m r
 sh:∀r,r∈L->r.short
theorem eD.ND {lo:Nat}{m:Mem}{p:Nat}{rid:Int}{lv fv:d9}{D:List By}{L:List FR}(h:eD lo m p rid lv fv D L):lo<=m.nx:=nM h.lo_ (ae1 h.pn)
theorem eD.Aa {lo:Nat}{m:Mem}{p:Nat}{rid:Int}{lv fv:d9}{D:List By}{L:List FR}(h:eD lo m p rid lv fv D L):m.lim<=m.nx:=nM h.lim h.ND
theorem eD.ext {lo:Nat}{m a:Mem}{p:Nat}{rid:Int}{lv fv:d9}{D:List By}{L:List FR}(h:eD lo m p rid lv fv D L)(e:Ext m a):eD lo a p rid lv fv D L:=
 ⟨(e.old p h.pn).trans h.at_,h.lo_,aP h.pn e.nx,by rw [e.lim];exact h.lim,h.list.ext e,h.facts.ext e,λr b=>(h.w r b).ext e,h.sh⟩
theorem eD.good {lo:Nat}{m:Mem}{p:Nat}{rid:Int}{lv fv:d9}{D:List By}{L:List FR}(h:eD lo m p rid lv fv D L):∀r,r∈L->r.Good:=λr a=>(h.w r a).good (h.sh r a)
theorem pE {lo:Nat}{m:Mem}{v:d9}{L:List FR}(h:jD lo 32 m v (cellsOf L)):dn m v L:=by
 have a:(cellsOf L).length=L.length:=by simp [cellsOf]
 rcases h with⟨rfl,h⟩ | ⟨id,h1,h2,h3,h4,h5,h6⟩;have:L=[]:=abm.1 (by rw [← a,h];rfl);subst this;exact .inl ⟨rfl,rfl⟩;obtain⟨_,e,c,t,j,f,b,k,l,g⟩:=h4;rw [a] at h6 b;refine .inr ⟨id,?_,h2,.inr ⟨c,t,f,b,λi d=>?_⟩⟩;rcases h6 with h6 | h6;exact .inl ⟨_,h6⟩;exact .inr h6;rw [g i (by rw [a];exact d)];simp [cellsOf]
structure FrR (m m':Mem)(p:Nat)(lv fv:d9):Prop where
 nx:m.nx<=m'.nx
 lim:m'.lim=m.lim
 ok:m'.Ok
 old:∀i,i<m.nx->i≠p->(∀o n e,lv≠.sliceU i o n e)->(∀o n e,fv≠.sliceU i o n e)->m'.get i=m.get i
theorem eD.sl {lo:Nat}{m j:Mem}{p:Nat}{rid:Int}{lv fv:d9}{D:List By}{L:List FR}(h:eD lo m p rid lv fv D L)(f:FrR m j p lv fv){v:d9}{xs:List Int}(g:Y9 m v xs):Y9 j v xs:=by rcases g with g | ⟨id,h1,h2,h3⟩;exact .inl g;refine .inr ⟨id,h1,aP h2 f.nx,?_⟩;rcases h3 with h3 | ⟨n,rows,b,h5,h6⟩;exact .inl h3;by_cases hx:xs=[];exact .inl hx;have r:=abY.2 hx;refine .inr ⟨n,rows,(f.old id.1 h2 ?_ ?_ ?_).trans b,h5,h6⟩;intro e;have d:=h.at_;rw [← e,b] at d;have d:=su d;have d:Z6.cells 1 n rows=.cells 3 1 _:=d;injection d with e3;cases e3;intro o k e a;rcases h.list with⟨q,_⟩ | ⟨i,t,c,i1,i2,i3,q,i4,i5,i6,i7⟩;rw [q] at a;cases a;rw [q] at a;injection a with a;rw [← a,i4] at b;have b:=su b;injection b with _ e1 d;have l:=h6 0 r;rw [← d,acy,i7 id.2 (by omega)] at l;cases l;intro o k e a;rcases h.facts with⟨q,_⟩ | ⟨i,i1,i2,i3,⟨_,hrl,c,t,c',q1,q2⟩,i5,i6⟩;rw [q] at a;cases a;rcases i6 with q | q;rw [q] at a;cases a;rw [q] at a;injection a with a;rw [← a,q1] at b;have b:=su b;injection b with e3;cases e3
theorem eD.fct {lo:Nat}{m c:Mem}{p:Nat}{rid:Int}{lv fv:d9}{D:List By}{L:List FR}(h:eD lo m p rid lv fv D L)(f:FrR m c p lv fv){r:FR}(k:Z4 m r):Z4 c r:=⟨h.sl f k.a,h.sl f k.b,h.sl f k.l,k.ga,k.gb,k.nb⟩
theorem AL {lo rs:Nat}{m a:Mem}{v:d9}{l:List (List d9)}(h:jD lo rs m v l)(b:m.nx<=a.nx)(c:∀i,i<m.nx->((∃o n e,v=.sliceU i o n e)∨∃o n e,v=.slice i o n e)->a.get i=m.get i):jD lo rs a v l:=by rcases h with h | ⟨id,h1,h2,h3,h4,h5,h6⟩;exact .inl h;refine .inr ⟨id,h1,aP h2 b,h3,h4.same (c id h2 ?_),h5,h6⟩;rcases h6 with h6 | h6;exact .inr ⟨_,_,_,h6⟩;exact .inl ⟨_,_,_,h6⟩
theorem NG {lo:Nat}{m a:Mem}{v:d9}{l:List By}(h:lY lo m v l)(b:m.nx<=a.nx)(d:∀i o n e,i<m.nx->v=.sliceU i o n e->a.get i=m.get i):lY lo a v l:=by rcases h with h | ⟨id,t,c,h1,h2,h3,h4,h5,h6⟩;exact .inl h;exact .inr ⟨id,t,c,h1,aP h2 b,h3,h4,(d id _ _ _ h2 h4).trans h5,h6⟩
theorem AO {lo a:Nat}{m:Mem}{v:d9}{l:List By}(h:lY lo m v l)(b:a<=lo):lY a m v l:=by rcases h with h | ⟨id,t,c,h1,h2⟩;exact .inl h;exact .inr ⟨id,t,c,nM b h1,h2⟩
theorem wQ {lo:Nat}{m:Mem}{v:d9}{l:List By}(h:lY lo m v l){i o n e:Nat}(a:v=.sliceU i o n e):lo<=i∧i<m.nx∧∃k t,m.get i=some (.cells 1 k t):=by rcases h with⟨h,_⟩ | ⟨id,t,c,h1,h2,h3,h4,h5,h6⟩;rw [h] at a;cases a;rw [h4] at a;injection a with a;subst a;exact⟨h1,h2,_,t,h5⟩
theorem iE {lo rs:Nat}{m:Mem}{v:d9}{l:List (List d9)}(h:jD lo rs m v l){i o n e:Nat}(a:v=.sliceU i o n e∨v=.slice i o n e):lo<=i∧i<m.nx∧∃k t,m.get i=some (.cells rs k t):=by
 rcases h with⟨h,_⟩ | ⟨id,h1,h2,h3,⟨_,hl,c,t,c',q,_⟩,h5,h6⟩;rw [h] at a;rcases a with a | a<;>cases a
 have:i=id:=by
  rcases h6 with h6 | h6<;>rw [h6] at a<;>rcases a with a | a
  cases a;injection a with a;exact a.symm;injection a with a;exact a.symm;cases a
 subst this;exact⟨h1,h2,c,t,q⟩
theorem afT {lo a rs:Nat}{m:Mem}{v:d9}{l:List (List d9)}(h:jD lo rs m v l)(b:∀i o n e,(v=.sliceU i o n e∨v=.slice i o n e)->a<=i):jD a rs m v l:=by rcases h with h | ⟨id,h1,h2,h3,h4,h5,h6⟩;exact .inl h;refine .inr ⟨id,?_,h2,h3,h4,h5,h6⟩;rcases h6 with h6 | h6;exact b _ _ _ _ (.inr h6);exact b _ _ _ _ (.inl h6)
theorem nK {a b k c:Nat}{t d:T (List d9)}{x:Option Z6}(h:x=some (.cells a k t))(h':x=some (.cells b c d)):a=b:=by rw [h] at h';injection su h'
theorem eD.ayi {lo:Nat}{m:Mem}{p:Nat}{rid:Int}{lv fv:d9}{D:List By}{L:List FR}(h:eD lo m p rid lv fv D L):∀o n e,lv≠.sliceU p o n e:=λo n e a=>by obtain⟨_,_,k,t,q⟩:=wQ h.list a;have:=nK (b:=3) q h.at_;omega
theorem eD.ayj {lo:Nat}{m:Mem}{p:Nat}{rid:Int}{lv fv:d9}{D:List By}{L:List FR}(h:eD lo m p rid lv fv D L):∀o n e,fv≠.sliceU p o n e:=λo n e a=>by obtain⟨_,_,k,t,q⟩:=iE h.facts (.inl a);have:=nK (b:=3) q h.at_;omega
theorem eD.abX {lo:Nat}{m:Mem}{p:Nat}{rid:Int}{lv fv:d9}{D:List By}{L:List FR}(h:eD lo m p rid lv fv D L){i o n e c b a:Nat}(d:lv=.sliceU i o n e)(f:fv=.sliceU i c b a∨fv=.slice i c b a):False:=by obtain⟨_,_,k,t,q⟩:=wQ h.list d;obtain⟨_,_,j,l,g⟩:=iE h.facts f;have:=nK q g;omega
theorem Vs {lo:Nat}{m:Mem}{p:Nat}{rid:Int}{lv fv:d9}{D:List By}{L:List FR}(h:eD lo m p rid lv fv D L):∀o n e,fv≠.slice p o n e:=λo n e a=>by obtain⟨_,_,k,t,q⟩:=iE h.facts (.inr a);have:=nK (b:=3) q h.at_;omega
theorem alo {lo:Nat}{m:Mem}{p:Nat}{rid:Int}{lv fv:d9}{D:List By}{L:List FR}(h:eD lo m p rid lv fv D L)(H:m.Ok){x:d9}{xs:List By}(K:dB m x (strs xs))(u:xs≠[])(hb:D.length+xs.length<=100000)(n C:Nat):
  ∃m' lv',l8 KW C (n+1) (.func 99) [.ptr p 0,x] m=some [⟨.tuple [],m'⟩]∧eD lo m' p rid lv' fv (D++xs) L∧FrR m m' p lv fv∧lY m.nx m' lv' (D++xs):=by
 obtain⟨q,M1,E,d,s,k,j,b⟩:=aiU (bytes:=16) H h.lim h.ND h.list K u hb ⟨by omega,by omega⟩;have B:M1.get p=some (j5 [lv,iV rid,fv]):=(b p h.pn h.ayi).trans h.at_;have y:=aP h.pn k;have l:A8 q=true:=d.A8;obtain⟨N,M,z,X⟩:=qO (off:=0) s y (by rw [j];exact nM h.lim h.lo_) B (by simp) (v:=q) l;have z:N.get p=some (j5 [q,iV rid,fv]):=z;have f:lY m.nx N q (D++xs):=NG d X.nx λi o n e g a=>X.old i g (by have:=(wQ d a).1;have:=h.pn;omega);have c:FrR m N p lv fv:=⟨nM k X.nx,by rw [X.lim,j],X.ok,λi g t F _=>(X.old i (by omega) t).trans (b i g F)⟩;have G:jD lo 32 N fv (cellsOf L):=AL h.facts c.nx λi g a=>by refine (X.old i (by omega) ?_).trans (b i g λo n e A=>?_);intro e;subst e;rcases a with⟨o,n,e,a⟩ | ⟨o,n,e,a⟩;exact h.ayj _ _ _ a;exact Vs h _ _ _ a;rcases a with⟨o,n,e,a⟩ | ⟨o,n,e,a⟩;exact h.abX A (.inl a);exact h.abX A (.inr a)
 refine⟨N,q,?_,⟨z,h.lo_,aP h.pn c.nx,by rw [c.lim];exact h.lim,AO f h.ND,G,λr J=>h.fct c (h.w r J),h.sh⟩,c,f⟩;have I:=h.at_;rw [enter (sf:=f99) rfl rfl];simp [f99,o9,w9,A8,I,E,B,M,l,d.aY,d.cells]
theorem SE {rs:Nat}{m:Mem}{v:d9}{l:List (List d9)}(h:qw m rs v l)(n:Nat):bS (n+1) v v=true:=by have b:∀k,Nat.beq k k=true:=λk=>acK k;rcases h with⟨rfl,_⟩ | ⟨id,o,⟨c,rfl,_⟩ | rfl,_⟩;rfl;show bi (Nat.beq id id) (bi (Nat.beq (o*rs) (o*rs)) (bi (Nat.beq l.length l.length) (Nat.beq c c) false) false) false=true;rw [b,b,b,b];rfl;show bi (Nat.beq id id) (bi (Nat.beq (o*rs) (o*rs)) (bi (Nat.beq l.length l.length) (Nat.beq rs rs) false) false) false=true;rw [b,b,b,b];rfl
theorem Cp.cn {r c:FR}(h:Cp r c):c.cn=r.cn:=by obtain⟨d,g,i,e⟩:=h.f;unfold FR.cn;rw [e,h.a,h.b,h.l]
theorem alp {lo:Nat}{m:Mem}{p:Nat}{rid:Int}{lv fv:d9}{D:List By}{L:List FR}(h:eD lo m p rid lv fv D L)(V:m.Ok){r:FR}(H:Z4 m r)(hs:r.short)(c:r.valid=true)(hL:L.length<=1000)(hD:D.length<=50000)(n O:Nat)(a6:20001<=O):
  ∃m' lv' fv' r',l8 KW O (n+6) (.func 56) [.ptr p 0,.agg r.f.cells] m=some [⟨.tuple [],m'⟩]∧eD lo m' p rid lv' fv' (D++oJ ((L.length+1:Nat):Int) (D8 r)) (L ++ [r'])∧FrR m m' p lv fv∧Cp r r'∧
   lY m.nx m' lv' (D++oJ ((L.length+1:Nat):Int) (D8 r))∧jD m.nx 32 m' fv' (cellsOf (L ++ [r'])):=by
 have hl:=h.Aa;have ab:∀{M:Mem},Ext m M->M.lim<=M.nx:=λE=>by rw [E.lim];exact nM hl E.nx
 have E0:=r9 V [j5 r.f.cells,Z6.void];have ho:=H.one;obtain⟨r',M1,g1,E1,g,P⟩:=abK E0.ok (ab E0) (H.ext E0) hs (n+3) O (by omega);have E01:=E0.trans E1;have n1:=E1.nx;have q1:M1.get m.nx=some (j5 r.f.cells):=by rw [E1.old _ (by simp),j6 V];rfl
 have q2:M1.get (m.nx+1)=some .void:=by rw [E1.old _ (by simp),l5 V];rfl
 have q3:=(E01.old p h.pn).trans h.at_;have B:m.nx+1<M1.nx:=by simp at n1;omega
 obtain⟨M2,q⟩:∃M,M=M1.set (m.nx+1) (j5 r'.f.cells):=⟨_,rfl⟩;have E02:Ext m M2:=by rw [q];exact E01.set B (by omega) _
 have Q:M2.get (m.nx+1)=some (j5 r'.f.cells):=by rw [q,Mem.U6 E01.ok B,if_pos rfl]
 have U:∀i,i<M1.nx->i≠m.nx+1->M2.get i=M1.get i:=λi _ G=>by rw [q,Mem.U6 E01.ok B,if_neg G]
 have F:M2.nx=M1.nx:=by rw [q];simp
 have hk:∀{v:d9} {xs:List Int},Y9 M1 v xs->Y9 M2 v xs:=λc=>by rcases c with c | ⟨id,j,J,h3⟩;exact .inl c;refine .inr ⟨id,j,by rw [F];exact J,?_⟩;rcases h3 with h3 | ⟨n,rows,K,h5⟩;exact .inl h3;exact .inr ⟨n,rows,(U id.1 J (λe=>by rw [e,q2] at K;cases K)).trans K,h5⟩
 have a7:Z4 M2 r':=⟨hk g.a,hk g.b,hk g.l,g.ga,g.gb,g.nb⟩;have R2:=h.ext E02;have a9:qw M2 32 (.slice (m.nx+1) 0 1 1) [r'.f.cells]:=.inr ⟨m.nx+1,0,.inl ⟨1,by simp,by simp⟩,by rw [F];exact B,.inr ⟨1,.nd .e r'.f.cells .e,by
  rw [Q];show some (Z6.cells (len' r'.f.cells) 1 (.nd .e r'.f.cells .e))=_;rw [K7,G6.len],by simp,λr H=>by simp at H;rw [H,G6.len],λi y=>by
  obtain rfl:i=0:=by simpa using y
  rfl⟩⟩
 have S:=g.one;obtain⟨fv',M3,ga,d,F3,t⟩:=OG (bytes:=304) E02.ok R2.lim R2.ND (by omega) R2.facts a9 (by rw [G6.len]) S (by simp [cellsOf];omega) ⟨by omega,by omega⟩;have a5:cellsOf L ++ [r'.f.cells]=cellsOf (L ++ [r']):=by simp [cellsOf]
 rw [a5] at d;have n3:M2.nx<=M3.nx:=F3.nx;have l3:M3.lim=m.lim:=F3.lim.trans E02.lim;have q4:M3.get p=some (j5 [lv,iV rid,fv]):=(t p R2.pn h.ayj).trans R2.at_;have T:=d.slice.A8;obtain⟨N,s1,Z,X⟩:=qO (off:=2) F3.ok (aP R2.pn n3) (by rw [l3];exact nM h.lim h.lo_) q4 (by simp) (v:=fv') T;have Z:N.get p=some (j5 [lv,iV rid,fv']):=Z;have nN:M2.nx<=N.nx:=nM n3 X.nx;have k:FrR M2 N p lv fv:=⟨nN,by rw [X.lim,F3.lim],X.ok,λi y A _ J=>(X.old i (by omega) A).trans (t i y J)⟩;have x:jD M2.nx 32 N fv' (cellsOf (L ++ [r'])):=AL d X.nx λi y c=>X.old i y λe=>by subst e;have ac:=R2.pn;rcases c with⟨o,n,e,c⟩ | ⟨o,n,e,c⟩;have:=(iE d (.inl c)).1;omega;have:=(iE d (.inr c)).1;omega
 have a3:lY lo N lv D:=NG R2.list nN λi o n e y c=>(X.old i (by omega) (λe=>by subst e;exact h.ayi _ _ _ c)).trans (t i y λo' n' e' hf=>h.abX c (.inl hf));have ae:=E02.nx;have R3:eD lo N p rid lv fv' D (L ++ [r']):=⟨Z,h.lo_,aP R2.pn nN,by rw [X.lim,l3];exact h.lim,a3,x.down (by rw [F];exact nM h.ND (by omega)),λs I=>by
   rcases O5.1 I with j | j;exact R2.fct k (R2.w s j);simp at j;rw [j];exact R2.fct k a7,λs I=>by
   rcases O5.1 I with j | j;exact h.sh s j;simp at j;rw [j];exact P.short hs⟩
 have q6:N.get m.nx=some (j5 r.f.cells):=by
  have G:m.nx≠p:=by have:=h.pn;omega
  rw [k.old m.nx (by rw [F];omega) G (λo n e c=>by have:=(wQ h.list c).2.1;omega) (λo n e c=>by have:=(iE h.facts (.inl c)).2.1;omega),U _ (by omega) (by omega)];exact q1
 have a8:Z4 N r:=R2.fct k (H.ext E02);obtain⟨v4,M4,g4,E4,K⟩:=abq X.ok (R3.Aa) a8 c ((L.length+1:Nat):Int) (by unfold Sm;omega) n O a6;have R4:=R3.ext E4;have ad:(oJ ((L.length+1:Nat):Int) (D8 r)).length<=10000:=by have:=kF _ (D8 r) (aA _);have:=jK c;rw [iq];omega
 obtain⟨M5,lv',g5,R5,F5,a2⟩:=alo R4 E4.ok K (by simp [oJ]) (by omega) (n+4) O;have n4:=E4.nx;have a0:FrR m M5 p lv fv:=⟨by have:=F5.nx;omega,by rw [F5.lim,E4.lim,X.lim,l3],F5.ok,λi y A j J=>by
  rw [F5.old i (by omega) A j (λo n e c=>by have:=(iE x (.inl c)).1;omega),E4.old i (by omega),k.old i (by omega) A j J];exact E02.old i y⟩
 have a1:jD m.nx 32 M5 fv' (cellsOf (L ++ [r'])):=by refine afT R5.facts λi o n e c=>?_;have:=(iE x c).1;omega
 refine⟨M5,lv',fv',r',?_,R5,a0,P,AO a2 (by omega),a1⟩;have hp:=h.at_;have R:xE fv' (some (d9.int .i64 0)) (λ_ _ n _=>some (iV n)) (λ_ _ n _=>some (iV n))=some (iN (L.length+1)):=by have:=(pE x).len;simpa using this
 have a4:∀z Y W u C,List.length z=32->I8 32 1 z Y W u C=ob (lay Y W u z) λcells=>if cells.length=32 then some (.slice C 0 1 1,some (j5 cells)) else none:=λz Y W u C h=>J3 32 z Y W u C h
 rw [show ((L.length+1:Nat):Int)=(L.length:Int)+1 from rfl] at g4;have q0:(ext m [j5 r.f.cells,Z6.void]).get p=some (j5 [lv,iV rid,fv]):=(E0.old p h.pn).trans h.at_;have aa:=SE h.facts.slice 99;rw [enter (sf:=f56) rfl rfl];simp [f56,o9,w9,A8,ku V hl,q0,aa,g1,q1,q2,q3,a4,← q,ga,d.slice.aY,d.slice.cells,s1,q4,Z,q6,S,T,R,g4,g5,H.one,G6.len,K.aY]
inductive Reach:List FR->List By->List FR->List By->Prop
 | refl {L:List FR} {ws:List By}:Reach L ws L ws
 | step {L L':List FR} {ws ws':List By} {r:FR} (h:Rec (L.length+1) ws r) (hf:sK L r=true) (k:Reach (L ++ [r]) (ws.drop (U5 r)) L' ws'):Reach L ws L' ws'
theorem Reach.drop {L L':List FR}{ws a:List By}(h:Reach L ws L' a):∃j,a=ws.drop j:=by
 induction h with
 | refl=>exact⟨0,rfl⟩
 | step _ _ _ ih=>obtain⟨j,e⟩:=ih;exact⟨_,by rw [e,ajK]⟩
structure Yw (v:d9)(L:List FR)(ws:List By):Prop where
 w:∀w∈ws,w.length<=1000
 z:∀L' ws',Reach L ws L' ws'->Kn v∨∀k,rX ws'=some k->k≠0
 j:∀L' ws',Reach L ws L' ws'->∀k,rX ws'=some k->((ws'.drop 1).take k).flatten.length<=16000
theorem Yw.drop {v d:d9}{L:List FR}{ws:List By}(h:Yw v L ws){r:FR}(c:Rec (L.length+1) ws r)(b:sK L r=true)(e:Kn v->Kn d):Yw d (L ++ [r]) (ws.drop (U5 r)):=
 ⟨λw f=>h.w w (acQ f),λL' a k=>(h.z L' a (.step c b k)).imp e λz=>z,λL' a k=>h.j L' a (.step c b k)⟩
def Dsk (lo:Nat)(m:Mem)(v:d9)(ws:List By):Prop:=(ws=[]∧DkE m v [])∨(xB m v ws∧Vp lo v)
theorem Dsk.e {lo:Nat}{m:Mem}{v:d9}{ws:List By}(h:Dsk lo m v ws):DkE m v ws:=by rcases h with⟨rfl,h⟩ | ⟨h,_⟩;exact h;exact .inl h
theorem afU {rid:Int}{p lo:Nat}(n G:Nat)(V:20001<=G):∀(k:Nat) (ws:List By),ws.length<k->ws.length<=10000->∀(N:Nat),k<N->∀(M:Mem) (dv lv fv:d9) (L:List FR),eD lo M p rid lv fv (fU 1 L) L->M.Ok->Dsk lo M dv ws->Yw dv L ws->Grown L->L.length<=200->(fU 1 L).length+ws.length<=20000->
  ∀(a1 a3 a5 a6 a7 a8 a9:d9),∃b2 b3 b5 b6 b7 b8 M' lv' fv' L',J5 (λenv m k=>Kg (l8 KW G (n+14)) G none env m k) N (xC (iV rid) a1 dv a3 (.ptr p 0) a5 a6 a7 a8 a9 iZ) M []=some [⟨.ret,(xC (iV rid) a1 b2 b3 (.ptr p 0) b5 b6 b7 b8 (.ptr p 0) iZ),M',[],none⟩]∧
   M'.Ok∧eD lo M' p rid lv' fv' (fU 1 L') L'∧WZ L ws L'∧Grown L'∧L'.length<=201∧Fr lo lo M M':=by
 intro k;induction k with
 | zero=>intro ws hk;omega
 | succ k ih=>
  intro ws hk hw N hN M dv lv fv L R hM hd ok hg hL hD a1 a3 a5 a6 a7 a8 a9;obtain⟨N,rfl⟩:∃j,N=j+1:=⟨N-1,by omega⟩;have hm:=hM;have hl:=R.Aa;have hp:=R.at_;have s:=(pE R.facts).len;obtain⟨q,Z⟩:∃q,q=L.length+1:=⟨_,rfl⟩;have t:=ak Z (by omega);rcases alk hM hl hd.e hw ok.w (ok.z L _ .refl) (ok.j L _ .refl) q (by omega) n G V with⟨r,M1,g1,E1,hr,hs,hrec⟩ | ⟨M1,g1,E1,hno⟩
  ·have d:=E1.ok;have R1:=R.ext E1;have u:=R1.Aa;have E2:=r9 d [j5 r.f.cells];have R2:=R1.ext E2;have ho:=hr.one;obtain⟨M3,O,E3⟩:=ali (r:=r) E2.ok R2.Aa R2.pn R2.at_ (pE R2.facts) R2.good (by omega) (n+12) G (by omega);have R3:=R2.ext E3;have q3:M3.get M1.nx=some (j5 r.f.cells):=by rw [E3.old _ (by simp),j6 d];rfl
   cases hf:sK L r with
   | false=>
    rw [hf] at O;refine⟨dv,a3,tV,.ptr M1.nx 0,tV,(iN ((U5 r))),M3,lv,fv,L,?_,E3.ok,R3,.stop λr' A=>?_,hg,by omega,((E1.trans E2).trans E3).fr R.ND⟩
    rotate_left
    rw [← Z] at A;rw [wP rfl (hrec.2.uniq A.2).symm];exact hf;rw [l9];simp [Kg,o9,w9,A8,ku d u,hp,s,t,g1,ho,O,G6.len]
   | true=>
    rw [hf] at O;have ac:=(hr.ext E2).ext E3;obtain⟨M4,a2,K,r',g4,R4,F4,g,aa,ag⟩:=alp R3 E3.ok ac hs hrec.2.valid (by omega) (by omega) (n+8) G V;have v:U5 r<=ws.length:=by obtain⟨af,e⟩:=hrec.2.pre;rw [e,acp,iq];unfold U5;omega
    have ah:1<=U5 r:=(by unfold U5;omega);have E:ws≠[]:=λe=>(by rw [e] at v;simp at v;omega);have y:=Sy g.cn;have S:fU 1 L++oJ ((L.length+1:Nat):Int) (D8 r)=fU 1 (L ++ [r']):=by rw [CS,y,ayh 1]
    rw [S] at R4 aa;have E13:=(E1.trans E2).trans E3;have dk:xB M4 dv ws∧Vp lo dv:=by
     rcases hd with⟨e,_⟩ | ⟨hd,hlo⟩;exact absurd e E;refine⟨(hd.ext E13).keep F4.nx λid ab hv=>?_,hlo⟩;have ae:id<lo:=by rcases hv with⟨o,l,c,e⟩ | ⟨o,l,c,e⟩;exact hlo.1 _ _ _ _ e;exact hlo.2 _ _ _ _ e
     refine F4.old id ab (by have:=R.lo_;omega) (λo n e t=>?_) (λo n e t=>?_);have:=(wQ R.list t).1;omega;have:=(iE R.facts (.inl t)).1;omega
    obtain⟨I,b,cl,hb,Y⟩:=Xc F4.ok dk.1 (U5 r) E v;have H:=λ(x a:OF) (ls:List d9) (env:T d9) (hx:x ls env=dv) (ha:a ls env=(iN ((U5 r))))=>(abU hx ha M4.nx).trans cl;have W:Grown (L ++ [r']):=by refine .snoc hg ?_ ?_;have:r'.cn.valid=r.cn.valid:=(by rw [g.cn]);rw [lG,lG] at this;rw [this];exact hrec.2.valid;rw [wP rfl g.cn];exact hf
    have Q:(L ++ [r']).length<=200:=by have:=hrec.1;simp;omega
    have ad:(ws.drop (U5 r)).length=ws.length-U5 r:=(by simp);have P:(fU 1 (L ++ [r'])).length+(ws.drop (U5 r)).length<=20000:=by rw [← S,acp,iq,ad];have:U5 r=(chunks (D8 r)).length+1:=rfl;omega
    have a0:Rec (L.length+1) ws r':=⟨by have:=hrec.1;omega,by
      have D:=hrec.2;rw [Z] at D;exact⟨by
       have:r'.cn.valid=r.cn.valid:=(by rw [g.cn]);rw [lG,lG] at this;rw [this];exact D.valid,by rw [y];exact D.pre⟩⟩
    have U:sK L r'=true:=(by rw [wP rfl g.cn];exact hf);have B:U5 r'=U5 r:=(by unfold U5;rw [y]);have a4:∀{X:List FR},WZ (L ++ [r']) (ws.drop (U5 r)) X->WZ L ws X:=λ{X} h=>by
     have A:Rec (L.length+1) ws r':=⟨by have:=hrec.1;omega,by
      have D:=hrec.2;rw [Z] at D;exact⟨by
       have:r'.cn.valid=r.cn.valid:=(by rw [g.cn]);rw [lG,lG] at this;rw [this];exact D.valid,by rw [y];exact D.pre⟩⟩
     have e:U5 r'=U5 r:=(by unfold U5;rw [y]);exact .step A (by rw [wP rfl g.cn];exact hf) (by rw [e];exact h)
    have J:Fr lo lo M M4:=(E13.fr R.ND).trans ⟨F4.ok,F4.nx,F4.lim,λi hi E=>F4.old i (aP hi R3.ND) (by have:=R.lo_;omega) (λo n e t=>by have:=(wQ R.list t).1;omega) (λo n e t=>by have:=(iE R.facts (.inl t)).1;omega)⟩;rcases hb with⟨rfl,hdk2,hlo2⟩ | ⟨i,rfl,hde,hnil⟩;obtain⟨b2,b3,b5,b6,b7,b8,M5,F,C,L5,g5,z1,z2,z3,z4,z5,z6⟩:=ih (ws.drop (U5 r)) (by omega) (by omega) N (by omega) M4 I a2 K (L ++ [r']) R4 F4.ok (.inr ⟨hdk2,hlo2 lo dk.2⟩) (B▸ok.drop a0 U Y) W Q P a1 a3 tV (.ptr M1.nx 0) fV (iN ((U5 r))) a9;refine⟨b2,b3,b5,b6,b7,b8,M5,F,C,L5,?_,z1,z2,a4 z3,z4,z5,J.trans z6⟩;rw [l9,← g5];simp [Kg,o9,w9,A8,ku d u,hp,s,t,g1,ho,O,q3,g4,H,G6.len];have E5:Ext M4 (M4.new (.tail i)):=(Ext.refl F4.ok).new _;obtain⟨b2,b3,b5,b6,b7,b8,M5,F,C,L5,g5,z1,z2,z3,z4,z5,z6⟩:=ih (ws.drop (U5 r)) (by omega) (by omega) N (by omega) (M4.new (.tail i)) I a2 K (L ++ [r']) (R4.ext E5) E5.ok (.inl ⟨hnil,by rw [hnil] at hde;exact hde⟩) (B▸ok.drop a0 U Y) W Q P a1 a3 tV (.ptr M1.nx 0) fV (iN ((U5 r))) a9;refine⟨b2,b3,b5,b6,b7,b8,M5,F,C,L5,?_,z1,z2,a4 z3,z4,z5,(J.trans (E5.fr R4.ND)).trans z6⟩;rw [l9,← g5];simp [Kg,o9,w9,A8,ku d u,hp,s,t,g1,ho,O,q3,g4,H,G6.len]
  ·have d:=E1.ok;have u:=(R.ext E1).Aa;have E2:=r9 d [j5 zr];refine⟨dv,a3,fV,.ptr M1.nx 0,tV,iZ,ext M1 [j5 zr],lv,fv,L,?_,E2.ok,(R.ext E1).ext E2,.stop λr hr=>absurd (Z▸hr) (hno r),hg,by omega,(E1.trans E2).fr R.ND⟩
   rotate_left
   rw [l9];simp [Kg,o9,w9,A8,ku d u,hp,s,t,g1]
theorem alq {m:Mem}(o:m.Ok)(t:m.lim<=m.nx){b:d9}{ws:List By}(r:Dsk m.nx m b ws)(ok:ws.length<=4000->Yw b [] ws)(id:Int)(n d:Nat)(l:20001<=d):
  (¬ (1<=id∧id<=6)∧l8 KW d (n+15) (.func 21) [iV id,b] m=some [⟨.tuple [.nilPtr,iV 1],m⟩])∨
  ((1<=id∧id<=6)∧4000<ws.length∧l8 KW d (n+15) (.func 21) [iV id,b] m=some [⟨.tuple [.nilPtr,iV 2],m⟩])∨
  ((1<=id∧id<=6)∧ws.length<=4000∧∃m' lv fv L,l8 KW d (n+15) (.func 21) [iV id,b] m=some [⟨.tuple [.ptr m.nx 0,iZ],m'⟩]∧Ext m m'∧eD m.nx m' m.nx id lv fv (fU 1 L) L∧WZ [] ws L∧Grown L∧L.length<=201):=by
 have a:=r.e.vs.len;rw [G8] at a;have c:=dU (n+13) d id 1 6 m;rw [enter (sf:=f21) rfl rfl];by_cases h1:1<=id∧id<=6;have j:(decide (1<=id)&&decide (id<=6))=true:=by simp [h1]
 rw [j] at c;by_cases h3:4000<ws.length;have f:(4000:Int)<(ws.length:Int):=by omega
 refine .inr (.inl ⟨h1,h3,?_⟩);simp [f21,o9,w9,A8,c,a,h3,f];have f:¬ (4000:Int)<(ws.length:Int):=by omega
 have E0:=r9 o [j5 [nS,iV id,nS]];have R0:eD m.nx (ext m [j5 [nS,iV id,nS]]) m.nx id nS nS (fU 1 []) []:=
  ⟨by rw [j6 o];rfl,aA _,by simp,t,.inl ⟨rfl,rfl⟩,.inl ⟨rfl,rfl⟩,by simp,by simp⟩
 have k:Dsk m.nx (ext m [j5 [nS,iV id,nS]]) b ws:=by rcases r with⟨e,h⟩ | ⟨h,h'⟩;exact .inl ⟨e,h.ext E0⟩;exact .inr ⟨h.ext E0,h'⟩
 obtain⟨z,A,B,C,D,E,M',lv,fv,L,g,u,v,w,x,y,q⟩:=afU (rid:=id) (p:=m.nx) (lo:=m.nx) n d l (ws.length+1) ws (by omega) (by omega) d (by omega) _ b nS nS [] R0 E0.ok k (ok (by omega)) .nil (by simp) (by simp [fU];omega) fV fV uV uV uV uV (.nilPtr);refine .inr (.inr ⟨h1,by omega,M',lv,fv,L,?_,⟨u,nM E0.nx q.nx,q.lim.trans E0.lim,λi s=>(q.old i s (by omega)).trans (E0.old i s)⟩,v,w,x,y⟩);simp [f21,o9,w9,A8,ku o t,c,a,h3,f,g];have j:(decide (1<=id)&&decide (id<=6))=false:=by rw [aA5,decide_eq_false_iff_not,decide_eq_false_iff_not];omega
 rw [j] at c;refine .inl ⟨h1,?_⟩;simp [f21,o9,w9,A8,c]
theorem abZ {m:Mem}(i:m.Ok)(o:m.lim<=m.nx)(s:By)(hs:2000<s.length)(d:s.length<=10000)(n f:Nat)(x:50001<=f):
  ∃m',l8 KW f (n+19) (.func 12) [.str s] m=some [⟨.tuple [.agg zr,fV],m'⟩]∧Ext m m'∧∀r,¬ kV s r:=by
 have a:(2000:Int)<(s.length:Int):=by omega
 have E0:=r9 i [j5 zr];have j:(ext m [j5 zr]).get m.nx=some (j5 zr):=by rw [j6 i];rfl
 obtain⟨z,e,g,E1,v⟩:=Gj E0.ok (by simp;omega) s d 10 (n+17) f (by omega);have g:l8 KW f (n+18) (.func 42) [.str s,.int .u8 10] (ext m [j5 zr])=some [⟨z,e⟩]:=g;have E01:=E0.trans E1;have u:e.lim<=e.nx:=by rw [E01.lim];have:=E01.nx;omega
 have y:m.nx+1<=e.nx:=by have:=E1.nx;simpa using this
 have b:=v.vs.len;rw [G8] at b;have c:=λ{β:Type} (p:d9->β) q=>v.vs.aY p q;have k:e.get m.nx=some (j5 zr):=by rw [E1.old _ (by simp)];exact j
 obtain⟨N,w,h,X⟩:=aK (off:=0) (vs:=zr) E1.ok (by omega) (by rw [E01.lim];exact o) k (by simp) (by simp) rfl;have h:N.get m.nx=some (j5 zr):=by rw [h];simp
 refine⟨N,?_,jr E01 X (aA _),λr t=>by have:=jK t.1;rw [t.2] at this;omega⟩;rw [enter (sf:=f12) rfl rfl];by_cases h3:((splitB 10 s).length:Int)=3;simp (maxSteps:=3000000) [f12,dI,fB,gD,bR,cu,aX,bD i o,fJ,aC,bC,aB,A8,-gK,g,b,c,h3,a,w,h];have l:¬ (splitB 10 s).length=3:=by omega
 simp (maxSteps:=3000000) [f12,dI,fB,gD,bR,cu,aX,bD i o,fJ,aC,bC,aB,A8,-gK,g,b,c,h3,l,a,w,h]
theorem afV {m:Mem}(d:m.Ok)(c:m.lim<=m.nx)(s:By)(hs:s.length<=10000)(n a:Nat)(b:50001<=a):
  (∃r m',l8 KW a (n+19) (.func 12) [.str s] m=some [⟨.tuple [.agg r.f.cells,tV],m'⟩]∧Ext m m'∧Z4 m' r∧r.short∧kV s r)∨
  (∃m',l8 KW a (n+19) (.func 12) [.str s] m=some [⟨.tuple [.agg zr,fV],m'⟩]∧Ext m m'∧∀r,¬ kV s r):=by
 by_cases h:s.length<=2000;rcases al7 d c s h n a b with⟨r,m',h1,h2,h3,h4,h5,h6,h7⟩ | h;exact .inl ⟨r,m',h1,h2,h3,⟨h4,h5,h6⟩,h7⟩;exact .inr h;exact .inr (abZ d c s (by omega) hs n a b)
theorem Gp:∀(n:Nat) (s:By),s.length<=n->64*(chunks s).length<=s.length+63
 | 0,s,h=>by obtain rfl:=abm.1 (show s.length=0 by omega);simp [fM]
 | n+1,s,h=>by by_cases hs:s=[];subst hs;simp [fM];have hp:=abY.2 hs;rw [mM hs];have:=Gp n (s.drop 64) (by simp;omega);by_cases h2:s.length<=64;have e:s.drop 64=[]:=zu h2;rw [e] at this ⊢;simp [fM];omega;simp at this ⊢;omega
theorem Yx (r:FR):D8 r≠[]:=by unfold D8;intro e;have:=congrArg List.length e;simp at this
theorem Vt {s:By}(h:s≠[]):1<=(chunks s).length:=by rw [mM h];simp
def SF (d:By):Int:=match splitB 32 d with
 | [_,_,w,_,_]=>kE w
 | _=>0
theorem Xd {a:Int}{d:By}{t:List By}{r:FR}(h:nJ a (d::t) r):SF d=((chunks (D8 r)).length:Int)∧1<=(chunks (D8 r)).length∧(chunks (D8 r)).length<=40∧(chunks (D8 r)).length<(d::t).length:=by
 have g:=jK h.valid;have c:=Gp _ (D8 r) (aA _);obtain⟨b,e⟩:=h.pre;have f:d=D7 jq [a,((chunks (D8 r)).length:Int),((D8 r).length:Int),(rU (D8 r):Int)]:=by unfold oJ at e;exact (al5 e).1
 refine⟨?_,Vt (Yx r),by omega,?_⟩;unfold SF;rw [f,AB];simp only [bf,adT,aCH];exact Nn (by omega) (by omega);rw [e,acp,iq];omega
theorem ac0 {m:Mem}{f:d9}{ws:List By}(G:dB m f (strs ws))(x:∀w∈ws,w.length<=250)(k:Nat)(K:k<ws.length)(t:k<=40)(y z:Nat)(A n o:d9)(cf:H7)(B:Nat):∀(j i:Nat),i+j=k->∀(N:Nat),j<N->∀(a8:d9),
  J5 (λenv m k=>Rq cf B none env m k) N (Pb f fV (.ptr z 0) A n (iN k) o (iN ((i+1))) a8 (.str ((ws.drop 1).take i).flatten) uV uV (iN y) uV uV uV uV uV uV iZ) m []=some [⟨.exit 0,(Pb f fV (.ptr z 0) A n (iN k) o (iN ((k+1))) fV (.str ((ws.drop 1).take k).flatten) uV uV (iN y) uV uV uV uV uV uV iZ),m,[],none⟩]:=by
 intro j;induction j with
 | zero=>
  intro i F N D a8;obtain⟨N,rfl⟩:∃k,N=k+1:=⟨N-1,by omega⟩;obtain rfl:i=k:=by omega
  have h:¬ (i:Int)+1<=(i:Int):=by omega
  rw [l9];simp [Rq,h]
 | succ j ih=>
  intro i F N D a8;obtain⟨N,rfl⟩:∃k,N=k+1:=⟨N-1,by omega⟩;have h:(i:Int)+1<=(k:Int):=by omega
  have c:i+1<ws.length:=by omega
  obtain⟨id,I,p,_,r⟩:=G.at (i:=i+1) (by rw [G8];exact c);have d:(strs ws)[i+1]'(by rw [G8];exact c)=.str ws[i+1]:=by simp [strs]
  rw [d] at r;simp at p;have E:((ws.drop 1).take i).flatten.length<=10000:=by
   have:=EA (b:=250) (ws:=(ws.drop 1).take i) λw l=>x w (acQ (acF l));have C:((ws.drop 1).take i).length<=40:=by simp;omega
   have J:=U0 250 C;omega
  have H:=x ws[i+1] (M8 c);have v:eH ((ws.drop 1).take i).flatten ws[i+1]=some (.str ((ws.drop 1).take (i+1)).flatten):=by
   have e:(ws.drop 1).take (i+1)=(ws.drop 1).take i ++ [ws[i+1]]:=by rw [O4 (by simp;omega)];simp [ayh 1 i]
   rw [e,List.flatten_append];have:=V9 (a:=((ws.drop 1).take i).flatten) (b:=ws[i+1]) (by omega);simpa using this
  have g:=ih (i+1) (by omega) N (by omega) tV;obtain⟨q,u⟩:∃q,q=i+1+1:=⟨_,rfl⟩;have s:=ak (a:=i+1) u (by omega);rw [← u] at g;rw [l9,← g];simp at s v;simp [Rq,h,p,r,v,s]
theorem ac1 {m M:Mem}{u c:d9}{ws b:List By}(Q:dB m u (strs ws))(H:dB m c (strs b))(X:b.length<=ws.length)(hb:b.length<=10000)(D w:Nat)(O:∀{β:Type}(k:Mem->Option β),storeAt m w 0 zr k=k M)(E x C y z A B d e f n:d9)(cf:H7)(G:Nat):∀(j i:Nat),i+j=b.length->∀(N:Nat),j<N->∀(a17 a18:d9),
  (b.drop i=(ws.take b.length).drop i∧∃(c18:d9),J5 (λenv m k=>BG cf G none env m k) N (Pb u fV (.ptr w 0) E x C y z A B d e (iN D) f c n (iN i) a17 a18 iZ) m []=some [⟨.exit 2,(Pb u fV (.ptr w 0) E x C y z A B d e (iN D) f c n (iN (b.length)) fV c18 iZ),m,[],none⟩])∨
  (b.drop i≠(ws.take b.length).drop i∧∃(c16 c17 c18:d9),J5 (λenv m k=>BG cf G none env m k) N (Pb u fV (.ptr w 0) E x C y z A B d e (iN D) f c n (iN i) a17 a18 iZ) m []=some [⟨.ret,(Pb u fV (.ptr w 0) E x C y z A B d e (iN D) f c n c16 c17 c18 iZ),M,[],none⟩]):=by
 intro j;induction j with
 | zero=>
  intro i W N U a17 a18;obtain⟨N,rfl⟩:∃k,N=k+1:=⟨N-1,by omega⟩;obtain rfl:i=b.length:=by omega
  have a:=H.len;rw [G8] at a;refine .inl ⟨by rw [zu (aA _),zu (by simp;omega)],a18,?_⟩;rw [l9];simp [BG,a]
 | succ j ih=>
  intro i W N U a17 a18;obtain⟨N,rfl⟩:∃k,N=k+1:=⟨N-1,by omega⟩;have r:i<b.length:=by omega
  have s:i<ws.length:=by omega
  have a:=H.len;rw [G8] at a;obtain⟨id,o,I,_,J⟩:=H.at (i:=i) (by rw [G8];exact r);have F:(strs b)[i]'(by rw [G8];exact r)=.str b[i]:=by simp [strs]
  rw [F] at J;simp at I;obtain⟨Y,Z,K,_,L⟩:=Q.at (i:=i) (by rw [G8];exact s);have v:(strs ws)[i]'(by rw [G8];exact s)=.str ws[i]:=by simp [strs]
  rw [v] at L;simp at K;have T:=λ{β:Type} (p:d9->β) q=>Q.aY p q;have S:=λ{β:Type} (p:d9->β) q=>H.aY p q;have P:decide ((i:Int)<(b.length:Int))=true:=decide_eq_true (by omega);rw [M0 r,M0 (l:=ws.take b.length) (by simp;omega),aCw];by_cases hq:b[i]=ws[i];have t:∀R:Option (List Out),J5 (λenv m k=>BG cf G none env m k) N (Pb u fV (.ptr w 0) E x C y z A B d e (iN D) f c n (iN ((i+1))) tV fV iZ) m []=R->J5 (λenv m k=>BG cf G none env m k) (N+1) (Pb u fV (.ptr w 0) E x C y z A B d e (iN D) f c n (iN i) a17 a18 iZ) m []=R:=λR V=>by rw [l9,← V];simp [BG,a,r,P,I,J,K,L,T,S,hq,Z7 (i:=i) (by omega)]
  rcases ih (i+1) (by omega) N (by omega) tV fV with⟨h1,c18,g⟩ | ⟨h1,c16,c17,c18,g⟩;exact .inl ⟨by rw [hq,h1],c18,t _ g⟩;exact .inr ⟨λh=>h1 (by injection h),c16,c17,c18,t _ g⟩;refine .inr ⟨λh=>hq (by injection h),(iN i),tV,tV,?_⟩;rw [l9];simp [BG,o9,w9,A8,a,r,P,I,J,K,L,T,S,hq,O]
theorem alr {m:Mem}{v:d9}{ws:List By}(I:m.Ok)(F:m.lim<=m.nx)(hv:dB m v (strs ws))(hb:ws.length<=10000)(hw:∀w∈ws,w.length<=250)(G:Nat)(aq:G<=1000)(n B:Nat)(ac:50001<=B):
  (∃r m',l8 KW B (n+20) (.func 57) [(iN G),v] m=some [⟨.tuple [.agg r.f.cells,(iN ((U5 r)))],m'⟩]∧Ext m m'∧Z4 m' r∧r.short∧nJ (G:Int) ws r)∨
  (∃m',l8 KW B (n+20) (.func 57) [(iN G),v] m=some [⟨.tuple [.agg zr,iZ],m'⟩]∧Ext m m'∧∀r,¬ nJ (G:Int) ws r):=by
 have l:=hv.len;rw [G8] at l;have E0:=r9 I [j5 zr];have g0:(ext m [j5 zr]).get m.nx=some (j5 zr):=by rw [j6 I];rfl
 have lim:∀{M:Mem},Ext m M->M.lim<=M.nx:=λE=>by rw [E.lim];exact nM F E.nx
 have j:∀{M:Mem},Ext (ext m [j5 zr]) M->∃N,(∀{β:Type} (k:Mem->Option β),storeAt M m.nx 0 zr k=k N)∧N.get m.nx=some (j5 zr)∧Ext m N:=λ{M} E=>by have hn:=E.nx;obtain⟨N,A,q,X⟩:=qP (vs:=zr) E.ok (by simp at hn;omega) (by rw [E.lim,E0.lim];exact F) ((E.old m.nx (by simp)).trans g0) rfl (by decide) rfl;exact⟨N,A,q,(E0.trans E).qp X (aA _)⟩
 rw [enter (sf:=f57) rfl rfl];cases ws with
 | nil=>refine .inr ⟨ext m [j5 zr],?_,E0,λr C=>?_⟩;simp [f57,bD I F,A8,l];obtain⟨t,e⟩:=C.pre;simp [oJ] at e
 | cons d t=>
  have s:¬ ((t.length:Int)+1=0):=by omega
  have ao:t.length+1<=10000:=by simpa using hb
  have ap:d.length<=250:=hw d (by simp);obtain⟨id,au,L,_,S⟩:=(hv.ext E0).at0 (x:=.str d) (xs:=strs t);simp at L;obtain⟨v1,M1,K,E1,P⟩:=Gj E0.ok (lim E0) d (by omega) 32 (n+18) B (by omega);have K:l8 KW B (n+19) (.func 42) [.str d,.int .u8 32] (ext m [j5 zr])=some [⟨v1,M1⟩]:=K;have J:=P.vs.len;rw [G8] at J;have y:=λ{β:Type} (p:d9->β) q=>P.vs.aY p q;have E01:=E0.trans E1;obtain⟨mk,Q⟩:∃mk,mk=SF d:=⟨_,rfl⟩;have g:(mk<1∨(t.length:Int)+1<=mk∨40<mk)->∀r,¬ nJ (G:Int) (d::t) r:=λh r C=>by obtain⟨P,Z,h3,h4⟩:=Xd C;rw [← Q] at P;simp at h4;omega
  by_cases h5:(splitB 32 d).length=5;obtain⟨w0,w1,w,w3,w4,hs⟩:∃w0 w1 w w3 w4,splitB 32 d=[w0,w1,w,w3,w4]:=by
   match h:splitB 32 d,h5 with
   | [a,b,c,d,e],_=>exact⟨a,b,c,d,e,rfl⟩
  have af:kE w=mk:=by rw [Q];unfold SF;rw [hs]
  rw [hs] at J P;simp at J;obtain⟨al,am,T,_,O⟩:=P.vs.at (i:=2) (by rw [G8];simp);have O:ld1 (M1.get al) am=some (.str w):=O;simp at T;have ar:w.length<=d.length:=pX 32 d w (by rw [hs];simp);have U:=UW w (by omega) (n+18) B (by omega) M1;rw [af] at U;by_cases hx0:mk<1;obtain⟨N,A,H,EN⟩:=j E1;refine .inr ⟨N,?_,EN,g (.inl hx0)⟩;simp [f57,bD I F,A8,l,s,L,S,K,y,J,T,O,U,hx0,A,H];by_cases hxl:(t.length:Int)+1<=mk;obtain⟨N,A,H,EN⟩:=j E1;refine .inr ⟨N,?_,EN,g (.inr (.inl hxl))⟩;simp [f57,bD I F,A8,l,s,L,S,K,y,J,T,O,U,hx0,hxl,A,H];by_cases hx4:40<mk;obtain⟨N,A,H,EN⟩:=j E1;refine .inr ⟨N,?_,EN,g (.inr (.inr hx4))⟩;simp [f57,bD I F,A8,l,s,L,S,K,y,J,T,O,U,hx0,hxl,hx4,A,H];obtain⟨k,rfl⟩:∃k:Nat,mk=(k:Int):=⟨mk.toNat,by omega⟩;have a5:k<=40:=by omega
  have ad:k<(d::t).length:=by simp;omega
  have ai:=hv.ext E01;have Y:=ac0 ai hw k ad a5 G m.nx v1 tV fV (l8 KW B (n+19)) B k 0 (by omega) B (by omega) uV;simp at Y;generalize hs3:((t).take k).flatten=s3 at Y;have a8:(((d::t).drop 1).take k).flatten=s3:=hs3;have a9:s3.length<=10000:=by
   rw [← hs3];have:=EA (b:=250) (ws:=t.take k) λw aj=>hw w (acr _ (acF aj));have Z:(t.take k).length<=40:=by simp;omega
   have h3:=U0 250 Z;omega
  have o:∀r,nJ (G:Int) (d::t) r->kV s3 r∧(chunks (D8 r)).length=k:=λr C=>by
   have h:=(Xd C).1;rw [← Q] at h;have h:k=(chunks (D8 r)).length:=by omega
   have hb:=Sv C;rw [← h] at hb;exact⟨⟨C.valid,by rw [← a8,← hb];rfl⟩,h.symm⟩
  obtain⟨q,hq⟩:∃q,q=k+1:=⟨_,rfl⟩;have e3:=ak hq (by omega);have a6:(k:Int)+1=(q:Int):=by omega
  have a0:lI (q:Int)=(q:Int):=Z8 (by omega) (by omega);have aa:=lim E01;have ae:=E01.ok;rcases afV ae aa s3 a9 n B ac with⟨r,M2,g3,E2,C,hsh,ht⟩ | ⟨M2,g3,E2,hno3⟩;have E02:=E01.trans E2;have z:=E02.ok;have u:=lim E02;have E3:=r9 z [j5 r.f.cells];have ho:=C.one;have E03:=E02.trans E3;have a7:=C.ext E3;obtain⟨av,M4,g4,E4,h4⟩:=abD E03.ok (lim E03) a7 ht.1 (G:Int) (by unfold Sm;omega) n B (by omega);have E04:=E03.trans E4;have X4:Ext (ext m [j5 zr]) M4:=E1.trans (E2.trans (E3.trans E4));have q4:M4.get M2.nx=some (j5 r.f.cells):=by rw [E4.old _ (by simp),j6 z];rfl
  have W:=λ{β:Type} (p:d9->β) q=>h4.aY p q;have V:=h4.len;rw [G8,iq] at V;obtain⟨N,A,H,EN⟩:=j X4;by_cases hck:(chunks (D8 r)).length=k;have ah:U5 r=q:=by unfold U5;omega
  have D:(oJ (G:Int) (D8 r)).length=q:=by rw [iq];omega
  rcases ac1 (M:=N) (hv.ext E04) h4 (by rw [D];simp;omega) (by rw [D];omega) G m.nx A v1 tV (iN k) fV (iN q) fV (.str s3) tV fV (.ptr M2.nx 0) fV (l8 KW B (n+19)) B (oJ (G:Int) (D8 r)).length 0 (by omega) B (by rw [D];omega) uV uV with⟨heq,c18,gd⟩ | ⟨hne,c16,c17,c18,gd⟩;rw [abR,abR,D] at heq;rw [D] at gd;have ag:=X4.nx;obtain⟨N2,s2,q2,X⟩:=qP (vs:=r.f.cells) X4.ok (by simp at ag;omega) (by rw [X4.lim,E0.lim];exact F) ((X4.old m.nx (by simp)).trans g0) (by rw [G6.len];rfl) (by rw [G6.len];omega) C.one;refine .inl ⟨r,N2,?_,(E0.trans X4).qp X (aA _),(a7.ext E4).keep (Gl rfl ((X4.old m.nx (by simp)).trans g0) X),hsh,NA ht.1 (by rw [heq,hq])⟩;rw [ah];clear o j g;simp at gd V;simp [f57,bD I F,A8,ku z u,l,s,L,S,K,y,J,T,O,U,hx0,hxl,hx4,Y,g3,ho,g4,V,hck,e3,a6,a0,q4,W,gd,s2,q2,G6.len];rw [abR,abR,D] at hne;refine .inr ⟨N,?_,EN,λr' R=>hne ?_⟩;clear o j g;simp at gd V;simp [f57,bD I F,A8,ku z u,l,s,L,S,K,y,J,T,O,U,hx0,hxl,hx4,Y,g3,ho,g4,V,hck,e3,a6,a0,q4,W,gd,A,H,G6.len];have P:=WX R;obtain⟨Z,h3⟩:=o r' R;rw [h3,← hq] at P;rw [P,ht.2,Z.2];refine .inr ⟨N,?_,EN,λr' R=>hck ?_⟩;have a2:¬ (((chunks (D8 r)).length:Nat):Int)=(k:Int):=by omega
  have a4:¬ (((chunks (D8 r)).length:Nat):Int)+1=(q:Int):=by omega
  clear o j g;simp at V;simp [f57,bD I F,A8,ku z u,l,s,L,S,K,y,J,T,O,U,hx0,hxl,hx4,Y,g3,ho,g4,V,hck,a2,a4,e3,q4,W,A,H,G6.len];obtain⟨Z,h3⟩:=o r' R;rw [ht.2,← Z.2];exact h3;obtain⟨N,A,H,EN⟩:=j (E1.trans (E2.trans (r9 (E01.trans E2).ok [j5 zr])));have E02:=E01.trans E2;have z:=E02.ok;have u:=lim E02;refine .inr ⟨N,?_,EN,λr C=>hno3 r (o r C).1⟩;clear o j g;simp [f57,bD I F,A8,ku z u,l,s,L,S,K,y,J,T,O,U,hx0,hxl,hx4,Y,g3,A,H];obtain⟨N,A,H,EN⟩:=j E1;have an:mk=0:=by rw [Q];unfold SF;split;rename_i hs;rw [hs] at h5;simp at h5;rfl
  refine .inr ⟨N,?_,EN,g (.inl (by omega))⟩;have ab:¬ (((splitB 32 d).length:Nat):Int)=5:=by omega
  simp [f57,bD I F,A8,l,s,L,S,K,y,J,h5,ab,A,H]
structure Ab (lo:Nat)(m:Mem)(pr ps:Nat)(rid:Int)(fv:d9)(L:List FR):Prop where
 at_:m.get ps=some (j5 [iV rid,fv])
 res:m.get pr=some (j5 [iZ,nS])
 lr:lo<=pr
 ls:lo<=ps
 ne:pr≠ps
 rn:pr<m.nx
 sn:ps<m.nx
 lim:m.lim<=lo
 facts:jD lo 32 m fv (cellsOf L)
 w:∀r,r∈L->Z4 m r
 sh:∀r,r∈L->r.short
section
variable {lo:Nat}{m:Mem}{pr ps:Nat}{rid:Int}{fv:d9}{L:List FR}
theorem Ab.ext {a:Mem}(h:Ab lo m pr ps rid fv L)(e:Ext m a):Ab lo a pr ps rid fv L:=
 ⟨(e.old ps h.sn).trans h.at_,(e.old pr h.rn).trans h.res,h.lr,h.ls,h.ne,aP h.rn e.nx,aP h.sn e.nx,by rw [e.lim];exact h.lim,h.facts.ext e,λr b=>(h.w r b).ext e,h.sh⟩
theorem Ab.ND (h:Ab lo m pr ps rid fv L):lo<=m.nx:=nM h.ls (ae1 h.sn)
theorem Ab.Aa (h:Ab lo m pr ps rid fv L):m.lim<=m.nx:=nM h.lim h.ND
theorem Ab.no (h:Ab lo m pr ps rid fv L){i o n e:Nat}(c:fv=.sliceU i o n e∨fv=.slice i o n e):i≠ps∧i≠pr∧lo<=i:=by
 obtain⟨a,_,k,t,q⟩:=iE h.facts c;refine⟨λe=>?_,λe=>?_,a⟩;subst e;have:=nK (b:=2) q h.at_;omega
 subst e;have:=nK (b:=2) q h.res;omega
theorem Ab.sl {c:Mem}(h:Ab lo m pr ps rid fv L)(f:m.nx<=c.nx)(g:∀i,i<m.nx->i≠ps->(∀o n e,fv≠.sliceU i o n e)->c.get i=m.get i){v:d9}{xs:List Int}(a:Y9 m v xs):Y9 c v xs:=by rcases a with a | ⟨id,h1,h2,h3⟩;exact .inl a;refine .inr ⟨id,h1,aP h2 f,?_⟩;rcases h3 with h3 | ⟨n,rows,h4,h5,h6⟩;exact .inl h3;refine .inr ⟨n,rows,(g id.1 h2 (λe=>?_) (λo k e d=>?_)).trans h4,h5,h6⟩;have:=nK (b:=2) h4 (by rw [e];exact h.at_);omega;obtain⟨_,_,j,t,q⟩:=iE h.facts (.inl d);have:=nK h4 q;omega
end
theorem afW {lo:Nat}{m:Mem}{pr ps:Nat}{rid:Int}{fv:d9}{L:List FR}(h:Ab lo m pr ps rid fv L)(K:m.Ok){r:FR}(O:Z4 m r)(hs:r.short)(W:L.length<=1000):
  ∃fv' M N,(∀(s y:OF) (cf:H7) (ls:List d9) (env:T d9),s ls env=fv->y ls env=.slice m.nx 0 1 1->lu 32 304 s y cf ls env (m.new (j5 r.f.cells))=some [⟨fv',M⟩])∧(∀{β:Type} (k:Mem->Option β),storeAt M ps 1 [fv'] k=k N)∧
   fv'.cells=[fv']∧A8 fv'=true∧(∀{β:Type} (p:d9->β) (q:β),jf fv' p q=q)∧Ab lo N pr ps rid fv' (L ++ [r])∧N.Ok∧Fr lo lo m N:=by
 have E0:Ext m (m.new (j5 r.f.cells)):=(Ext.refl K).new _;have c:=h.ext E0;have G:qw (m.new (j5 r.f.cells)) 32 (.slice m.nx 0 1 1) [r.f.cells]:=by
  have:=aag K r.f.cells (by rw [G6.len];omega)
  rwa [G6.len] at this
 obtain⟨fv',M,P,t,F,g⟩:=OG (bytes:=304) E0.ok c.lim c.ND (by omega) c.facts G (by rw [G6.len]) O.one (by simp [cellsOf];omega) ⟨by omega,by omega⟩;have E:cellsOf L ++ [r.f.cells]=cellsOf (L ++ [r]):=by simp [cellsOf]
 rw [E] at t;have H:M.lim=m.lim:=F.lim.trans E0.lim;have U:M.get ps=some (j5 [iV rid,fv]):=(g ps c.sn λo n e A=>(c.no (.inl A)).1 rfl).trans c.at_;have S:M.get pr=some (j5 [iZ,nS]):=(g pr c.rn λo n e A=>(c.no (.inl A)).2.1 rfl).trans c.res;have I:=F.nx;obtain⟨N,V,J,X⟩:=qO (off:=1) F.ok (aP c.sn I) (by rw [H];exact nM h.lim h.ls) U (by simp) (v:=fv') t.slice.A8;have J:N.get ps=some (j5 [iV rid,fv']):=J;have z:(m.new (j5 r.f.cells)).nx<=N.nx:=nM I X.nx;have j:∀i,i<(m.new (j5 r.f.cells)).nx->i≠ps->(∀o n e,fv≠.sliceU i o n e)->N.get i=(m.new (j5 r.f.cells)).get i:=λi x d Q=>(X.old i (by omega) d).trans (g i x Q);have D:jD (m.new (j5 r.f.cells)).nx 32 N fv' (cellsOf (L ++ [r])):=AL t X.nx λi x C=>X.old i x λe=>by subst e;have R:=c.sn;rcases C with⟨o,n,e,C⟩ | ⟨o,n,e,C⟩;have:=(iE t (.inl C)).1;omega;have:=(iE t (.inr C)).1;omega
 have B:∀{s:FR},Z4 (m.new (j5 r.f.cells)) s->Z4 N s:=λk=>⟨c.sl z j k.a,c.sl z j k.b,c.sl z j k.l,k.ga,k.gb,k.nb⟩;refine⟨fv',M,N,P,V,t.slice.cells,t.slice.A8,t.slice.aY,⟨J,(X.old pr (aP c.rn I) h.ne).trans S,h.lr,h.ls,h.ne,aP c.rn z,aP c.sn z,by rw [X.lim,H];exact h.lim,D.down c.ND,λs u=>?_,λs u=>?_⟩,X.ok,?_⟩;rcases O5.1 u with d | d;exact B (c.w s d);simp at d;rw [d];exact B (O.ext E0);rcases O5.1 u with d | d;exact h.sh s d;simp at d;rw [d];exact hs;exact⟨X.ok,nM E0.nx z,by rw [X.lim,H],λi x _=>(j i (aP x c.ND) (by have:=h.ls;omega) (λo n e A=>by have:=(h.no (.inl A)).2.2;omega)).trans (E0.old i (aP x h.ND))⟩
theorem Vu {a b c:Mem}(e:Ext a b)(h:Fr a.nx a.nx b c):Ext a c:=⟨h.ok,nM e.nx h.nx,h.lim.trans e.lim,λi d=>(h.old i d (by omega)).trans (e.old i d)⟩
theorem KU {rid:Int}{pr ps lo:Nat}{M d:Mem}{fv:d9}{L:List FR}(R:Ab lo M pr ps rid fv L)(E:Ext M d):∃N1,(∀{β:Type} (k:Mem->Option β),storeAt d pr 0 [iV rid,fv] k=k N1)∧N1.get pr=some (j5 [iV rid,fv])∧N1.Ok∧Fr lo lo M N1∧dn N1 fv L∧(∀r∈L,Z4 N1 r):=by
 have R1:=R.ext E;have j:=R1.facts.slice.A8;obtain⟨N1,q,p,X⟩:=qP (vs:=[iV rid,fv]) E.ok R1.rn (nM R1.lim R1.lr) R1.res rfl (by simp) (by show bi true (bi (A8 fv) true false) false=true;rw [j];rfl);have f:jD lo 32 N1 fv (cellsOf L):=AL R1.facts X.nx λi g c=>X.old i g λe=>by subst e;rcases c with⟨o,n,e,c⟩ | ⟨o,n,e,c⟩;exact (R1.no (.inl c)).2.1 rfl;exact (R1.no (.inr c)).2.1 rfl
 refine⟨N1,q,p,X.ok,?_,pE f,λr m=>?_⟩;exact (E.fr R.ND).trans ⟨X.ok,X.nx,X.lim,λi g _=>X.old i (aP g R1.ND) (by have:=R.lr;omega)⟩;have h:∀{v:d9} {xs:List Int},Y9 d v xs->Y9 N1 v xs:=λc=>by rcases c with c | ⟨id,h1,h2,h3⟩;exact .inl c;refine .inr ⟨id,h1,aP h2 X.nx,?_⟩;rcases h3 with h3 | ⟨n,rows,h4,h5,h6⟩;exact .inl h3;refine .inr ⟨n,rows,(X.old id.1 h2 λe=>?_).trans h4,h5,h6⟩;have:=nK (b:=2) h4 (by rw [e];exact R1.res);omega
 have k:=R1.w r m;exact⟨h k.a,h k.b,h k.l,k.ga,k.gb,k.nb⟩
theorem afX {rid:Int}{pr ps lo:Nat}(n O:Nat)(a5:50001<=O):∀(k:Nat) (ws:List By),ws.length<k->ws.length<=10000->(∀w∈ws,w.length<=250)->∀(N:Nat),k<N->∀(M:Mem) (dv fv:d9) (L:List FR),Ab lo M pr ps rid fv L->M.Ok->Dsk lo M dv ws->Grown L->L.length<=200->
  ∀(a1 a4 a6 a7 a8 a9:d9),∃x b2 b6 b7 b8 b9 M' fv' L',J5 (λenv m k=>Hg (l8 KW O (n+20)) O none env m k) N (xC (iV rid) a1 (.ptr pr 0) dv a4 (.ptr ps 0) a6 a7 a8 a9 iZ) M []=some [⟨x,(xC (iV rid) a1 (.ptr pr 0) b2 a4 (.ptr ps 0) b6 b7 b8 b9 iZ),M',[],none⟩]∧
   M'.Ok∧Fr lo lo M M'∧WZ L ws L'∧Grown L'∧L'.length<=201∧dn M' fv' L'∧(∀r∈L',Z4 M' r)∧(∀r∈L',r.short)∧
   ((x=.ret∧M'.get pr=some (j5 [iV rid,fv']))∨(x=.exit 0∧Ab lo M' pr ps rid fv' L')):=by
 intro k;induction k with
 | zero=>intro ws hk;omega
 | succ k ih=>
  intro ws hk hw a3 N hN M dv fv L R hM hd hg hL a1 a4 a6 a7 a8 a9;obtain⟨N,rfl⟩:∃j,N=j+1:=⟨N-1,by omega⟩;have hm:=hM;have hl:=R.Aa;have hp:=R.at_;have g:=(pE R.facts).len;by_cases h200:L.length<200
  ·have d:(L.length:Int)<200:=by omega
   obtain⟨q,hq⟩:∃q,q=L.length+1:=⟨_,rfl⟩;have e1:=ak hq (by omega);have W:=R.facts.slice.cells;have a0:=R.facts.slice.A8;rcases alr hM hl hd.e.vs hw a3 q (by omega) n O a5 with⟨r,M1,g1,E1,G,hs,hrec⟩ | ⟨M1,g1,E1,hno⟩
   ·have p:=E1.ok;have R1:=R.ext E1;have u:=R1.Aa;have E2:=r9 p [j5 r.f.cells];have R2:=R1.ext E2;have ho:=G.one;obtain⟨M3,Q,E3⟩:=alj (r:=r) E2.ok R2.Aa (pE R2.facts) (by omega) (n+18) O (by omega);have R3:=R2.ext E3;have q3:M3.get M1.nx=some (j5 r.f.cells):=(by rw [E3.old _ (by simp),j6 p];rfl);have E13:=(E1.trans E2).trans E3;have D:¬ ((U5 r:Nat):Int)=0:=(by unfold U5;omega);have y:¬ U5 r=0:=(by omega);have s:Rec (L.length+1) ws r:=⟨by omega,by rw [hq] at hrec;exact hrec⟩;cases hf:sK L r with
    | false=>
     rw [hf] at Q;obtain⟨N1,s1,q1,k1,k2,k3,E⟩:=KU R E13;refine⟨.ret,dv,tV,(iN ((U5 r))),.ptr M1.nx 0,tV,N1,fv,L,?_,k1,k2,.stop λr' aa=>?_,hg,by omega,k3,E,R.sh,.inl ⟨rfl,q1⟩⟩
     rotate_left
     rw [wP rfl (s.2.uniq aa.2).symm];exact hf;have H:=R3.at_;have q5:=R2.at_;rw [l9];simp [Hg,o9,w9,A8,ku p u,hp,g,h200,d,e1,g1,ho,D,y,q5,Q,H,s1,W,a0,G6.len]
    | true=>
     rw [hf] at Q;have ab:=(G.ext E2).ext E3;have H:=R3.at_;have q5:=R2.at_;have v:U5 r<=ws.length:=by obtain⟨ac,e⟩:=hrec.pre;rw [e,acp,iq];unfold U5;omega
     have af:1<=U5 r:=(by omega);have Y:ws≠[]:=λe=>(by rw [e] at v;simp at v;omega);obtain⟨P,M4,N4,ga,s4,V,Z,a2,R4,E,F4⟩:=afW R3 E3.ok ab hs (by omega);simp only [o9] at ga;have dk:xB N4 dv ws∧Vp lo dv:=by rcases hd with⟨e,_⟩ | ⟨hd,hlo⟩;exact absurd e Y;refine⟨(hd.ext E13).keep F4.nx λid ad hv=>F4.old id ?_ ?_,hlo⟩;rcases hv with⟨o,l,c,e⟩ | ⟨o,l,c,e⟩;exact hlo.1 _ _ _ _ e;exact hlo.2 _ _ _ _ e;rcases hv with⟨o,l,c,e⟩ | ⟨o,l,c,e⟩;have:=hlo.1 _ _ _ _ e;omega;have:=hlo.2 _ _ _ _ e;omega
     obtain⟨J,b,cl,hb,ae⟩:=Xc E dk.1 (U5 r) Y v;have I:=λ(x a:OF) (F:List d9) (env:T d9) (hx:x F env=dv) (ha:a F env=(iN ((U5 r))))=>(abU hx ha N4.nx).trans cl;have X:Grown (L ++ [r]):=.snoc hg hrec.valid hf;have S:(L ++ [r]).length<=200:=(by simp;omega);have ag:(ws.drop (U5 r)).length=ws.length-U5 r:=(by simp);have B:∀w∈ws.drop (U5 r),w.length<=250:=λw hw=>a3 w (acQ hw);have K:Fr lo lo M N4:=(E13.fr R.ND).trans F4;have U:∀z ps F env A,List.length z=32->I8 32 1 z ps F env A=ob (lay ps F env z) λt=>if t.length=32 then some (.slice A 0 1 1,some (j5 t)) else none:=λz ps F env A h=>J3 32 z ps F env A h
     rcases hb with⟨rfl,hdk2,hlo2⟩ | ⟨i,rfl,hde,hnil⟩;obtain⟨x,b2,b6,b7,b8,b9,M5,C,L5,g5,z1,z2,z3,z4,z5,z6,z7,z8,z9⟩:=ih (ws.drop (U5 r)) (by omega) (by omega) B N (by omega) N4 J P (L ++ [r]) R4 E (.inr ⟨hdk2,hlo2 lo dk.2⟩) X S a1 a4 tV (iN ((U5 r))) (.ptr M1.nx 0) fV;refine⟨x,b2,b6,b7,b8,b9,M5,C,L5,?_,z1,K.trans z2,.step s hf z3,z4,z5,z6,z7,z8,z9⟩;rw [l9,← g5];simp [Hg,o9,w9,A8,ku p u,hp,g,h200,d,e1,g1,ho,D,y,q5,Q,q3,H,U,ga,s4,V,Z,a2,I,G6.len];have E5:Ext N4 (N4.new (.tail i)):=(Ext.refl E).new _;obtain⟨x,b2,b6,b7,b8,b9,M5,C,L5,g5,z1,z2,z3,z4,z5,z6,z7,z8,z9⟩:=ih (ws.drop (U5 r)) (by omega) (by omega) B N (by omega) (N4.new (.tail i)) J P (L ++ [r]) (R4.ext E5) E5.ok (.inl ⟨hnil,by rw [hnil] at hde;exact hde⟩) X S a1 a4 tV (iN ((U5 r))) (.ptr M1.nx 0) fV;refine⟨x,b2,b6,b7,b8,b9,M5,C,L5,?_,z1,(K.trans (E5.fr R4.ND)).trans z2,.step s hf z3,z4,z5,z6,z7,z8,z9⟩;rw [l9,← g5];simp [Hg,o9,w9,A8,ku p u,hp,g,h200,d,e1,g1,ho,D,y,q5,Q,q3,H,U,ga,s4,V,Z,a2,I,G6.len]
   ·have p:=E1.ok;have u:=(R.ext E1).Aa;have E2:=r9 p [j5 zr];obtain⟨N1,s1,q1,k1,k2,k3,E⟩:=KU R (E1.trans E2);refine⟨.ret,dv,tV,iZ,.ptr M1.nx 0,tV,N1,fv,L,?_,k1,k2,.stop λr G=>absurd (by rw [hq];exact G.2) (hno r),hg,by omega,k3,E,R.sh,.inl ⟨rfl,q1⟩⟩;have H:=((R.ext E1).ext E2).at_;rw [l9];simp [Hg,o9,w9,A8,ku p u,hp,g,h200,d,e1,g1,H,s1,W,a0]
  ·have d:¬ (L.length:Int)<200:=by omega
   refine⟨.exit 0,dv,fV,a7,a8,a9,M,fv,L,?_,hM,Fr.refl hM,.stop λr G=>by have:=G.1;omega,hg,by omega,pE R.facts,R.w,R.sh,.inr ⟨rfl,R⟩⟩;rw [l9];simp [Hg,o9,w9,A8,hp,g,h200,d]
theorem Vv {m:Mem}(d:m.Ok)(k:m.lim<=m.nx){j:d9}{ws:List By}(v:Dsk m.nx m j ws)(t:ws.length<=4000->∀w∈ws,w.length<=250)(id:Int)(n f:Nat)(s:50001<=f):
  (¬ (1<=id∧id<=6)∧∃m',l8 KW f (n+21) (.func 22) [iV id,j] m=some [⟨.tuple [.agg [iZ,nS],iV 1],m'⟩]∧Ext m m')∨
  ((1<=id∧id<=6)∧4000<ws.length∧∃m',l8 KW f (n+21) (.func 22) [iV id,j] m=some [⟨.tuple [.agg [iZ,nS],iV 2],m'⟩]∧Ext m m')∨
  ((1<=id∧id<=6)∧ws.length<=4000∧∃m' fv L,l8 KW f (n+21) (.func 22) [iV id,j] m=some [⟨.tuple [.agg [iV id,fv],iZ],m'⟩]∧Ext m m'∧dn m' fv L∧(∀r∈L,Z4 m' r)∧(∀r∈L,r.short)∧WZ [] ws L∧Grown L∧L.length<=201):=by
 have a:=v.e.vs.len;rw [G8] at a;have E0:=r9 d [j5 [iZ,nS]];have c:=bH (n+19) f id 1 6 (ext m [j5 [iZ,nS]]);rw [enter (sf:=f22) rfl rfl];by_cases h1:1<=id∧id<=6;have l:(decide (1<=id)&&decide (id<=6))=true:=by simp [h1]
 rw [l] at c;by_cases h3:4000<ws.length;have b:(4000:Int)<(ws.length:Int):=by omega
 refine .inr (.inl ⟨h1,h3,_,?_,E0⟩);simp [f22,o9,w9,A8,ku d k,c,a,h3,b];have b:¬ (4000:Int)<(ws.length:Int):=by omega
 have E1:=r9 d [j5 [iZ,nS],j5 [iV id,nS]];have R0:Ab m.nx (ext m [j5 [iZ,nS],j5 [iV id,nS]]) m.nx (m.nx+1) id nS []:=
  ⟨by rw [l5 d];rfl,by rw [j6 d];rfl,aA _,by omega,by omega,by simp,by simp,k,.inl ⟨rfl,rfl⟩,by simp,by simp⟩
 have o:Dsk m.nx (ext m [j5 [iZ,nS],j5 [iV id,nS]]) j ws:=by rcases v with⟨e,h⟩ | ⟨h,h'⟩;exact .inl ⟨e,h.ext E1⟩;exact .inr ⟨h.ext E1,h'⟩
 obtain⟨x,P,Q,S,T,U,M',fv,L,g,z,u,A,B,C,D,N,E,O⟩:=afX (rid:=id) (pr:=m.nx) (ps:=m.nx+1) (lo:=m.nx) n f s (ws.length+1) ws (by omega) (by omega) (t (by omega)) f (by omega) _ j nS [] R0 E1.ok o .nil (by simp) fV fV uV uV uV uV;have EE:Ext m M':=⟨z,nM E1.nx u.nx,u.lim.trans E1.lim,λi y=>(u.old i y (by omega)).trans (E1.old i y)⟩;have p:=D.cells;rcases O with⟨rfl,q⟩ | ⟨rfl,R⟩;refine .inr (.inr ⟨h1,by omega,M',fv,L,?_,EE,D,N,E,A,B,C⟩);simp [f22,o9,w9,A8,ku d k,c,a,h3,b,g,q];have F:=R.facts.slice.A8;obtain⟨N1,M,J,V,G,H,I⟩:=KU R (Ext.refl z);refine .inr (.inr ⟨h1,by omega,N1,fv,L,?_,Vu EE G,H,I,E,A,B,C⟩);have K:=R.at_;simp [f22,o9,w9,A8,ku d k,c,a,h3,b,g,K,M,J,p,F];have l:(decide (1<=id)&&decide (id<=6))=false:=by rw [aA5,decide_eq_false_iff_not,decide_eq_false_iff_not];omega
 rw [l] at c;refine .inl ⟨h1,_,?_,E0⟩;simp [f22,o9,w9,A8,ku d k,c]
noncomputable def z6:T (List d9):=T.rep [iV (.ofNat 0)] 6 .e 0
theorem mk6 (ls:List d9)(env:T d9)(nid:Nat):iG 1 8 [iZ] (bg (iV 6)) (bg (iV 6)) ls env nid=some (.slice nid 0 6 6,some (.cells 1 6 z6)):=rfl
def mO (l:List Int):List (List d9):=l.map λn=>[iV n]
theorem Xe {m:Mem}{id:Nat}(c:m.get id=some (.cells 1 6 z6)):AX m id 1 (mO [0,0,0,0,0,0]):=by
 have b:T.Ok z6 6:=T.NR ([iV (.ofNat 0)]:List d9) 6 .e 0 .e;refine⟨by omega,λr f=>?_,6,z6,6,c,by simp [mO],aA _,b,λi d=>?_⟩;obtain⟨n,_,rfl⟩:=acE.1 f;rfl;have a:i<6:=by simpa [mO] using d
 match i,a with
 | 0,_=>rfl
 | 1,_=>rfl
 | 2,_=>rfl
 | 3,_=>rfl
 | 4,_=>rfl
 | 5,_=>rfl
theorem aDK {m:Mem}(a:m.Ok):AX (ext m [.cells 1 6 z6]) m.nx 1 (mO [0,0,0,0,0,0]):=Xe (by rw [j6 a];rfl)
theorem als {lo:Nat}{m:Mem}{p:Nat}{rid:Int}{lv fv:d9}{D:List By}{L:List FR}(h:eD lo m p rid lv fv D L)(n a:Nat):l8 KW a (n+1) (.func 59) [.ptr p 0] m=some [⟨iV rid,m⟩]:=by have b:=h.at_;rw [enter (sf:=f59) rfl rfl];simp [f59,o9,w9,A8,b]
def Ac (L:List FR)(k:Nat):List Int:=(List.range 6).map λi=>if i<k then (iU L ((i:Int)+1):Int) else 0
theorem ac2 (L:List FR)(k:Nat)(d:k<6):(mO (Ac L k)).set k [iV (iU L ((k:Int)+1):Int)]=mO (Ac L (k+1)):=by
 apply List.ext_getElem;simp [mO,Ac];intro i b a;have c:i<6:=by simpa [mO,Ac] using a
 rw [aCM];by_cases hik:k=i;subst hik;simp [mO,Ac];rw [if_neg hik];simp only [mO,Ac,List.getElem_map,List.getElem_range];by_cases h3:i<k;rw [if_pos h3,if_pos (by omega)];rw [if_neg h3,if_neg (by omega)]
theorem ac3 {M b:Mem}{o:Nat}{v:d9}{L:List FR}(h:dn M v L)(X:dh o M b)(d:(∀f l c,v≠.slice o f l c)∧∀f l c,v≠.sliceU o f l c):dn b v L:=by
 rcases h with h | ⟨id,h1,h2,h3⟩;exact .inl h;have a:id≠o:=λe=>by subst e;rcases h1 with⟨c,h1⟩ | h1;exact d.1 _ _ _ h1;exact d.2 _ _ _ h1
 refine .inr ⟨id,h1,aP h2 X.nx,?_⟩;rcases h3 with h3 | ⟨c,rows,h4,h5⟩;exact .inl h3;exact .inr ⟨c,rows,(X.old id h2 a).trans h4,h5⟩
theorem afY {p o:Nat}{rid:Int}{lv fv:d9}{L:List FR}(hb:L.length<=1000)(J:∀r,r∈L->r.Good)(A:p≠o)(z:(∀f l c,fv≠.slice o f l c)∧∀f l c,fv≠.sliceU o f l c)(n s:Nat)(x:2000<=s):∀(j i:Nat),i+j=6->∀(N:Nat),j<N->∀(M:Mem),M.Ok->M.lim<=M.nx->M.lim<=o->p<M.nx->M.get p=some (j5 [lv,iV rid,fv])->dn M fv L->AX M o 1 (mO (Ac L i))->o<M.nx->∀(a3 a4:d9),
  ∃b4 M',J5 (λenv m k=>Rs (l8 KW s (n+1)) s none env m k) N (CX (.slice o 0 6 6) (iN i) (iV 6) a3 a4 (.ptr p 0) nS) M []=some [⟨.exit 0,(CX (.slice o 0 6 6) (iN 6) (iV 6) fV b4 (.ptr p 0) nS),M',[],none⟩]∧dh o M M'∧AX M' o 1 (mO (Ac L 6)):=by
 intro j;induction j with
 | zero=>
  intro i K N I M u D a d B C v t a3 a4;obtain⟨N,rfl⟩:∃k,N=k+1:=⟨N-1,by omega⟩;obtain rfl:i=6:=by omega
  refine⟨a4,M,?_,dh.refl u,v⟩;rw [l9];simp [Rs]
 | succ j ih=>
  intro i K N I M u D a d B C v t a3 a4;obtain⟨N,rfl⟩:∃k,N=k+1:=⟨N-1,by omega⟩;have b:i<6:=by omega
  obtain⟨q,E⟩:∃q,q=i+1:=⟨_,rfl⟩;have G:=ak E (by omega);obtain⟨M1,H,E1⟩:=abO u D B C J hb (q:Int) n s x;obtain⟨M2,F,e,X2⟩:=(v.ext t E1).store E1.ok (aP t E1.nx) (by rw [E1.lim];exact a) (i:=i) (row:=[iV (iU L (q:Int):Int)]) (by simp [mO,Ac];omega) rfl rfl;rw [show ((q:Nat):Int)=(i:Int)+1 from by omega,ac2 L i b,← E] at e;have X12:=E1.toB.trans X2;obtain⟨b4,M',g,X,w⟩:=ih q (by omega) N (by omega) M2 X2.ok (by rw [X12.lim];have:=X12.nx;omega) (by rw [X12.lim];exact a) (aP d X12.nx) ((X12.old p d A).trans B) (ac3 C X12 z) e (aP t X12.nx) tV (iN i);refine⟨b4,M',?_,X12.trans X,w⟩;have h:∀(k:Nat->Option d9),idx 6 (iV (i:Int)) k=k i:=λk=>au 6 i k b;have y:(i:Int)<6:=by omega
  rw [l9,← g];simp at F;simp [Rs,o9,w9,A8,b,y,G,H,h,F]
theorem ac4 {M:Mem}{o:Nat}{l:List Int}(h:AX M o 1 (mO l))(b:o<M.nx)(c:Nat):Y9 M (.slice o 0 l.length c) l:=by obtain⟨_,_,k,t,g,d,e,j,m,f⟩:=h;refine .inr ⟨(o,0),.inl ⟨c,rfl⟩,b,.inr ⟨k,t,d,by simpa [mO] using e,λi a=>?_⟩⟩;rw [W9,f i (by simpa [mO] using a)];simp [mO]
theorem alu {lo:Nat}{m:Mem}{p:Nat}{rid:Int}{lv fv:d9}{D:List By}{L:List FR}(h:eD lo m p rid lv fv D L)(k:m.Ok)(hb:L.length<=1000)(n d:Nat)(j:2000<=d):
  ∃v m',l8 KW d (n+2) (.func 60) [.ptr p 0] m=some [⟨v,m'⟩]∧Ext m m'∧Y9 m' v (Ac L 6):=by
 have q:=h.Aa;have E0:=r9 k [.cells 1 6 z6];have R0:=h.ext E0;have r:mO [0,0,0,0,0,0]=mO (Ac L 0):=rfl;have o:=aDK k;rw [r] at o;have a:p≠m.nx:=by have:=h.pn;omega
 obtain⟨t,M',g,X,s⟩:=afY (rid:=rid) (lv:=lv) (fv:=fv) hb h.good a ⟨λf l c e=>by have:=(iE h.facts (.inr e)).2.1;omega,λf l c e=>by have:=(iE h.facts (.inl e)).2.1;omega⟩ n d j 6 0 (by omega) d (by omega) _ E0.ok R0.Aa (by simp;exact q) R0.pn R0.at_ (pE R0.facts) o (by simp) uV uV;have i:(Ac L 6).length=6:=by simp [Ac]
 have b:=ac4 s (aP (by simp) X.nx) 6;rw [i] at b;refine⟨.slice m.nx 0 6 6,M',?_,E0.qp X (aA _),b⟩;rw [enter (sf:=f60) rfl rfl];simp at g;simp [f60,o9,w9,A8,ku k q,mk6,g]
def EC (L:List FR)(k:Nat):List Int:=(List.range k).map λ(i:Nat)=>(iU L ((i:Int)+1):Int)
theorem Yy (L:List FR)(k:Nat):EC L (k+1)=EC L k ++ [(iU L ((k:Int)+1):Int)]:=by unfold EC;rw [List.range_succ,afj];rfl
theorem alv (L:List FR):Ac L 6=EC L 6:=by unfold Ac EC;apply asg;intro i a;rw [if_pos (by simpa using a)]
theorem afZ {L M:List FR}(h:L.map FR.cn=M.map FR.cn)(k:Nat):EC L k=EC M k:=by unfold EC;apply asg;intro i a;rw [WY h]
theorem ag0 {a:Mem}{q0:Nat}{rid:Int}{fv:d9}{L:List FR}(hb:L.length<=1000)(T:a.Ok)(f:a.lim<=a.nx)(A:q0<a.nx)(B:a.get q0=some (j5 [iV rid,fv]))(U:dn a fv L)(J:d9)(n s:Nat)(w:2000<=s):∀(j i:Nat),i+j=6->∀(N:Nat),j<N->∀(M:Mem),Ext a M->∀(out:d9),aM a.nx M out (ints (EC L i))->∀(a2:d9),
  ∃out' M',J5 (λenv m k=>Rt (l8 KW s (n+1)) s none env m k) N (SQ J (iN ((i+1))) a2 out (.ptr q0 0) nS) M []=some [⟨.exit 0,(SQ J (iN 7) fV out' (.ptr q0 0) nS),M',[],none⟩]∧Ext a M'∧aM a.nx M' out' (ints (EC L 6)):=by
 intro j;induction j with
 | zero=>
  intro i R N Q M c out x a2;obtain⟨N,rfl⟩:∃k,N=k+1:=⟨N-1,by omega⟩;obtain rfl:i=6:=by omega
  refine⟨out,M,?_,c,x⟩;rw [l9];simp [Rt]
 | succ j ih=>
  intro i R N Q M c out x a2;obtain⟨N,rfl⟩:∃k,N=k+1:=⟨N-1,by omega⟩;have S:i<6:=by omega
  obtain⟨q,A⟩:∃q,q=i+1:=⟨_,rfl⟩;obtain⟨I,r⟩:∃I,I=q+1:=⟨_,rfl⟩;have K:=ak r (by omega);have C:(q:Int)<=6:=by omega
  have D:q<=6:=by omega
  have H:=c.ok;have W:M.lim<=M.nx:=by rw [c.lim];exact nM f c.nx
  have O:=(c.old q0 ‹q0<a.nx›).trans B;have P:=Xb (m:=M) (U.ext c) hb (q:Int) n s w;have E2:=(Ext.refl H).new (j5 [iV (iU L (q:Int):Int)]);obtain⟨e,m3,G,l,F3⟩:=uD (bytes:=8) E2.ok (by show M.lim<=a.nx;rw [c.lim];exact f) (nM c.nx E2.nx) (x.ext E2) (zZ H (iV (iU L (q:Int):Int))) rfl (by simp [ints,EC];omega) ⟨by omega,by omega⟩;have EE:Ext a m3:=Vu (c.trans E2) F3;have o:aM a.nx m3 e (ints (EC L q)):=by rw [A,Yy,zL,← show ((q:Nat):Int)=(i:Int)+1 from by omega];exact l
  have E:=λ{β:Type} (p:d9->β) q=>l.vs.aY p q;have v:∀z u t env d,List.length z=1->I8 1 1 z u t env d=ob (lay u t env z) λb=>if b.length=1 then some (.slice d 0 1 1,some (j5 b)) else none:=λz u t env d h=>J3 1 z u t env d h
  obtain⟨out',V,g,F,y⟩:=ih q (by omega) N (by omega) m3 EE e o tV;refine⟨out',V,?_,F,y⟩;rw [← r] at g;rw [l9,← g,← A];simp only [o9] at G;simp [Rt,o9,w9,A8,C,D,O,P,v,G,E,K]
theorem alx {m:Mem}{rid:Int}{fv:d9}{L:List FR}(d:m.Ok)(i:m.lim<=m.nx)(f:dn m fv L)(hb:L.length<=1000)(n a:Nat)(b:2000<=a):
  ∃v m',l8 KW a (n+2) (.func 61) [.agg [iV rid,fv]] m=some [⟨v,m'⟩]∧Ext m m'∧Y9 m' v (EC L 6):=by
 have E0:=r9 d [j5 [iV rid,fv]];obtain⟨c,M,g,E,e⟩:=ag0 (rid:=rid) hb E0.ok (by simp;omega) (q0:=m.nx) (by simp) (by rw [j6 d];rfl) (f.ext E0) (.agg [iV rid,fv]) n a b 6 0 (by omega) a (by omega) _ (Ext.refl E0.ok) nS (aM.nil _ _) uV;have h:=λ{β:Type} (p:d9->β) q=>e.vs.aY p q;refine⟨c,M,?_,E0.trans E,e.sl⟩;rw [enter (sf:=f61) rfl rfl];simp at g;simp [f61,o9,w9,A8,g,h]
theorem AP {lo:Nat}{m:Mem}{v:d9}{l:List By}(h:lY lo m v l):dB m v (strs l):=by
 rcases h with⟨rfl,rfl⟩ | ⟨id,t,c,h1,h2,h3,rfl,h4,h5,h6,h7⟩;exact .inl ⟨rfl,rfl⟩;refine .inr ⟨id,0,.inr (by rw [G8]),h2,.inr ⟨l.length,t,h4,by rw [G8];omega,λi b=>?_⟩⟩;have a:i<l.length:=by rwa [G8] at b
 rw [W9,h7 i a];simp [strs]
theorem aly {lo:Nat}{m:Mem}{v:d9}{D:List By}(u:m.Ok)(I:m.lim<=m.nx)(j:lY lo m v D)(hb:D.length<=50000)(n x:Nat):
  ∃v' m',l8 KW x (n+1) (.func 67) [v] m=some [⟨v',m'⟩]∧Ext m m'∧lY m.nx m' v' D:=by
 rw [enter (sf:=f67) rfl rfl];rcases j with⟨rfl,rfl⟩ | ⟨id,t,c,h1,h2,h3,rfl,h4,h5,h6,h7⟩;refine⟨nS,m,?_,Ext.refl u,.inl ⟨rfl,rfl⟩⟩;have e:dY nS nS=some true:=rfl;simp [f67,o9,w9,A8,e];have j:dB m (.sliceU id 0 D.length 1) (strs D):=AP (.inr ⟨id,t,c,h1,h2,h3,rfl,h4,h5,h6,h7⟩);have A:∀z h f nid,I8 1 0 z [] h f nid=some (.slice nid 0 0 0,some (.cells 1 0 (T.ofList []))):=λ_ _ _ _=>rfl;have E:=r9 u [.cells 1 0 (T.ofList [])];have w:=j.ext E;have q:=w.lenOf;have r:=w.read;rw [G8] at q r;have J:=abY.2 h3;obtain⟨k,H⟩:∃k,D.length=k+1:=⟨D.length-1,by omega⟩;obtain⟨g,_⟩:=oU (lo:=m.nx) E.ok E.nx (strs D) (vC D);have B:=KT E.ok h3;have i:∀(s y:OF) (p:H7) (h:List d9) (f:T d9),s h f=.slice m.nx 0 0 0->y h f=.sliceU id 0 D.length 1->lu 1 16 s y p h f (ext m [.cells 1 0 (T.ofList [])])=grown (ext m [.cells 1 0 (T.ofList [])]) 1 (strs D).length (strs D):=λs y p h f C F=>by show ob (AM.lenOf (y h f)) (λn=>ob (aj _ 1 n (y h f)) λl=>kT _ 1 16 n l (s h f))=_;rw [F,C,q,I9,r,I9];show iI _ 1 16 D.length (strs D) m.nx 0 0 0=_;unfold iI;have G:Nat.add 0 D.length=D.length:=W9 _;rw [G,show Nat.ble D.length 0=false from aaD.2 λe=>by have:=LA e;omega,bA,wY (by omega) ⟨by omega,by omega⟩,aH];show ob (some ([]:List d9)) (λo=>grown _ 1 D.length (cZ o (strs D)))=_;rw [I9,V8,aaE,G8]
 rw [g] at i;refine⟨_,_,?_,E.trans ((Ext.refl E.ok).new _),AO B E.nx⟩;have e:∀a b c d,dY (.sliceU a b c d) nS=some false:=λ_ _ _ _=>rfl;simp only [o9] at i;simp [f67,o9,w9,A8,e,A,i]
theorem alz {lo:Nat}{m:Mem}{p:Nat}{rid:Int}{lv fv:d9}{D:List By}{L:List FR}(h:eD lo m p rid lv fv D L)(c:m.Ok)(hb:D.length<=50000)(n a:Nat):∃v' m',l8 KW a (n+2) (.func 27) [.ptr p 0] m=some [⟨v',m'⟩]∧Ext m m'∧lY m.nx m' v' D:=by obtain⟨v',m',g,E,b⟩:=aly c h.Aa h.list hb n a;refine⟨v',m',?_,E,b⟩;have d:=h.at_;rw [enter (sf:=f27) rfl rfl];simp [f27,o9,w9,A8,d,g,b.aY]
theorem alA {lo:Nat}{m:Mem}{p:Nat}{rid:Int}{lv fv:d9}{D:List By}{L:List FR}(h:eD lo m p rid lv fv D L)(x:m.Ok)(hb:L.length<=200)(n f:Nat)(v:20000<=f):
  ∃v' m' l' cs,l8 KW f (n+209) (.func 26) [.ptr p 0] m=some [⟨v',m'⟩]∧Ext m m'∧Dd L l'∧dn m' v' cs∧cs.length=l'.length∧CpP l' cs∧(∀c,c∈cs->Z4 m' c)∧l'.length<=200∧(cs≠[]->∃i,v'=.sliceU i 0 cs.length 32):=by
 obtain⟨E,C,l',s,g,o⟩:=alc x h.Aa (pE h.facts) h.good hb n f (by omega);have E1:=g.1;have a:l'.length<=200:=by obtain⟨_,⟨_,e⟩ | ⟨_,_,e,_⟩ | ⟨_,_,_,u⟩⟩:=g;rw [e];simp;rw [e];simp;exact u.big
 obtain⟨B,A,cs,t,j,b,k,z⟩:=ale (l:=l') E1.ok (by rw [E1.lim];exact nM h.Aa E1.nx) g.fs (λr q=>(h.w r (o.sub r q)).ext E1) (λr q=>h.sh r (o.sub r q)) a (n+205) f (by omega);refine⟨B,A,l',cs,?_,E1.trans j.1,o,j.fs,b,k,z,a,λd=>?_⟩
 rotate_left
 obtain⟨_,⟨_,e⟩ | ⟨_,_,e,_⟩ | ⟨i,_,e,_⟩⟩:=j;exact absurd e d;exact absurd e d;exact⟨i,e⟩;have y:=h.at_;rw [enter (sf:=f26) rfl rfl];simp [f26,o9,w9,A8,y,s,g.fs.aY,t,j.fs.aY]
theorem ag1 {b:Mem}{q0:Nat}{rid:Int}{fv:d9}{L:List FR}(hb:L.length<=1000)(Z:b.Ok)(h:b.lim<=b.nx)(J:q0<b.nx)(s:b.get q0=some (j5 [iV rid,fv]))(C:dn b fv L)(hw:∀r∈L,Z4 b r)(K:∀r∈L,r.valid=true)(O:d9)(n w:Nat)(A:20001<=w):∀(j i:Nat),i+j=L.length->∀(N:Nat),j<N->∀(M:Mem),Ext b M->∀(out:d9),lY b.nx M out (fU 1 (L.take i))->(fU 1 (L.take i)).length<=9*i->∀(a3:d9),
  ∃out' M',J5 (λenv m k=>Ru (l8 KW w (n+19)) w none env m k) N (SQ O (iN i) (.ptr q0 0) a3 out nS) M []=some [⟨.exit 0,(SQ O (iN (L.length)) (.ptr q0 0) fV out' nS),M',[],none⟩]∧Ext b M'∧lY b.nx M' out' (fU 1 L)∧(fU 1 L).length<=9*L.length:=by
 intro j;induction j with
 | zero=>
  intro i W N U M a out l e a3;obtain⟨N,rfl⟩:∃k,N=k+1:=⟨N-1,by omega⟩;obtain rfl:i=L.length:=by omega
  have x:=(a.old q0 J).trans s;have c:=(C.ext a).len;rw [agL] at l e;refine⟨out,M,?_,a,l,e⟩;rw [l9];simp [Ru,o9,w9,A8,x,c]
 | succ j ih=>
  intro i W N U M a out l e a3;obtain⟨N,rfl⟩:∃k,N=k+1:=⟨N-1,by omega⟩;have d:i<L.length:=by omega
  obtain⟨q,t⟩:∃q,q=i+1:=⟨_,rfl⟩;have Q:=ak t (by omega);have Y:=a.ok;have X:M.lim<=M.nx:=by rw [a.lim];exact nM h a.nx
  have x:=(a.old q0 J).trans s;have c:=(C.ext a).len;obtain⟨id,G,_,P,_⟩:=(C.ext a).at d;simp at G;have f:=M8 d;obtain⟨v4,M1,R,E1,H⟩:=abD Y X ((hw _ f).ext a) (K _ f) (q:Int) (by unfold Sm;omega) n w A;have a0:(oJ (q:Int) (D8 L[i])).length<=9:=by have:=Gp _ (D8 L[i]) (aA _);have:=jK (K _ f);rw [iq];omega
  obtain⟨v,M2,S,y,k2,n2,l2,o⟩:=aiU (lo:=b.nx) (bytes:=16) E1.ok (by rw [E1.lim,a.lim];exact h) (nM a.nx E1.nx) (l.ext E1) H (by simp [oJ]) (by omega) ⟨by omega,by omega⟩;have T:Ext b M2:=by have E01:=a.trans E1;refine⟨k2,nM E01.nx n2,l2.trans E01.lim,λk I=>(o k (aP I E01.nx) λo' n' e' V=>?_).trans (E01.old k I)⟩;have:=(wQ (l.ext E1) V).1;omega
  have u:fU 1 (L.take q)=fU 1 (L.take i)++oJ (q:Int) (D8 L[i]):=by rw [t,O4 d,CS];congr 2;simp;omega
  rw [← u] at y;obtain⟨out',M',g,F,B,z⟩:=ih q (by omega) N (by omega) M2 T v (AO y (by have:=a.nx;have:=E1.nx;omega)) (by rw [u,acp];omega) tV;refine⟨out',M',?_,F,B,z⟩;have D:=λ{β:Type} (p:d9->β) q=>(AP y).aY p q;have E:=λ{β:Type} (p:d9->β) q=>H.aY p q;rw [l9,← g];simp [Ru,o9,w9,A8,x,c,d,G,P,R,E,S,D,Q]
theorem ac5 {m:Mem}{rid:Int}{fv:d9}{L:List FR}(e:m.Ok)(o:m.lim<=m.nx)(k:dn m fv L)(j:∀r∈L,Z4 m r)(i:∀r∈L,r.valid=true)(hb:L.length<=1000)(n a:Nat)(c:20001<=a):
  ∃v m',l8 KW a (n+20) (.func 63) [.agg [iV rid,fv]] m=some [⟨v,m'⟩]∧Ext m m'∧dB m' v (strs (fU 1 L))∧(fU 1 L).length<=9*L.length:=by
 have E0:=r9 e [j5 [iV rid,fv]];obtain⟨d,M,g,E,f,b⟩:=ag1 (rid:=rid) hb E0.ok (by simp;omega) (q0:=m.nx) (by simp) (by rw [j6 e];rfl) (k.ext E0) (λr h=>(j r h).ext E0) i (.agg [iV rid,fv]) n a c L.length 0 (by omega) a (by omega) _ (Ext.refl E0.ok) nS (.inl ⟨rfl,rfl⟩) (by simp [fU]) uV;have l:=λ{β:Type} (p:d9->β) q=>(AP f).aY p q;refine⟨d,M,?_,E0.trans E,AP f,b⟩;rw [enter (sf:=f63) rfl rfl];simp at g;simp [f63,o9,w9,A8,g,l]
def pY (k:Int)(h:Int)(r:FR):Bool:=decide (r.f.room=k)&&decide (h<r.f.no)
theorem Vw {d:Mem}{q0:Nat}{rid:Int}{fv w:d9}{L:List FR}{hs:List Int}(hb:L.length<=1000)(a4:d.Ok)(B:d.lim<=d.nx)(hq:q0<d.nx)(D:d.get q0=some (j5 [iV rid,fv]))(Z:dn d fv L)(hw:∀r∈L,Z4 d r)(hh:Y9 d w hs)(a3:hs.length=6)(x0:d9)(k:Nat)(hk:k<6)(cf:H7)(fu:Nat):∀(j t:Nat),t+j=L.length->∀(N:Nat),j<N->∀(M:Mem),Ext d M->∀(out:d9) (A:List FR),jD d.nx 32 M out (cellsOf A)->A.length<=1000*k+t->∀(a2 a5 a7:d9),
  ∃out' c7 M',J5 (λenv m k=>zP cf fu none env m k) N (Gc x0 (iN ((k+1))) a2 (iN t) (.ptr q0 0) a5 w a7 out nS) M []=some [⟨.exit 2,(Gc x0 (iN ((k+1))) a2 (iN (L.length)) (.ptr q0 0) fV w c7 out' nS),M',[],none⟩]∧Ext d M'∧jD d.nx 32 M' out' (cellsOf (A++(L.drop t).filter (pY ((k:Int)+1) (hs[k]'(by omega)))))∧(A++(L.drop t).filter (pY ((k:Int)+1) (hs[k]'(by omega)))).length<=1000*k+L.length:=by
 intro j;induction j with
 | zero=>
  intro t hi N hN M a out A x hA a2 a5 a7;obtain⟨N,rfl⟩:∃k,N=k+1:=⟨N-1,by omega⟩;obtain rfl:t=L.length:=by omega
  have y:=(a.old q0 hq).trans D;have b:=(Z.ext a).len;refine⟨out,a7,M,?_,a,by rw [List.drop_length,List.filter_nil,acH];exact x,by rw [List.drop_length,List.filter_nil,acH];exact hA⟩;rw [l9];simp [zP,o9,w9,A8,y,b]
 | succ j ih=>
  intro t hi N hN M a out A x hA a2 a5 a7;obtain⟨N,rfl⟩:∃k,N=k+1:=⟨N-1,by omega⟩;have c:t<L.length:=by omega
  obtain⟨q,E⟩:∃q,q=t+1:=⟨_,rfl⟩;have S:=ak E (by omega);have hm:=a.ok;have hl:M.lim<=M.nx:=by rw [a.lim];exact nM B a.nx
  have y:=(a.old q0 hq).trans D;have b:=(Z.ext a).len;obtain⟨id,H,_,P,Q,R,_⟩:=(Z.ext a).atK c;simp at H;obtain⟨⟨a8,a9⟩,I,_,J⟩:=(hh.ext a).at (i:=k) (by omega);simp at I J;have W:=M8 c;have Y:=(hw _ W).ext a;have u:L.drop t=L[t]::L.drop q:=by rw [E];exact M0 c
  have v:lI (k:Int)=(k:Int):=Z8 (by omega) (by omega);have a6:=SE x.slice 99;by_cases h1:L[t].f.room=(k:Int)+1;by_cases h2:hs[k]'(by omega)<L[t].f.no;have n:pY ((k:Int)+1) (hs[k]'(by omega)) L[t]=true:=by unfold pY;rw [decide_eq_true h1,decide_eq_true h2];rfl
  rw [u,amH,if_pos n];have E2:=(Ext.refl hm).new (j5 L[t].f.cells);have X:qw (M.new (j5 L[t].f.cells)) 32 (.slice M.nx 0 1 1) [L[t].f.cells]:=by
   have:=aag hm L[t].f.cells (by rw [G6.len];omega)
   rwa [G6.len] at this
  have C:=Y.one;obtain⟨G,M2,ga,T,F2,a1⟩:=OG (bytes:=304) E2.ok (by show M.lim<=d.nx;rw [a.lim];exact B) (nM a.nx E2.nx) (by omega) (x.ext E2) X (by rw [G6.len]) C (by simp [cellsOf];omega) ⟨by omega,by omega⟩;have V:cellsOf A ++ [L[t].f.cells]=cellsOf (A ++ [L[t]]):=by simp [cellsOf]
  rw [V] at T;obtain⟨out',c7,M',g,F,o,l⟩:=ih q (by omega) N (by omega) M2 (Vu (a.trans E2) F2) G (A ++ [L[t]]) (T.down (nM a.nx E2.nx)) (by simp;omega) a2 tV tV;have ea:A++L[t]::(L.drop q).filter (pY ((k:Int)+1) (hs[k]'(by omega)))=A ++ [L[t]]++(L.drop q).filter (pY ((k:Int)+1) (hs[k]'(by omega))):=by simp
  refine⟨out',c7,M',?_,F,by rw [ea];exact o,by rw [ea];exact l⟩;have a0:=λ{β:Type} (p:d9->β) q=>T.slice.aY p q;have U:∀z O K env s,List.length z=32->I8 32 1 z O K env s=ob (lay O K env z) λe=>if e.length=32 then some (.slice s 0 1 1,some (j5 e)) else none:=λz O K env s h=>J3 32 z O K env s h
  simp only [o9] at ga;rw [l9,← g];simp [zP,o9,w9,A8,y,b,c,H,P,Q,R,I,J,h1,h2,v,U,ga,a0,S,C,J2,G6.len];have n:¬ pY ((k:Int)+1) (hs[k]'(by omega)) L[t]=true:=by unfold pY;rw [decide_eq_false h2];simp
  rw [u,amH,if_neg n];obtain⟨out',c7,M',g,F,o,l⟩:=ih q (by omega) N (by omega) M a out A x (by omega) a2 tV fV;refine⟨out',c7,M',?_,F,o,l⟩;rw [l9,← g];simp [zP,o9,w9,A8,y,b,c,H,P,Q,R,I,J,h1,h2,v,S,J2];have n:¬ pY ((k:Int)+1) (hs[k]'(by omega)) L[t]=true:=by unfold pY;rw [decide_eq_false h1];simp
  rw [u,amH,if_neg n];obtain⟨out',c7,M',g,F,o,l⟩:=ih q (by omega) N (by omega) M a out A x (by omega) a2 tV fV;refine⟨out',c7,M',?_,F,o,l⟩;rw [l9,← g];simp [zP,o9,w9,A8,y,b,c,H,P,Q,R,I,J,h1,v,S,J2]
def lH (L:List FR)(hs:List Int):Nat->List FR
 | 0=>[]
 | k+1=>lH L hs k++L.filter (pY ((k:Int)+1) (hs.getD k 0))
theorem Vx {a:Mem}{q0:Nat}{rid:Int}{fv b:d9}{L:List FR}{hs:List Int}(hb:L.length<=1000)(s:a.Ok)(p:a.lim<=a.nx)(K:q0<a.nx)(v:a.get q0=some (j5 [iV rid,fv]))(P:dn a fv L)(O:∀r∈L,Z4 a r)(H:Y9 a b hs)(o:hs.length=6)(y:d9)(cf:H7)(f:Nat)(G:2000<=f):∀(j k:Nat),k+j=6->∀(N:Nat),j<N->∀(M:Mem),Ext a M->∀(out:d9),jD a.nx 32 M out (cellsOf (lH L hs k))->(lH L hs k).length<=1000*k->∀(a2 a3 a5 a7:d9),
  ∃out' c3 c5 c7 M',J5 (λenv m k=>Kj cf f none env m k) N (Gc y (iN ((k+1))) a2 a3 (.ptr q0 0) a5 b a7 out nS) M []=some [⟨.exit 0,(Gc y (iN 7) fV c3 (.ptr q0 0) c5 b c7 out' nS),M',[],none⟩]∧Ext a M'∧jD a.nx 32 M' out' (cellsOf (lH L hs 6)):=by
 intro j;induction j with
 | zero=>
  intro k I N E M i out t D a2 a3 a5 a7;obtain⟨N,rfl⟩:∃k,N=k+1:=⟨N-1,by omega⟩;obtain rfl:k=6:=by omega
  refine⟨out,a3,a5,a7,M,?_,i,t⟩;rw [l9];simp [Kj]
 | succ j ih=>
  intro k I N E M i out t D a2 a3 a5 a7;obtain⟨N,rfl⟩:∃k,N=k+1:=⟨N-1,by omega⟩;have J:k<6:=by omega
  obtain⟨q,e⟩:∃q,q=k+1:=⟨_,rfl⟩;obtain⟨z,d⟩:∃z,z=q+1:=⟨_,rfl⟩;have B:=ak d (by omega);have w:(q:Int)<=6:=by omega
  have x:q<=6:=by omega
  obtain⟨Q,A,M1,h,E1,c,l⟩:=Vw hb s p K v P O H o y k J cf f L.length 0 (by omega) f (by omega) M i out (lH L hs k) t (by omega) tV a5 a7;have n:hs.getD k 0=hs[k]'(by omega):=by rw [M9,cB (by omega)];rfl
  have C:lH L hs k++(L.drop 0).filter (pY ((k:Int)+1) (hs[k]'(by omega)))=lH L hs (k+1):=by rw [lH,n,abR]
  rw [C,← e] at c l;obtain⟨out',c3,c5,c7,M',g,F,u⟩:=ih q (by omega) N (by omega) M1 E1 Q c (by omega) tV (iN (L.length)) fV A;refine⟨out',c3,c5,c7,M',?_,F,u⟩;rw [← d] at g;rw [← e] at h ⊢;simp at h;rw [l9,← g];simp [Kj,o9,w9,A8,w,x,h,B]
theorem ag2 {m:Mem}{rid:Int}{fv b:d9}{L:List FR}{hs:List Int}(f:m.Ok)(w:m.lim<=m.nx)(l:dn m fv L)(k:∀r∈L,Z4 m r)(i:Y9 m b hs)(d:hs.length=6)(hb:L.length<=1000)(n a:Nat)(c:2000<=a):
  ∃v m',l8 KW a (n+1) (.func 102) [.agg [iV rid,fv],b] m=some [⟨v,m'⟩]∧Ext m m'∧dn m' v (lH L hs 6):=by
 have E0:=r9 f [j5 [iV rid,fv]];obtain⟨e,s,t,u,M,g,E,h⟩:=Vx (rid:=rid) hb E0.ok (by simp;omega) (q0:=m.nx) (by simp) (by rw [j6 f];rfl) (l.ext E0) (λr j=>(k r j).ext E0) (i.ext E0) d (.agg [iV rid,fv]) (l8 KW a n) a c 6 0 (by omega) a (by omega) _ (Ext.refl E0.ok) nS (.inl ⟨rfl,rfl⟩) (by simp [lH]) uV uV uV uV;have o:=λ{β:Type} (p:d9->β) q=>h.slice.aY p q;refine⟨e,M,?_,E0.trans E,pE h⟩;rw [enter (sf:=f102) rfl rfl];simp at g;simp [f102,o9,w9,A8,g,o]
theorem alB {m:Mem}{rid:Int}{fv:d9}{L:List FR}(c:m.Ok)(k:m.lim<=m.nx)(h:dn m fv L)(o:∀r∈L,Z4 m r)(hb:L.length<=1000)(n a:Nat)(b:2000<=a):
  ∃v m',l8 KW a (n+2) (.func 62) [.agg [iV rid,fv]] m=some [⟨v,m'⟩]∧Ext m m'∧dn m' v (lH L [0,0,0,0,0,0] 6):=by
 have E0:=r9 c [j5 [iV rid,fv],.cells 1 6 z6];have i:AX (ext m [j5 [iV rid,fv],.cells 1 6 z6]) (m.nx+1) 1 (mO [0,0,0,0,0,0]):=Xe (by rw [l5 c];rfl);have d:=ac4 i (by simp) 6;obtain⟨v,M,g,E,f⟩:=ag2 (rid:=rid) E0.ok (by simp;omega) (h.ext E0) (λr l=>(o r l).ext E0) d rfl hb n a b;refine⟨v,M,?_,E0.trans E,f⟩;have j:=h.cells;have e:d9.slice (m.nx+1) 0 [0,0,0,0,0,(0:Int)].length 6=.slice (m.nx+1) 0 6 6:=rfl;rw [e] at g;rw [enter (sf:=f62) rfl rfl];simp [f62,o9,w9,A8,ku c k,mk6,j,g,f.aY]
theorem Yz {x y:d9}{cs us:List FR}(D:cs.length=us.length)(S:cs.length<=1000)(a:∀i (h:i<cs.length)(h':i<us.length),cs[i].same us[i]=true)(E:∀r,r∈cs->r.short)(F:∀r,r∈us->r.short)(B d:Nat)(u:20000<=d)(G:d9):
  ∀(s i:Nat),i+s=cs.length->∀(N:Nat),s<N->∀(M:Mem),M.Ok->dn M x cs->dn M y us->(∀r,r∈cs->Z4 M r)->(∀r,r∈us->Z4 M r)->∀(y4 y5 y6:d9),
   ∃z5 z6 M',J5 (λenv m k=>Rp (l8 KW d (B+3)) d none env m k) N (Ni x y G (iN i) y4 y5 y6 fV) M []=some [⟨.exit 0,(Ni x y G (iN (cs.length)) fV z5 z6 fV),M',[],none⟩]∧Ext M M':=by
 intro s;induction s with
 | zero=>
  intro i P N O M j e w o t y4 y5 y6;obtain⟨N,rfl⟩:∃M,N=M+1:=⟨N-1,by omega⟩;obtain rfl:i=cs.length:=by omega
  have A:=e.len;refine⟨y5,y6,M,?_,Ext.refl j⟩;rw [l9];simp [Rp,A]
 | succ s ih=>
  intro i P N O M j e w o t y4 y5 y6;obtain⟨N,rfl⟩:∃M,N=M+1:=⟨N-1,by omega⟩;have A:=e.len;have b:i<cs.length:=by omega
  have c:i<us.length:=by omega
  obtain⟨p,J,T,K,_⟩:=e.at b;obtain⟨q,H,U,I,_⟩:=w.at c;have l:=M8 b;have n:=M8 c;obtain⟨M1,C,E1⟩:∃M1,l8 KW d (B+3) (.func 13) [.agg cs[i].f.cells,.agg us[i].f.cells] M=some [⟨.bool (cs[i].same us[i]),M1⟩]∧Ext M M1:=⟨_,ab5 j ((o _ l).sh (E _ l)) ((t _ n).sh (F _ n)) B d u,r9 j _⟩;rw [a i b c] at C;have Q:=((o _ l).sh (E _ l)).same;have R:=((t _ n).sh (F _ n)).same;obtain⟨z,v⟩:∃z,z=i+1:=⟨_,rfl⟩;have L:=ak v (by omega);obtain⟨z5,z6,M',g,E2⟩:=ih z (by omega) N (by omega) M1 E1.ok (e.ext E1) (w.ext E1) (λr h=>(o r h).ext E1) (λr h=>(t r h).ext E1) tV tV fV;refine⟨z5,z6,M',?_,E1.trans E2⟩;rw [l9,← g];clear ih a;simp [Rp,A,b,J,K,H,I,C,Q,R,L]
theorem alC {m:Mem}{x y:d9}{cs us:List FR}(l:m.Ok)(e:dn m x cs)(f:dn m y us)(a:cs.length=us.length)(n:cs.length<=1000)(b:∀i (h:i<cs.length)(h':i<us.length),cs[i].same us[i]=true)(p:∀r,r∈cs->r.short)(q:∀r,r∈us->r.short)
  (s:∀r,r∈cs->Z4 m r) (t:∀r,r∈us->Z4 m r) (k c:Nat) (d:20000<=c):∃m',l8 KW c (k+4) (.func 28) [x,y] m=some [⟨tV,m'⟩]∧Ext m m':=by
 have o:=e.len;have j:=f.len;rw [← a] at j;obtain⟨u,v,m',g,E⟩:=Yz a n b p q k c d fV cs.length 0 (by omega) c (by omega) m l e f s t uV uV uV;dsimp only [iN] at g;rw [show ((0:Nat):Int)=0 from rfl] at g;refine⟨m',?_,E⟩;rw [enter (sf:=f28) rfl rfl];simp [f28,o,j,g]
theorem ED {α:Type}(lt:α->α->Prop)(irr:∀a,¬ lt a a)(tr:∀a b c,lt a b->lt b c->lt a c):∀(l m:List α),l.Pairwise lt->m.Pairwise lt->(∀x,x∈l↔x∈m)->l=m
 | [],[],_,_,_=>rfl
 | [],b::m,_,_,h=>absurd ((h b).2 (adR ..)) (by simp)
 | a::l,[],_,_,h=>absurd ((h a).1 (adR ..)) (by simp)
 | a::l,b::m,h1,h2,h=>by
  rw [List.pairwise_cons] at h1 h2;have hab:a=b:=by rcases O9.1 ((h a).1 (adR ..)) with e | e;exact e;rcases O9.1 ((h b).2 (adR ..)) with e' | e';exact e'.symm;exact absurd (tr _ _ _ (h1.1 b e') (h2.1 a e)) (irr a)
  subst hab;rw [ED lt irr tr l m h1.2 h2.2 λx=>⟨λhx=>?_,λhx=>?_⟩];rcases O9.1 ((h x).1 (acr _ hx)) with e | e;subst e;exact absurd (h1.1 x hx) (irr x);exact e;rcases O9.1 ((h x).2 (acr _ hx)) with e | e;subst e;exact absurd (h2.1 x hx) (irr x);exact e
def Xf (r s:FR):Prop:=r.f.room<s.f.room∨(r.f.room=s.f.room∧r.f.no<s.f.no)
theorem ag3 (r:FR):¬ Xf r r:=by unfold Xf;omega
theorem alD (a b c:FR):Xf a b->Xf b c->Xf a c:=by unfold Xf;omega
theorem rY {r:FR}(h:r.valid=true):1<=r.f.room∧r.f.room<=6∧1<=r.f.no∧r.f.no<=60:=by simp only [FR.valid,iA,kC,rW,decide_eq_true_eq] at h;omega
theorem Grown.uniq {L:List FR}(h:Grown L){r s:FR}(n:r∈L)(hs:s∈L)(e:r.f.room=s.f.room)(o:r.f.no=s.f.no):r=s:=by
 have a:r∈L.filter λx=>decide (x.f.room=r.f.room):=by simp [n]
 have b:s∈L.filter λx=>decide (x.f.room=r.f.room):=by simp [hs,e]
 obtain⟨i,l,c⟩:=aCd.1 a;obtain⟨j,m,d⟩:=aCd.1 b;have g:=h.nos r.f.room i l;have k:=h.nos r.f.room j m;rw [c] at g;rw [d] at k;have:i=j:=by omega
 subst this;rw [← c,← d]
theorem Grown.room {L:List FR}(h:Grown L)(k h0:Int):(L.filter (pY k h0)).Pairwise Xf:=by
 have a:(L.filter λx=>decide (x.f.room=k)).Pairwise Xf:=by
  rw [aCE];intro i j b c d;have m:=h.nos k i b;have n:=h.nos k j c;have g:((L.filter λx=>decide (x.f.room=k))[i]).f.room=k:=by have:=M8 b;simp only [adM,decide_eq_true_eq] at this;exact this.2
  have l:((L.filter λx=>decide (x.f.room=k))[j]).f.room=k:=by have:=M8 c;simp only [adM,decide_eq_true_eq] at this;exact this.2
  exact .inr ⟨by rw [g,l],by omega⟩
 have e:L.filter (pY k h0)=(L.filter λx=>decide (x.f.room=k)).filter λx=>decide (h0<x.f.no):=by rw [List.filter_filter];apply List.filter_congr;intro x _;unfold pY;exact Bool.and_comm _ _
 rw [e];exact a.sublist List.filter_sublist
theorem vH (L:List FR)(hs:List Int):∀(k:Nat) (r:FR),r∈lH L hs k↔r∈L∧∃i,i<k∧r.f.room=(i:Int)+1∧hs.getD i 0<r.f.no
 | 0,r=>by simp [lH]
 | k+1,r=>by rw [lH,O5,vH L hs k r,adM];unfold pY;constructor;rintro (⟨h1,i,h2,h3⟩ | ⟨h1,h2⟩);exact⟨h1,i,by omega,h3⟩;simp only [rW,decide_eq_true_eq] at h2;exact⟨h1,k,by omega,h2⟩;rintro⟨h1,i,h2,h3⟩;by_cases hik:i=k;subst hik;exact .inr ⟨h1,by rw [decide_eq_true h3.1,decide_eq_true h3.2];rfl⟩;exact .inl ⟨h1,i,by omega,h3⟩
theorem EG {L:List FR}(h:Grown L)(hs:List Int):∀k,(lH L hs k).Pairwise Xf
 | 0=>List.Pairwise.nil
 | k+1=>by rw [lH,List.pairwise_append];refine⟨EG h hs k,h.room _ _,λa ha b hb=>?_⟩;obtain⟨_,i,h1,h2,_⟩:=(vH L hs k a).1 ha;rw [adM] at hb;have hb:=hb.2;unfold pY at hb;simp only [rW,decide_eq_true_eq] at hb;exact .inl (by omega)
theorem YA {L e:List FR}(h:Grown L)(d:Dd L e):e.Pairwise Xf:=by rw [aCE];intro i j c b a;have k:=d.st i j a b;rw [kZ c,kZ b] at k;have f:=rY (h.valid _ (d.sub _ (M8 c)));have g:=rY (h.valid _ (d.sub _ (M8 b)));unfold FR.key at k;unfold Xf;omega
theorem ac6 {L f:List FR}(h:Grown L)(d:Dd L f)(r:FR):r∈f↔r∈L:=by refine⟨d.sub r,λa=>?_⟩;obtain⟨s,b,c⟩:=d.cov r a;have g:=rY (h.valid _ a);have i:=rY (h.valid _ (d.sub _ b));have e:r=s:=h.uniq a (d.sub s b) (by unfold FR.key at c;omega) (by unfold FR.key at c;omega);rw [e];exact b
theorem YB {L X n:List FR}(j:Grown L)(l:Grown X)(m:L.map FR.cn=X.map FR.cn)(d:Dd L n):n.map FR.cn=(lH X [0,0,0,0,0,0] 6).map FR.cn:=by
 have c:∀{a b:FR},Xf a b->Xf a.cn b.cn:=λh=>h;refine ED Xf ag3 alD _ _ (List.pairwise_map.2 ((YA j d).imp λh=>c h)) (List.pairwise_map.2 ((EG l _ 6).imp λh=>c h)) λx=>?_;rw [acE,acE];constructor;rintro⟨a,k,rfl⟩;have:a.cn∈X.map FR.cn:=by rw [← m];exact List.mem_map_of_mem ((ac6 j d a).1 k)
 obtain⟨b,g,e⟩:=acE.1 this;refine⟨b,(vH X _ 6 b).2 ⟨g,?_⟩,e⟩;have v:=rY (l.valid b g);refine⟨(b.f.room-1).toNat,by omega,by omega,?_⟩;have o:([0,0,0,0,0,0]:List Int).getD (b.f.room-1).toNat 0=0:=by
  have:(b.f.room-1).toNat<6:=by omega
  generalize (b.f.room-1).toNat=i at this;match i,this with
  | 0,_=>rfl
  | 1,_=>rfl
  | 2,_=>rfl
  | 3,_=>rfl
  | 4,_=>rfl
  | 5,_=>rfl
 rw [o];omega;rintro⟨b,g,rfl⟩;have g:=((vH X _ 6 b).1 g).1;have:b.cn∈L.map FR.cn:=by rw [m];exact List.mem_map_of_mem g
 obtain⟨a,k,e⟩:=acE.1 this;exact⟨a,(ac6 j d a).2 k,e⟩
theorem ac7 {m:Mem}{v:d9}{l:List FR}(h:dn m v l)(n:Nat):bS (n+1) v v=true:=by have b:∀k,Nat.beq k k=true:=λk=>acK k;rcases h with⟨rfl,_⟩ | ⟨id,⟨c,rfl⟩ | rfl,_⟩;rfl;show bi (Nat.beq id id) (bi (Nat.beq 0 0) (bi (Nat.beq l.length l.length) (Nat.beq c c) false) false) false=true;rw [b,b,b,b];rfl;show bi (Nat.beq id id) (bi (Nat.beq 0 0) (bi (Nat.beq l.length l.length) (Nat.beq 32 32) false) false) false=true;rw [b,b,b];rfl
theorem alE {lo:Nat}{m:Mem}{p:Nat}{rid:Int}{lv fv:d9}{D:List By}{L:List FR}(h:eD lo m p rid lv fv D L){c:d9}{X:List FR}(W:m.Ok)(hD:D=fU 1 L)(hL:L.length<=200)(V:Grown L)(o:Grown X)(z:L.map FR.cn=X.map FR.cn)(s:dn m c X)(f:∀r∈X,Z4 m r)(B:∀r∈X,r.short)(n a:Nat)(a9:50001<=a):
  ∃m',l8 KW a (n+210) (.func 23) [.ptr p 0,.agg [iV rid,c]] m=some [⟨tV,m'⟩]∧Ext m m':=by
 have a8:X.length=L.length:=by simpa using (congrArg List.length z).symm
 have hl:=h.Aa;have g:∀{M:Mem},Ext m M->M.lim<=M.nx:=λE=>by rw [E.lim];exact nM hl E.nx
 have E0:=r9 W [j5 [iV rid,c]];have q0:(ext m [j5 [iV rid,c]]).get m.nx=some (j5 [iV rid,c]):=by rw [j6 W];rfl
 have R0:=h.ext E0;have O:=als R0 (n+208) a;obtain⟨ac,M1,P,E1,C⟩:=alu R0 E0.ok (by omega) (n+207) a (by omega);have E01:=E0.trans E1;have q1:M1.get m.nx=some (j5 [iV rid,c]):=by rw [E1.old _ (by simp)];exact q0
 obtain⟨ad,M2,Q,E2,F⟩:=alx (rid:=rid) E01.ok (g E01) (s.ext E01) (by omega) (n+207) a (by omega);have E02:=E01.trans E2;have t:=E1.nx;have q2:M2.get m.nx=some (j5 [iV rid,c]):=by rw [E2.old _ (by simp at t;omega)];exact q1
 have x:=Pf (C.ext E2) F (by simp [Ac]) (n+208) a (by omega);rw [decide_eq_true (show Ac L 6=EC X 6 by rw [alv,afZ z])] at x;obtain⟨aa,M3,I,cs,J,E3,hd,u,T,l,A,a6,_⟩:=alA (h.ext E02) E02.ok hL n a (by omega);have E03:=E02.trans E3;have n2:=E2.nx;have q3:M3.get m.nx=some (j5 [iV rid,c]):=by rw [E3.old _ (by simp at t;omega)];exact q2
 obtain⟨ae,M4,R,E4,v⟩:=alB (rid:=rid) E03.ok (g E03) (s.ext E03) (λr b=>(f r b).ext E03) (by omega) (n+207) a (by omega);have E04:=E03.trans E4;have n3:=E3.nx;have q4:M4.get m.nx=some (j5 [iV rid,c]):=by rw [E4.old _ (by simp at t;omega)];exact q3
 have k:=YB V o z hd;have Z:(lH X [0,0,0,0,0,0] 6).length=I.length:=by simpa using (congrArg List.length k).symm
 have d:∀r∈lH X [0,0,0,0,0,0] 6,r∈X:=λr b=>((vH X _ 6 r).1 b).1;obtain⟨M5,N,E5⟩:=alC (cs:=cs) (us:=lH X [0,0,0,0,0,0] 6) E04.ok (u.ext E4) v (by rw [T,Z]) (by omega) (λi h1 h2=>by
   have y:i<I.length:=by omega
   have e1:=(l i h1 y).cn;have H:(I.map FR.cn)[i]?=((lH X [0,0,0,0,0,0] 6).map FR.cn)[i]?:=by rw [k]
   rw [acs,acs,cB y,cB h2] at H;have H:=su H;exact WH.2 (e1.trans H)) (λr b=>by
   obtain⟨i,hi,e⟩:=aCd.1 b;have y:i<I.length:=by omega
   rw [← e];exact (l i hi y).short (h.sh _ (hd.sub _ (M8 y)))) (λr b=>B r (d r b)) (λr b=>(A r b).ext E4) (λr b=>(f r (d r b)).ext E04) (n+205) a (by omega)
 have E05:=E04.trans E5;have n4:=E4.nx;have q5:M5.get m.nx=some (j5 [iV rid,c]):=by rw [E5.old _ (by simp at t;omega)];exact q4
 obtain⟨_,_,_,_,_,bd⟩:=ac5 (rid:=rid) W hl s f o.valid (by omega) n a (by omega);have a7:D.length<=2000:=by rw [hD,Sz z];omega
 obtain⟨ab,M6,K,E6,j⟩:=alz (h.ext E05) E05.ok (by omega) (n+207) a;have E06:=E05.trans E6;have n5:=E5.nx;have q6:M6.get m.nx=some (j5 [iV rid,c]):=by rw [E6.old _ (by simp at t;omega)];exact q5
 obtain⟨af,M7,S,E7,G,_⟩:=ac5 (rid:=rid) E06.ok (g E06) (s.ext E06) (λr b=>(f r b).ext E06) o.valid (by omega) (n+189) a (by omega);have E07:=E06.trans E7;have n6:=E6.nx;have q7:M7.get m.nx=some (j5 [iV rid,c]):=by rw [E7.old _ (by simp at t;omega)];exact q6
 have w:=al3 (AP (j.ext E7)) G (by omega) (n+208) a (by omega);rw [decide_eq_true (show D=fU 1 X by rw [hD,Sz z])] at w;refine⟨M7,?_,E07⟩;have eP:qV (.ptr p 0) .nilPtr=some false:=rfl;have Y:=ac7 s 98;have U:=s.cells;have a2:=λ{β:Type} (p:d9->β) q=>C.aY p q;have a3:=λ{β:Type} (p:d9->β) q=>F.aY p q;have a0:=λ{β:Type} (p:d9->β) q=>u.aY p q;have a4:=λ{β:Type} (p:d9->β) q=>v.aY p q;have a1:=λ{β:Type} (p:d9->β) q=>(AP j).aY p q;have a5:=λ{β:Type} (p:d9->β) q=>G.aY p q;clear g l A B f d k;rw [enter (sf:=f23) rfl rfl];simp [f23,o9,w9,A8,eP,q0,O,P,q1,Q,x,q2,J,R,q3,N,q4,q5,K,q6,S,q7,w,Y,U,a2,a3,a0,a4,a1,a5,J2,FJ,FI,JV]
theorem ag4 {m:Mem}{v:d9}{ws:List By}(s:dB m v (strs ws))(hb:ws.length<=80)(cf:H7)(l:Nat):∀(j i:Nat),i+j=ws.length->∀(N:Nat),j<N->∀(a3 a4:d9),
  (∃c4,(∀w∈ws.drop i,w.length<=200)∧J5 (λenv m k=>BA cf l none env m k) N (SQ v fV (iN i) a3 a4 fV) m []=some [⟨.exit 0,(SQ v fV (iN (ws.length)) fV c4 fV),m,[],none⟩])∨
  (∃c2 c3 c4,J5 (λenv m k=>BA cf l none env m k) N (SQ v fV (iN i) a3 a4 fV) m []=some [⟨.ret,(SQ v fV c2 c3 c4 fV),m,[],none⟩]):=by
 have a:=s.len;rw [G8] at a;have e:(ws.length:Int)<=80:=by omega
 intro j;induction j with
 | zero=>
  intro i y N u a3 a4;obtain⟨N,rfl⟩:∃k,N=k+1:=⟨N-1,by omega⟩;obtain rfl:i=ws.length:=by omega
  refine .inl ⟨a4,by simp,?_⟩;rw [l9];simp [BA,a]
 | succ j ih=>
  intro i y N u a3 a4;obtain⟨N,rfl⟩:∃k,N=k+1:=⟨N-1,by omega⟩;have b:i<ws.length:=by omega
  obtain⟨id,o,p,_,c3⟩:=s.at (i:=i) (by rw [G8];exact b);have f:(strs ws)[i]'(by rw [G8];exact b)=.str ws[i]:=by simp [strs]
  rw [f] at c3;simp at p;obtain⟨q,r⟩:∃q,q=i+1:=⟨_,rfl⟩;have t:=ak r (by omega);by_cases h2:200<ws[i].length;have d:(200:Int)<(ws[i].length:Int):=by omega
  refine .inr ⟨(iN i),tV,tV,?_⟩;rw [l9];simp [BA,a,b,hb,e,p,c3,h2,d];have d:¬ (200:Int)<(ws[i].length:Int):=by omega
  have c:∀R:Option (List Out),J5 (λenv m k=>BA cf l none env m k) N (SQ v fV (iN q) tV fV fV) m []=R->J5 (λenv m k=>BA cf l none env m k) (N+1) (SQ v fV (iN i) a3 a4 fV) m []=R:=λR x=>by rw [l9,← x];simp [BA,a,b,hb,e,p,c3,h2,d,t]
  rcases ih q (by omega) N (by omega) tV fV with⟨c4,h,g⟩ | ⟨c2,c3',c4,g⟩;refine .inl ⟨c4,λw n=>?_,c _ g⟩;rw [M0 b] at n;rcases O9.1 n with rfl | n;omega;exact h w (by rw [r];exact n);exact .inr ⟨c2,c3',c4,c _ g⟩
theorem alF {m:Mem}{v:d9}{ws:List By}(o:dB m v (strs ws))(n f:Nat)(r:2000<=f):
  ∃b,l8 KW f (n+1) (.func 20) [v] m=some [⟨.bool b,m⟩]∧(b=true->(ws.length<=80∧∀w∈ws,w.length<=200)∨4000<ws.length):=by
 have a:=o.len;rw [G8] at a;rw [enter (sf:=f20) rfl rfl];by_cases h1:ws.length<=80;have c:¬ (80:Int)<(ws.length:Int):=by omega
 have j:¬ (4010:Int)<(ws.length:Int):=by omega
 have d:¬ 80<ws.length:=by omega
 have l:¬ 4010<ws.length:=by omega
 rcases ag4 o h1 (l8 KW f n) f ws.length 0 (by omega) f (by omega) uV uV with⟨c4,h,g⟩ | ⟨c2,c3,c4,g⟩;refine⟨true,?_,λ_=>.inl ⟨h1,by simpa using h⟩⟩;simp at g;simp [f20,a,c,j,d,l,g];refine⟨false,?_,λh=>by cases h⟩;simp at g;simp [f20,a,c,j,d,l,g];have c:(80:Int)<(ws.length:Int):=by omega
 have d:80<ws.length:=by omega
 by_cases h3:ws.length<=4000;have e:(ws.length:Int)<=4000:=by omega
 refine⟨false,?_,λh=>by cases h⟩;simp [f20,a,c,d,h3,e];have e:¬ (ws.length:Int)<=4000:=by omega
 by_cases h4:4010<ws.length;have i:(4010:Int)<(ws.length:Int):=by omega
 refine⟨false,?_,λh=>by cases h⟩;simp [f20,a,c,d,h3,e,h4,i];have i:¬ (4010:Int)<(ws.length:Int):=by omega
 refine⟨true,?_,λ_=>.inr (by omega)⟩;obtain⟨f,rfl⟩:∃k,f=k+1:=⟨f-1,by omega⟩;have p:0<ws.length:=by omega
 have q:¬ (ws.length:Int)<=80:=by omega
 simp [f20,BA,l9,a,h1,c,d,h3,e,h4,i,p,q]
theorem ayk (n a:Nat)(m:Mem):l8 KW a (n+1) (.func 8) [] m=some [⟨tV,m⟩]:=by rw [mJ];have h:KW.fns 8=some {f8 with pure:=true}:=rfl;simp only [h,I9,aH];rfl
theorem WZ.le {L:List FR}{d:List By}{X:List FR}(h:WZ L d X):L.length<=200->X.length<=200:=by
 induction h with
 | stop _=>exact id
 | @step L L' d r h _ _ ih=>intro _;exact ih (by have:=h.1;simp;omega)
theorem ayl {m:Mem}(B:m.Ok)(A:m.lim<=m.nx){v:d9}{ws:List By}(y:Dsk m.nx m v ws)(H:Kn v)(id:Int)(n p:Nat)(s:50001<=p):
  ∃m',l8 KW p (n+211) (.func 5) [iV id,v] m=some [⟨tV,m'⟩]∧Ext m m':=by
 obtain⟨b,q,D⟩:=alF y.e.vs (n+209) p (by omega);have z:=λm=>ayk (n+209) p m;have lim:∀{M:Mem},Ext m M->M.lim<=M.nx:=λE=>by rw [E.lim];exact nM A E.nx
 cases b with
 | false=>refine⟨m,?_,Ext.refl B⟩;rw [enter (sf:=f5) rfl rfl];simp [f5,o9,w9,A8,q,z]
 | true=>
  have D:=D rfl;have a:ws.length<=4000->ws.length<=80∧∀w∈ws,w.length<=200:=λh=>by rcases D with f | f;exact f;omega
  have O:ws.length<=4000->Yw v [] ws:=λh=>by
   obtain⟨f,u⟩:=a h;refine⟨λw t=>by have:=u w t;omega,λ_ _ _=>.inl H,λL' P I k _=>?_⟩;obtain⟨j,rfl⟩:=I.drop;have:=EA (b:=200) (ws:=((ws.drop j).drop 1).take k) λw t=>u w (acQ (acQ (acF t)));have N:(((ws.drop j).drop 1).take k).length<=80:=by simp;omega
   have Q:=U0 200 N;omega
  have F:∀{M:Mem},Ext m M->Dsk M.nx M v ws:=λ{M} E=>by rcases y with⟨e,h⟩ | ⟨h,f,u⟩;exact .inl ⟨e,h.ext E⟩;exact .inr ⟨h.ext E,λi o l c e=>aP (f i o l c e) E.nx,λi o l c e=>aP (u i o l c e) E.nx⟩
  have J:qV .nilPtr .nilPtr=some true:=rfl;rcases alq B A y O id (n+195) p (by omega) with⟨f,g21⟩ | ⟨f,u,g21⟩ | ⟨f,u,M1,lv,fv,L,g21,E1,R,opn,hg,hL⟩;rcases Vv B A y (λh w t=>by have:=(a h).2 w t;omega) id (n+189) p s with⟨k1,M2,g22,E2⟩ | ⟨k1,_⟩ | ⟨k1,_⟩;have d:=E2.ok;have g:=lim E2;refine⟨_,?_,E2.trans (r9 d [j5 [iZ,nS]])⟩;rw [enter (sf:=f5) rfl rfl];simp [f5,o9,w9,A8,ku d g,q,z,g21,g22,J];exact absurd k1 f;exact absurd k1 f;rcases Vv B A y (λh w t=>by have:=(a h).2 w t;omega) id (n+189) p s with⟨k1,_⟩ | ⟨k1,k2,M2,g22,E2⟩ | ⟨k1,k2,_⟩;exact absurd f k1;have d:=E2.ok;have g:=lim E2;refine⟨_,?_,E2.trans (r9 d [j5 [iZ,nS]])⟩;rw [enter (sf:=f5) rfl rfl];simp [f5,o9,w9,A8,ku d g,q,z,g21,g22,J];omega;rcases Vv E1.ok (lim E1) (F E1) (λh w t=>by have:=(a h).2 w t;omega) id (n+189) p s with⟨k1,_⟩ | ⟨k1,k2,_⟩ | ⟨k1,k2,M2,fx,X,g22,E2,hx,hwx,hsx,opn',hg',hX⟩;exact absurd f k1;omega;have K:=opn.uniq rfl opn';have E02:=E1.trans E2;have d:=E02.ok;have g:=lim E02;have E3:=r9 d [j5 [iV id,fx]];have x:L.length<=200:=opn.le (by simp);obtain⟨M4,C,E4⟩:=alE ((R.ext E2).ext E3) E3.ok rfl x hg hg' K (hx.ext E3) (λr I=>(hwx r I).ext E3) hsx n p s;refine⟨M4,?_,(E02.trans E3).trans E4⟩;have G:=hx.cells;rw [enter (sf:=f5) rfl rfl];clear opn opn' hg hg' hwx hsx K R;rcases hx with⟨rfl,_⟩ | ⟨_,⟨_,rfl⟩ | rfl,_⟩<;>simp [f5,o9,w9,A8,ku d g,q,z,g21,g22,G,C]
end Go.Proofs.YtfnlnpllpfhhnaaGreatDoor.TT
