/- Functions of the program and of the specification, walked; conditions: the memory holds what the arguments say. -/
import Derived.Test.YtpmfjipaheolgaaGreatDoorPD3
set_option linter.all false
namespace Go.Proofs.YtpmfjipaheolgaaGreatDoor.TT
open Go Go.AM
set_option maxRecDepth 100000
set_option maxHeartbeats 16000000
open Nat (beq ble blt)
variable {m:cD}{v:j5}{xs:cQ}
def ac7(h:U5 m v xs):AM.lenOf v=some (ints xs).length:=by
 have e:(ints xs).length=xs.length:=by simp[ints]
 rw[e];rcases h with⟨rfl,rfl⟩|⟨id,⟨c,rfl⟩|⟨c,rfl⟩,_⟩<;>rfl
def afy(h:U5 m v xs):Z8 m 1 (ints xs).length v=some (ints xs):=by
 have e:(ints xs).length=xs.length:=by simp[ints]
 rw[e];exact h.read
variable {lo:Nat}
def aiI{bytes:Nat}{x:j5}{l xs:cM}(o:m.Ok)(a:m.lim<=lo)(c:lo<=m.nx)(h:aO lo m v l)(d:AM.lenOf x=some xs.length)(e:Z8 m 1 xs.length x=some xs)(k:H8 xs=true)(hb:l.length+xs.length<=100000)(b:1<=bytes∧bytes<=1000):
   ∃v' m',(∀(s y:OF) (cf:G6) (ls:cM) (env:T j5),s ls env=v->y ls env=x->lu 1 bytes s y cf ls env m=some [⟨v',m'⟩])∧aO lo m' v' (l++xs)∧Fr lo lo m m':=by
 obtain⟨v',m',g,i,j⟩:=Xa o a c h k hb b;refine⟨v',m',λs y cf ls env p q=>?_,i,j⟩;show ob (AM.lenOf (y ls env)) (λn=>ob (Z8 m 1 n (y ls env)) λf=>jS m 1 bytes n f (s ls env))=_;rw[q,p,d,I6,e,I6,g]
variable {r:FR}
def aiJ(I:m.Ok)(H:m.lim<=m.nx)(K:J9 m r)(M:r.valid=true)(w:r.f.kind=6)(n j:Nat)(o:20001<=j):
   ∃m',l9 KW j (n+18) (.func 226) [.agg r.f.cells] m=some [⟨.str (C8 r),m'⟩]∧cE m m':=by
 obtain⟨c,h⟩:=txh I H M n j o;obtain⟨N,O,Y⟩:=(gM M).k6 w;have P:U7 r=C9 vP (r.f.mday::r.l):=by rw[U7,aE (show¬ r.f.kind=1 by omega),aE (show¬ r.f.kind=2 by omega),aE (show¬ r.f.kind=3 by omega),aE (show¬ r.f.kind=4 by omega),aE (show¬ r.f.kind=5 by omega),cg w];exact(Zo vP [r.f.mday] r.l).symm
 obtain⟨g,k,q,Z,V,W,X⟩:=h;have b:=k.ok;have e:c.lim<=c.nx:=by rw[k.lim];have:=k.nx;omega
 have E2:=o8 b [j6 [iV r.f.mday]];have t:=(K.ext k).ext E2;have D:(ints r.l).length=r.l.length:=by simp[ints]
 obtain⟨A,m2,Q,J,F2⟩:=aiI (bytes:=8) (lo:=c.nx) E2.ok (by rw[E2.lim];exact e) E2.nx (Qe b (aA _) (iV r.f.mday) rfl) (ac7 t.l) (afy t.l) (Sc _) (by rw[D];simp;omega) ⟨Zs,Zs⟩;have E3:cE c m2:=(E2.fr (p:=c.nx) (aA _) |>.trans F2).ext (aA _) (aA _)
 have E:aO c.nx m2 A (ints (r.f.mday::r.l)):=J;obtain⟨R,u,E4⟩:=nP (v:=A) (xs:=r.f.mday::r.l) E3.ok (by rw[E3.lim];have:=E3.nx;omega) E.sl ZD (λy F=>by
  rcases O4.1 F with rfl|F;exact N;exact O y F) vP (by simp[vP]) n j o
 have u:l9 KW j (n+17) (.func 227) [.str [109,105,120],A] m2=_:=u;rw[← P]at u;refine⟨R,?_,(k.trans E3).trans E4⟩;have U:∀G,(ext c G).get m.nx=some (j6 r.f.cells):=λG=>by rw[H6 b _ Zs];exact q
 rw[w]at g;have S:=λ{β:Type} (p:j5->β) q=>J.vs.aL p q;have pl:=λ{β:Type} (p:j5->β) q=>K.l.aL p q;have C:∀z x i a d,List.length z=1->J2 1 1 z x i a d=ob (lay x i a z) λcells=>if cells.length=1 then some (.slice d 0 1 1,some (j6 cells))else none:=λz x i a d h=>I5 1 z x i a d h
 have B:∀(s y:OF) (cf:G6) (i:cM) (a:T j5),s i a=.slice c.nx 0 1 1->y i a=r.f.L->lu 1 8 s y cf i a (ext c [j6 [iV r.f.mday]])=some [⟨A,m2⟩]:=Q;rw[en f226];simp (maxSteps:=3000000) [f226,dD,fA,fM,ay I H,jf,aW,bH,bR,dh b e,Q8,C,aJ,aI,w,g,q,U,V,W,X,B,S,u]
def aiK(S:m.Ok)(R:m.lim<=m.nx)(j:J9 m r)(K:r.valid=true)(E:r.f.kind=5)(n d:Nat)(e:20001<=d):
   ∃m',l9 KW d (n+18) (.func 226) [.agg r.f.cells] m=some [⟨.str (C8 r),m'⟩]∧cE m m':=by
 obtain⟨i,h⟩:=txh S R K n d e;obtain⟨V,N,O,b4,b5⟩:=(gM K).k5 E;have o:∀y∈[r.f.cday,r.f.diff,r.f.err,r.f.hlo,r.f.hhi],Sm y:=by simpa using V
 obtain⟨g,s,q,nx,s1,_,s3⟩:=h;have c:=s.ok;have u:i.lim<=i.nx:=by rw[s.lim];have:=s.nx;omega
 let c5:Y9:=.cells 1 5 (T.ofList [[iV r.f.cday],[iV r.f.diff],[iV r.f.err],[iV r.f.hlo],[iV r.f.hhi]])
 have E1:=o8 c [j6 r.f.cmp,c5];have I:=(j.ext s).ext E1;obtain⟨C,D,E2⟩:=nP (v:=.slice (i.nx+1) 0 5 5) (xs:=[r.f.cday,r.f.diff,r.f.err,r.f.hlo,r.f.hhi]) E1.ok (by rw[E1.lim];have:=E1.nx;omega) (gJ (by rw[r9 c];rfl) ZZ rfl) ZZ o V8 (by simp[V8]) n d e;have D:l9 KW d (n+17) (.func 227) [.str [99,111,109,112,97,114,101],.slice (i.nx+1) 0 5 5] (ext i [j6 r.f.cmp,c5])=_:=D;have w:C.lim<=C.nx:=by rw[E2.lim,E1.lim];have:=E1.nx;have:=E2.nx;omega
 have t:=I.ext E2;obtain⟨F,G,E3⟩:=nP E2.ok w t.a Zs N (32::kA) (by simp[kA]) n d e;have G:l9 KW d (n+17) (.func 227) [.str [32,97],r.f.A] C=_:=G;have z:F.lim<=F.nx:=by rw[E3.lim];have:=E3.nx;omega
 have J:=t.ext E3;obtain⟨Z,H,E4⟩:=nP E3.ok z J.b Zs O (32::kB) (by simp[kB]) n d e;have H:l9 KW d (n+17) (.func 227) [.str [32,98],r.f.B] F=_:=H;refine⟨Z,?_,(((s.trans E1).trans E2).trans E3).trans E4⟩;have q':∀P,(ext i P).get m.nx=some (j6 r.f.cells):=λP=>by rw[H6 c _ Zs];exact q
 have Q:C.get i.nx=some (j6 r.f.cmp):=by rw[E2.old _ ZZ,l8 c];rfl
 have W:F.get i.nx=some (j6 r.f.cmp):=by rw[E3.old _ (by have:=E2.nx;simp at this;omega)];exact Q
 have v2:∀l:Y9,C.get (i.nx+1)=some c5:=λ_=>by rw[E2.old _ ZZ,r9 c];rfl
 have pa:=λ{β:Type} (p:j5->β) q=>j.a.aL p q;have pb:=λ{β:Type} (p:j5->β) q=>j.b.aL p q;have sa:bg 100 r.f.A r.f.A=true:=gG j.a 99;have sb:bg 100 r.f.B r.f.B=true:=gG j.b 99;have oa:=j.a.D8;have M:=j.b.D8;have o3:H8 r.f.cmp=true:=by simp[D6.cmp,oa,M,show∀k x,D8 (.int k x)=true from λ_ _=>rfl,-D6.bD]
 have l0:=jM K;have L:=aH V8 [r.f.cday,r.f.diff,r.f.err,r.f.hlo,r.f.hhi] o;have U:=aH (32::kA) r.a N;have Y:=aH (32::kB) r.b O;have X:U7 r=C9 V8 [r.f.cday,r.f.diff,r.f.err,r.f.hlo,r.f.hhi]++C9 (32::kA) r.a++C9 (32::kB) r.b:=by rw[U7,aE (show¬ r.f.kind=1 by omega),aE (show¬ r.f.kind=2 by omega),aE (show¬ r.f.kind=3 by omega),aE (show¬ r.f.kind=4 by omega),cg E]
 have t1:fZ (C9 K5 (G9 r)++[10]) (C9 V8 [r.f.cday,r.f.diff,r.f.err,r.f.hlo,r.f.hhi])=some (.str (C9 K5 (G9 r)++10::C9 V8 [r.f.cday,r.f.diff,r.f.err,r.f.hlo,r.f.hhi])):=by rw[Z4 (by simp[V8]at L ⊢;omega)];simp
 have t2:fZ (C9 K5 (G9 r)++10::C9 V8 [r.f.cday,r.f.diff,r.f.err,r.f.hlo,r.f.hhi]) (C9 (32::kA) r.a)=some (.str (C9 K5 (G9 r)++10::(C9 V8 [r.f.cday,r.f.diff,r.f.err,r.f.hlo,r.f.hhi]++C9 (32::kA) r.a))):=by rw[Z4 (by simp[V8,kA]at L U ⊢;omega)];simp
 have t3:fZ (C9 K5 (G9 r)++10::(C9 V8 [r.f.cday,r.f.diff,r.f.err,r.f.hlo,r.f.hhi]++C9 (32::kA) r.a)) (C9 (32::kB) r.b)=some (.str (C9 K5 (G9 r)++10::U7 r)):=by rw[Z4 (by simp[V8,kA,kB]at L U Y ⊢;omega),X];simp
 rw[E]at g;simp only[c5]at D;rw[en f226];simp (maxSteps:=3000000) [f226,ay S R,jf,aW,bH,bR,dD,fA,fM,dh c u,Q8,aJ,aI,E,g,q,q',s1,s3,t1,t2,t3,D,G,H,Q,W,sa,sb,o3,isVoid,aie]
def XE(e:m.Ok)(d:m.lim<=m.nx)(g:J9 m r)(c:r.valid=true)(n b:Nat)(a:20001<=b):
   ∃m',l9 KW b (n+18) (.func 226) [.agg r.f.cells] m=some [⟨.str (C8 r),m'⟩]∧cE m m':=by
 obtain⟨h,i⟩:=jw c;by_cases h1:r.f.kind=1;exact aiD e d g c h1 n b a;by_cases h2:r.f.kind=2;exact aiE e d g c h2 n b a;by_cases h3:r.f.kind=3;exact aiF e d g c h3 n b a;by_cases h4:r.f.kind=4;exact aiG e d g c h4 n b a;by_cases h5:r.f.kind=5;exact aiK e d g c h5 n b a;by_cases h6:r.f.kind=6;exact aiJ e d g c h6 n b a;by_cases h7:r.f.kind=7;exact aiH e d g c h7 n b a;omega
def ac8(f p no:j5)(s:By)(Q:s.length<=20000)(cf:G6)(K:Nat):∀(k i:Nat),s.length<=i+k->i<=s.length+64->∀(l:cP) (m:cD) (out a4:j5) (N:Nat),m.Ok->m.lim<=lo->lo<=m.nx->aO lo m out (strs l)->l.length<=i->k+1<=N->
   ∃(out' i':j5) (m':cD),I9 (λenv m k=>Cv cf K none env m k) N (.nd (.nd (.nd (.nd .e .nilSlice .e) (.str s) .e) p (.nd .e out .e)) f (.nd (.nd .e a4 .e) (.int .i64 (i:Int)) (.nd .e no .e))) m []=some [⟨.exit 0,(.nd (.nd (.nd (.nd .e .nilSlice .e) (.str s) .e) p (.nd .e out' .e)) f (.nd (.nd .e (.bool false) .e) i' (.nd .e no .e))),m',[],none⟩]∧Fr lo lo m m'∧aO lo m' out' (strs (l++chunks (s.drop i))):=by
 intro k;induction k with
 |zero=>intro i hi A l m out a4 N n u b o O M;obtain⟨N,rfl⟩:=sx N;have j:decide ((i:Int)<(s.length:Int))=false:=decide_eq_false Zs;refine⟨out,.int .i64 (i:Int),m,?_,Fr.refl n,by rw[su Zs,dF,agA];exact o⟩;rw[o7];simp[Cv,dD,fA,fM,gW,jX,jG,j,show¬ i<s.length from by omega]
 |succ k ih=>
  intro i hi A l m out a4 N n u b o O M;obtain⟨N,rfl⟩:=sx N;by_cases h0:i<s.length;have j:decide ((i:Int)<(s.length:Int))=true:=co Zs;have B:s.drop i≠[]:=λh=>by have:=ci List.length h;simp at this;omega
  have S:=λ{β:Type} (p:j5->β) q=>o.vs.aL p q;have I:kY ((i:Int)+64)=((i+64:Nat):Int):=by rw[Z7 Zs Zs];omega
  have G:∀(x y:OF) (ls:cM) (env:T j5),x ls env=.int .i64 (s.length:Int)->y ls env=.int .i64 ((i+64:Nat):Int)->pMm false x [y] ls env=some (.int .i64 ((min s.length (i+64):Nat):Int)):=λx y ls env D R=>Ir D R;have E:=λx lo hi ls env D u P=>Nh (x:=x) (lo:=lo) (hi:=hi) (ls:=ls) (env:=env) (s:=s) (l:=i) (h:=min s.length (i+64)) D u P Zs (axN _ _);have J:(s.drop i).take (min s.length (i+64)-i)=(s.drop i).take 64:=by rw[← Td (s.drop i)];congr 1;simp;omega
  rw[J]at E;generalize hz:((i+64:Nat):Int)=Z at I G;generalize ((min s.length (i+64):Nat):Int)=Y at G E;have E2:=(cE.refl n).new (j6 [.str ((s.drop i).take 64)]);obtain⟨d,m3,L,r,F3⟩:=uH (bytes:=16) E2.ok (by show m.lim<=lo;omega) (dn b E2.nx) (o.ext E2) (Aa n (.str ((s.drop i).take 64))) rfl (by rw[G7];simp;omega) ⟨Zs,Zs⟩;have FF:Fr lo lo m m3:=(E2.fr b).trans F3;have t:aO lo m3 d (strs (l++[(s.drop i).take 64])):=by rw[vM];exact r
  have H:=λ{β:Type} (p:j5->β) q=>r.vs.aL p q;have w:∀z v ls env c,List.length z=1->J2 1 1 z v ls env c=ob (lay v ls env z) λa=>if a.length=1 then some (.slice c 0 1 1,some (j6 a))else none:=λz v ls env c h=>I5 1 z v ls env c h
  obtain⟨out',i',m',g,F,C⟩:=ih (i+64) Zs Zs (l++[(s.drop i).take 64]) m3 d (.bool true) N FF.ok (by rw[FF.lim];exact u) (dn b FF.nx) t ZD Zs;refine⟨out',i',m',?_,FF.trans F,?_⟩;rw[hz]at g;rw[o7,← g];simp[Cv,dD,fA,fM,gW,jX,jG,j,h0,I,G,E,S,H,w,jf,L];rw[ji B,ajs];simpa using C;have j:decide ((i:Int)<(s.length:Int))=false:=decide_eq_false Zs;refine⟨out,.int .i64 (i:Int),m,?_,Fr.refl n,by rw[su Zs,dF,agA];exact o⟩;rw[o7];simp[Cv,dD,fA,fM,gW,jX,jG,j,h0]
def XF(D:m.Ok)(P:m.lim<=m.nx)(Q:J9 m r)(I:r.valid=true)(no:Int)(E:Sm no)(n b:Nat)(l:20001<=b):
   ∃v m',l9 KW b (n+19) (.func 145) [.int .i64 no,.agg r.f.cells] m=some [⟨v,m'⟩]∧cE m m'∧dV m' v (strs (iQ no (C8 r))):=by
 have E0:=o8 D [j6 r.f.cells];obtain⟨j,K,E1⟩:=XE (I7 D [j6 r.f.cells]) ZD (Q.ext E0) I n b l;have E01:=E0.trans E1;have X:=eF I;have R:j.lim<=j.nx:=by rw[E01.lim];have:=E01.nx;omega
 obtain⟨S,V,m2,A,F2,u⟩:=ac8 (lo:=j.nx) (.agg r.f.cells) (.ptr m.nx 0) (.int .i64 no) (C8 r) Zs (l9 KW b (n+18)) b (C8 r).length 0 Zs Zs [] j .nilSlice .undef b E1.ok R (aA _) (aO.nil _ _) ZZ Zs;have A:I9 (λa m k=>Cv (l9 KW b (n+18)) b none a m k) b (.nd (.nd (.nd (.nd .e .nilSlice .e) (.str (C8 r)) .e) (.ptr m.nx 0) (.nd .e .nilSlice .e)) (.agg r.f.cells) (.nd (.nd .e .undef .e) (.int .i64 0) (.nd .e (.int .i64 no) .e))) j []=_:=A;have E2:cE j m2:=F2.ext (aA _) (aA _);rw[O9,W9]at u;have C:=gI _ _ (aA (C8 r).length);have M:=afn (C8 r) Zs (n+17) b Zs m2;let b4:Y9:=.cells 1 4 (T.ofList [[.int .i64 no],[.int .i64 ((chunks (C8 r)).length:Int)],[.int .i64 ((C8 r).length:Int)],[.int .i64 (mW (C8 r):Int)]])
 have E3:=o8 E2.ok [b4];have U:=Es (C8 r);have G:∀x∈[no,((chunks (C8 r)).length:Int),((C8 r).length:Int),(mW (C8 r):Int)],Sm x:=by intro x J;simp only[O4,arj,or_false]at J;rcases J with rfl|rfl|rfl|rfl;exact E;all_goals unfold Sm;omega
 obtain⟨c,t,E4⟩:=nP (v:=.slice m2.nx 0 4 4) (xs:=[no,((chunks (C8 r)).length:Int),((C8 r).length:Int),(mW (C8 r):Int)]) E3.ok (by rw[E3.lim,E2.lim];have:=E3.nx;have:=E2.nx;omega) (gJ (by rw[l8 E2.ok];rfl) ZZ rfl) ZZ G bZ (by simp[bZ]) (n+1) b l;let L:=C9 bZ [no,((chunks (C8 r)).length:Int),((C8 r).length:Int),(mW (C8 r):Int)]
 have t:l9 KW b (n+18) (.func 227) [.str [114,101,99,111,114,100],.slice m2.nx 0 4 4] (ext m2 [b4])=some [⟨.str L,c⟩]:=t;have E34:=E3.trans E4;have E5:=o8 E4.ok [j6 [.str L]];have o:(ext c [j6 [.str L]]).lim<=c.nx:=by rw[E5.lim,E34.lim,E2.lim];have:=E34.nx;have:=E2.nx;omega
 have F:aO c.nx (ext c [j6 [.str L]]) (.slice c.nx 0 1 1) [.str L]:=Qe (lo:=c.nx) (m:=c) E4.ok (aA _) (.str L) rfl;obtain⟨v,m5,N,s,F5⟩:=uH (bytes:=16) (lo:=c.nx) E5.ok o E5.nx F ((u.ext E34).ext E5).vs (rX _) (by rw[G7];simp;omega) ⟨Zs,Zs⟩;have E6:cE c m5:=⟨F5.ok,dn E5.nx F5.nx,by rw[F5.lim];exact E5.lim,λi O=>by rw[F5.old i Zs Zs];exact E5.old i O⟩;have W:=λ{β:Type} (p:j5->β) q=>u.vs.aL p q;have H:=λ{β:Type} (p:j5->β) q=>s.vs.aL p q;have g:=u.vs.len;rw[G7]at g;have B:∀z y w a d,List.length z=1->J2 1 1 z y w a d=ob (lay y w a z) λcells=>if cells.length=1 then some (.slice d 0 1 1,some (j6 cells))else none:=λz y w a d h=>I5 1 z y w a d h
 refine⟨v,m5,?_,((E01.trans E2).trans E34).trans E6,s.vs⟩;simp only[b4]at t;rw[en f145];simp[f145,dD,fA,fM,o9,dh D P,jf,bH,K,A,M,t,N,H,g,B,Q8,aJ,aI]
def xg(c:cL):∀l,((cA c l).map List.length).sum+(cA c l).length=l.length+1
 |[]=>by simp[cA]
 |b::l=>by have ih:=xg c l;rw[cA];split;simp;omega;obtain⟨w,ws,h⟩:=mO c l;rw[h]at ih ⊢;simp[SL]at ih ⊢;omega
def xk(c:cL):∀l,∀x∈cA c l,x.length<=l.length
 |[],x,hx=>by simp[cA]at hx;subst hx;simp
 |b::l,x,hx=>by rw[cA]at hx;split at hx;rcases O4.1 hx with rfl|hx;simp;have:=xk c l x hx;simp;omega;obtain⟨w,ws,h⟩:=mO c l;have ih:=xk c l;rw[h]at hx ih;rcases O4.1 hx with rfl|hx;have:=ih w ZZ;simp;omega;have:=ih x (by simp[hx]);simp;omega
def AO:∀(k:Nat) (ws:cP),(aK k ws).1.length<=ws.length∧(aK k ws).2.length<=ws.length
 |_,[]=>by simp[aK]
 |k,w::ws=>by have i1:=AO 1 ws;have i2:=AO 2 ws;have i3:=AO k ws;rw[aK];split;simp;omega;split;simp;omega;split;simp;omega;split;simp;omega;simp;omega
def NN(w:By)(ws:cP)(a:Nat):a<=(dU (w::ws) a).length∧((dU (w::ws) a).length<=max a ws.length):=by simp[dU,zY];omega
def Zp(w:cP)(a:Nat):∀x∈dU w a,ah x:=by intro x b;simp only[dU,zY,LA,adg,List.mem_replicate]at b;rcases b with⟨y,_,rfl⟩|⟨_,rfl⟩;exact abI y;exact⟨Zs,Zs⟩
variable {i:Nat}
def vat{xs:cM}(h:dV m v xs)(hi:i<xs.length):∃id o,id<m.nx∧(∀(x y:OF) (ls:cM) (env:T j5),x ls env=v->y ls env=iV (i:Int)->ow 1 x y ls env=some (.ptr id o))∧ld1 (m.get id) o=some xs[i]:=by obtain⟨id,o,a,b,c⟩:=h.at hi;refine⟨id,o,b,λx y ls env d e=>?_,c⟩;rw[iq,d,e];simpa using a
def iat(h:aO lo m v (ints xs))(i:Nat)(hi:i<xs.length):∃id o,id<m.nx∧(∀(x y:OF) (ls:cM) (env:T j5),x ls env=v->y ls env=iV (i:Int)->ow 1 x y ls env=some (.ptr id o))∧ld1 (m.get id) o=some (iV (xs.getD i 0)):=by obtain⟨id,o,a,b,c⟩:=vat h.vs (i:=i) (by simp[ints];exact hi);refine⟨id,o,a,b,?_⟩;rw[c,O0,cB hi];simp[ints]
def KN(w:cP)(a i:Nat):ah ((dU w a).getD i 0):=by by_cases h:i<(dU w a).length;rw[O0,cB h];exact Zp w a _ (ql h);rw[O0,ajn Zs];exact⟨ZS,ZS⟩
variable {s:By}{a q:Nat}
def ac9{N:cD}(F:N.Ok)(u:N.lim<=N.nx)(o:J9 N r)(G:r.a.length<20000)(H:r.b.length<20000)(I:r.l.length<20000)(E:q<N.nx)(x:a<N.nx)(j:N.lim<=a)(D:N.get q=some (j6 r.f.cells))(C:N.get a=some (j6 zr))(n d:Nat)(z:20001<=d):
   (∃m8 Nz,r.valid=false∧l9 KW d (n+18) (.func 65) [.agg r.f.cells] N=some [⟨fV,m8⟩]∧(∀{β:Type} (k:cD->Option β),storeAt m8 a 0 zr k=k Nz)∧Nz.get a=some (j6 zr)∧bC a N Nz)∨
   (∃m8 m9 Nz,r.valid=true∧C8 r≠s∧l9 KW d (n+18) (.func 65) [.agg r.f.cells] N=some [⟨tV,m8⟩]∧m8.get q=some (j6 r.f.cells)∧l9 KW d (n+18) (.func 226) [.agg r.f.cells] m8=some [⟨.str (C8 r),m9⟩]∧(∀{β:Type} (k:cD->Option β),storeAt m9 a 0 zr k=k Nz)∧Nz.get a=some (j6 zr)∧bC a N Nz)∨
   (∃m8 m9 Nz,r.valid=true∧C8 r=s∧l9 KW d (n+18) (.func 65) [.agg r.f.cells] N=some [⟨tV,m8⟩]∧m8.get q=some (j6 r.f.cells)∧l9 KW d (n+18) (.func 226) [.agg r.f.cells] m8=some [⟨.str (C8 r),m9⟩]∧m9.get q=some (j6 r.f.cells)∧(∀{β:Type} (k:cD->Option β),storeAt m9 a 0 r.f.cells k=k Nz)∧Nz.get a=some (j6 r.f.cells)∧bC a N Nz∧J9 Nz r):=by
 obtain⟨m8,g,E8⟩:=Vv F u (o.at' G H I) (n+11) d Zs o.ga o.gb;have g:l9 KW d (n+18) (.func 65) [.agg r.f.cells] N=some [⟨.bool r.valid,m8⟩]:=g;have y:m8.get a=some (j6 zr):=by rw[E8.old a x];exact C
 have A:m8.lim<=m8.nx:=by rw[E8.lim];have:=E8.nx;omega
 by_cases hv:r.valid=true;rw[hv]at g;have p:m8.get q=some (j6 r.f.cells):=by rw[E8.old q E];exact D
 obtain⟨m9,B,E9⟩:=XE E8.ok A (o.ext E8) hv n d z;have E89:=E8.trans E9;have i:m9.get a=some (j6 zr):=by rw[E89.old a x];exact C
 have t:a<m9.nx:=aP x E89.nx;by_cases ht:C8 r=s;obtain⟨Nf,w,h,X⟩:=aM (off:=0) (vs:=r.f.cells) E9.ok t (by rw[E89.lim];exact j) i (by rw[D6.len];simp) (by rw[D6.len];omega) (Qg o);have h:Nf.get a=some (j6 r.f.cells):=by rw[h,D6.len];simp
 have m:∀n cF,m9.get a≠some (.cells 1 n cF):=λn cF e=>by rw[i]at e;have e:Y9.cells 32 1 _=.cells 1 n cF:=rW e;injection e with e1;cases e1
 have c:=o.ext E89;exact .inr (.inr ⟨m8,m9,Nf,hv,ht,g,p,B,by rw[E89.old q E];exact D,w,h,(E89.toB (id:=a)).trans X,⟨U5.tQ c.a X m,U5.tQ c.b X m,U5.tQ c.l X m,c.ga,c.gb,c.nb⟩⟩);obtain⟨Nz,w,h,X⟩:=aM (off:=0) (vs:=zr) E9.ok t (by rw[E89.lim];exact j) i ZZ ZZ rfl;exact .inr (.inl ⟨m8,m9,Nz,hv,ht,g,p,B,w,by rw[h];simp,(E89.toB (id:=a)).trans X⟩);have v:r.valid=false:=aa0.2 hv;rw[v]at g;obtain⟨Nz,w,h,X⟩:=aM (off:=0) (vs:=zr) E8.ok (aP x E8.nx) (by rw[E8.lim];exact j) y ZZ ZZ rfl;exact .inl ⟨m8,Nz,v,g,w,by rw[h];simp,(E8.toB (id:=a)).trans X⟩
def acd{b c e:By}(hs:cA 10 s=[b,c,e])(a:r.cn=SV b c)(h:r.valid=false∨C8 r≠s):∀r',¬ kX s r':=λr' ⟨h1,h2⟩=>by have d:=jw h1;rw[← h2,KI d]at hs;injection hs with e0 hs;injection hs with e1 _;rw[← e0,← e1,VH h1]at a;rcases h with h|h;rw[← iI,a,iI]at h;rw[h1]at h;cases h;exact h (by rw[← wY r,a,wY];exact h2)
def Zq(h:(cA 10 s).length≠3):∀r',¬ kX s r':=λr' ⟨h1,h2⟩=>h (by rw[← h2,KI (jw h1)];rfl)
def Tj(xs:cQ):(ints xs).length=xs.length:=by simp[ints]
variable {k:Nat}
def afz(h:aO lo m v (ints xs))(w:k<=xs.length)(nid:Nat):∃v' blk,(∀(x a:OF) (ls:cM) (env:T j5),x ls env=v->a ls env=iV (k:Int)->TU 1 x (some a) none ls env nid=some (v',blk))∧
   ((blk=none∧U5 m v' (xs.drop k))∨(∃id,blk=some (.tail id)∧v'=.sliceU nid 0 0 1∧xs.drop k=[])):=by
 have b:∀{v':j5} {blk:Option Y9},K6 nid 1 v k none=some (v',blk)->∀(x a:OF) (ls:cM) (env:T j5),x ls env=v->a ls env=iV (k:Int)->TU 1 x (some a) none ls env nid=some (v',blk):=λC x a ls env s A=>by show jC (a ls env) (λl=>K6 nid 1 (x ls env) l none)=_;rw[A,kQ,je,s];exact C
 have f:ble k xs.length=true:=l7 w;have g:ble xs.length xs.length=true:=l7 (aA _);rcases h with⟨rfl,h0⟩|⟨id,h1,h2,h3,h4,h5⟩;have s:xs=[]:=by have:=ci List.length h0;rw[Tj]at this;exact U1.1 (by simpa using this)
 subst s;obtain rfl:k=0:=by simpa using w
 exact⟨nS,none,b rfl,.inl ⟨rfl,.inl ⟨rfl,rfl⟩⟩⟩;rw[Tj]at h5;obtain⟨p,F,c,t,E,y,z,G,H,D⟩:=h4;have z:xs.length<=c:=by simpa[ints]using z
 have j:k<xs.length->∀i (u:i<(xs.drop k).length),t.get (k+i)=some [iV (xs.drop k)[i]]:=λd i u=>by
  have r:k+i<xs.length:=by simp at u;omega
  rw[D (k+i) (by simpa[ints]using r)];simp[ints]
 rcases h5 with rfl|rfl;refine⟨.slice id (bi (beq k xs.length) 0 (Nat.add 0 (Nat.mul k 1))) (Nat.sub xs.length k) (Nat.sub xs.length k),none,b ?_,.inl ⟨rfl,?_⟩⟩;show bi (ble k xs.length) (bi (ble xs.length xs.length) _ none) none=_;rw[f,g];rfl;by_cases d:k<xs.length;have B:beq k xs.length=false:=aa0.2 λe=>by have:=nA e;omega
 rw[B];have q:(bi false 0 (Nat.add 0 (Nat.mul k 1)):Nat)=k:=by show 0+k*1=k;omega
 rw[q];refine .inr ⟨(id,k),.inl ⟨Nat.sub xs.length k,?_⟩,h2,.inr ⟨c,t,y,ZD,j d⟩⟩;rw[asa];rfl;have o:xs.drop k=[]:=su Zs;rw[o];refine .inr ⟨(id,bi (beq k xs.length) 0 (Nat.add 0 (Nat.mul k 1))),.inl ⟨Nat.sub xs.length k,?_⟩,h2,.inl rfl⟩;rw[show Nat.sub xs.length k=0 from by show xs.length-k=0;omega];rfl;by_cases d:k<xs.length;refine⟨.sliceU id (Nat.add 0 (Nat.mul k 1)) (Nat.sub xs.length k) 1,none,b ?_,.inl ⟨rfl,?_⟩⟩;show bi (ble k xs.length) (bi (ble xs.length xs.length) (bi (beq 1 1) (bi (blt k xs.length) _ _) none) none) none=_;rw[f,g,show blt k xs.length=true from O8.mpr d];rfl;have q:Nat.add 0 (Nat.mul k 1)=k:=by show 0+k*1=k;omega
 rw[q];refine .inr ⟨(id,k),.inr ⟨1,?_⟩,h2,.inr ⟨c,t,y,ZD,j d⟩⟩;rw[asa];rfl;have o:xs.drop k=[]:=su Zs;have n:blt k xs.length=false:=aa0.2 λe=>d (O8.mp e);by_cases hz:k=0;subst hz;refine⟨.sliceU id 0 (Nat.sub xs.length 0) 1,none,b ?_,.inl ⟨rfl,?_⟩⟩;show bi (ble 0 xs.length) (bi (ble xs.length xs.length) (bi (beq 1 1) (bi (blt 0 xs.length) _ (bi (beq 0 0) _ _)) none) none) none=_;rw[f,g,n];rfl;rw[o];refine .inr ⟨(id,0),.inr ⟨1,?_⟩,h2,.inl rfl⟩;rw[show Nat.sub xs.length 0=0 from by show xs.length-0=0;omega];rfl;refine⟨.sliceU nid 0 0 1,some (.tail id),b ?_,.inr ⟨id,rfl,rfl,o⟩⟩;show bi (ble k xs.length) (bi (ble xs.length xs.length) (bi (beq 1 1) (bi (blt k xs.length) _ (bi (beq k 0) _ _)) none) none) none=_;rw[f,g,n,show beq k 0=false from aa0.2 λe=>hz (nA e)];rfl
set_option maxHeartbeats 40000000
def AP(m:cD)(i:Nat):Ub m i none=m:=rfl
variable {n:Nat}
def arb{P:Nat->Nat->Nat->Prop}(h:∀i,i<n->∃a b,P i a b):∃A B:Nat->Nat,∀i,i<n->P i (A i) (B i):=
 ⟨λi=>if q:i<n then(h i q).choose else 0,λi=>if q:i<n then(h i q).choose_spec.choose else 0,λi q=>by simp only[dif_pos q];exact(h i q).choose_spec.choose_spec⟩
def ard(h:aO lo m v (ints xs))(hn:n<=xs.length):∃A B:Nat->Nat,∀i,i<n->A i<m.nx∧(∀(x y:OF) (ls:cM) (env:T j5),x ls env=v->y ls env=.int .i64 (i:Int)->ow 1 x y ls env=some (.ptr (A i) (B i)))∧ld1 (m.get (A i)) (B i)=some (.int .i64 (xs.getD i 0)):=
 arb λi a=>iat h i Zs
def afA(m:cD)(s:By)(X:pQ):Prop:=
 (∃r m',X=some [⟨.tuple [.agg r.f.cells,.bool true],m'⟩]∧cE m m'∧J9 m' r∧r.a.length<20000∧r.b.length<20000∧r.l.length<20000∧kX s r)∨
  (∃m',X=some [⟨.tuple [.agg zr,.bool false],m'⟩]∧cE m m'∧∀r,¬ kX s r)
variable {M:cD}
def tT{N:cD}{X:pQ}{j o z:By}(A:m.lim<=m.nx)(e:cA 10 s=[j,o,z])(E:cE m M)(x:m.nx<q)(B:q<M.nx)(v:M.get m.nx=some (j6 zr))(Y:bC q M N)(g:N.get q=some (j6 r.f.cells))(y:J9 N r)(p:r.a.length<20000)(t:r.b.length<20000)(u:r.l.length<20000)(d:r.cn=SV j o)(n c:Nat)(i:20001<=c):
   (∃m8 Nz,(X=some [⟨.tuple [.agg zr,.bool false],Nz⟩]->afA m s X)∧l9 KW c (n+18) (.func 65) [.agg r.f.cells] N=some [⟨.bool false,m8⟩]∧(∀{β:Type} (k:cD->Option β),storeAt m8 m.nx 0 zr k=k Nz)∧Nz.get m.nx=some (j6 zr)∧N.get q=some (j6 r.f.cells))∨
   (∃m8 m9 Nz,(X=some [⟨.tuple [.agg zr,.bool false],Nz⟩]->afA m s X)∧C8 r≠s∧l9 KW c (n+18) (.func 65) [.agg r.f.cells] N=some [⟨.bool true,m8⟩]∧m8.get q=some (j6 r.f.cells)∧l9 KW c (n+18) (.func 226) [.agg r.f.cells] m8=some [⟨.str (C8 r),m9⟩]∧(∀{β:Type} (k:cD->Option β),storeAt m9 m.nx 0 zr k=k Nz)∧Nz.get m.nx=some (j6 zr)∧N.get q=some (j6 r.f.cells))∨
   (∃m8 m9 Nz,(X=some [⟨.tuple [.agg r.f.cells,.bool true],Nz⟩]->afA m s X)∧C8 r=s∧l9 KW c (n+18) (.func 65) [.agg r.f.cells] N=some [⟨.bool true,m8⟩]∧m8.get q=some (j6 r.f.cells)∧l9 KW c (n+18) (.func 226) [.agg r.f.cells] m8=some [⟨.str (C8 r),m9⟩]∧m9.get q=some (j6 r.f.cells)∧(∀{β:Type} (k:cD->Option β),storeAt m9 m.nx 0 r.f.cells k=k Nz)∧Nz.get m.nx=some (j6 r.f.cells)∧N.get q=some (j6 r.f.cells)):=by
 have EN:cE m N:=jA E Y Zs;have w:m.nx<M.nx:=Zs
 have YN:=Y.nx;have C:=EN.lim;rcases ac9 (s:=s) (a:=m.nx) (q:=q) EN.ok Zs y p t u Zs Zs Zs g (by rw[Y.old _ w Zs];exact v) n c i with⟨m8,Nz,hv,e1,e2,e3,e4⟩|⟨m8,m9,Nz,hv,ht,e1,e2,e3,e4,e5,e6⟩|⟨m8,m9,Nz,hv,ht,e1,e2,e3,e4,e5,e6,e7,e8⟩;exact .inl ⟨m8,Nz,λh=>.inr ⟨Nz,h,jA EN e4 (aA _),acd e d (.inl hv)⟩,e1,e2,e3,g⟩;exact .inr (.inl ⟨m8,m9,Nz,λh=>.inr ⟨Nz,h,jA EN e6 (aA _),acd e d (.inr ht)⟩,ht,e1,e2,e3,e4,e5,g⟩);exact .inr (.inr ⟨m8,m9,Nz,λh=>.inl ⟨_,Nz,h,jA EN e7 (aA _),e8,p,t,u,hv,ht⟩,ht,e1,e2,e3,e4,e5,e6,g⟩)
def ace(Z:m.Ok)(H:m.lim<=m.nx)(s:By)(hs:s.length<=2000){R f l2:By}(u:cA 10 s=[R,f,l2])(n o:Nat)(a1:50001<=o):afA m s (l9 KW o (n+19) (.func 148) [.str s] m):=by
 obtain⟨K0,an⟩:∃x,x=((dU (cA 32 R) 4).getD 0 0):=⟨_,rfl⟩;obtain⟨K1,a8⟩:∃x,x=((dU (cA 32 R) 4).getD 1 0):=⟨_,rfl⟩;obtain⟨K2,ao⟩:∃x,x=((dU (cA 32 R) 4).getD 2 0):=⟨_,rfl⟩;obtain⟨K3,ap⟩:∃x,x=((dU (cA 32 R) 4).getD 3 0):=⟨_,rfl⟩;obtain⟨V0,aa⟩:∃x,x=((dU (cA 32 f) 8).getD 0 0):=⟨_,rfl⟩;obtain⟨V1,ab⟩:∃x,x=((dU (cA 32 f) 8).getD 1 0):=⟨_,rfl⟩;obtain⟨V2,ac⟩:∃x,x=((dU (cA 32 f) 8).getD 2 0):=⟨_,rfl⟩;obtain⟨V3,ad⟩:∃x,x=((dU (cA 32 f) 8).getD 3 0):=⟨_,rfl⟩;obtain⟨V4,ae⟩:∃x,x=((dU (cA 32 f) 8).getD 4 0):=⟨_,rfl⟩;obtain⟨V5,af⟩:∃x,x=((dU (cA 32 f) 8).getD 5 0):=⟨_,rfl⟩;obtain⟨V6,ag⟩:∃x,x=((dU (cA 32 f) 8).getD 6 0):=⟨_,rfl⟩;obtain⟨V7,aq⟩:∃x,x=((dU (cA 32 f) 8).getD 7 0):=⟨_,rfl⟩;have h3:((cA 10 s).length:Int)=3:=by rw[u];rfl
 have a7:¬ (2000:Int)<(s.length:Int):=Zs
 have aw:s.length<=10000:=Zs
 have E0:=o8 Z [j6 zr];have bj:(ext m [j6 zr]).get m.nx=some (j6 zr):=by rw[l8 Z];rfl
 obtain⟨v0,m1,g1,E1,o0⟩:=AL E0.ok ZD s aw 10 (n+17) o Zs;have g1:l9 KW o (n+18) (.func 146) [.str s,.int .u8 10] (ext m [j6 zr])=some [⟨v0,m1⟩]:=g1;have E01:=E0.trans E1;have b1:m1.lim<=m1.nx:=by rw[E01.lim];have:=E01.nx;omega
 have bu:m.nx+1<=m1.nx:=by have:=E1.nx;simpa using this
 have V:=o0.vs.len;rw[G7]at V;have b9:=λ{β:Type} (p:j5->β) q=>o0.vs.aL p q;rw[u]at o0 V;have a5:=xg 10 s;rw[u]at a5;simp at a5;obtain⟨i0,q0,j0,p0,d0⟩:=vat o0.vs (i:=0) (by simp[strs]);have d0:ld1 (m1.get i0) q0=some (.str R):=d0;have p0:∀(x y:OF) (S:cM) (l:T j5),x S l=v0->y S l=.int .i64 0->ow 1 x y S l=some (.ptr i0 q0):=p0;obtain⟨v1,m2,g2,E2,o1⟩:=AL E1.ok b1 R Zs 32 (n+17) o Zs;have g2:l9 KW o (n+18) (.func 146) [.str R,.int .u8 32] m1=some [⟨v1,m2⟩]:=g2;have E02:=E01.trans E2;have b2:m2.lim<=m2.nx:=by rw[E02.lim];have:=E02.nx;omega
 obtain⟨w0,bf,U⟩:=mO 32 R;have bz:=xg 32 R;have br:=xk 32 R;have ba:=λ{β:Type} (p:j5->β) q=>o1.vs.aL p q;obtain⟨n4,z,g3,E3,o2⟩:=Qi (w:=w0) (ws:=bf) E2.ok b2 (by rw[← U];exact o1.vs) (λx hx=>by have:=br x (by rw[U];exact hx);omega) (by rw[← U];omega) 4 Zs (n+16) o a1;have g3:l9 KW o (n+18) (.func 229) [v1,.int .i64 4] m2=some [⟨n4,z⟩]:=g3;rw[← U]at o2;have E03:=E02.trans E3;have b3:z.lim<=z.nx:=by rw[E03.lim];have:=E03.nx;omega
 have a2:=E3.ok;have az:=(NN w0 bf 4).1;rw[← U]at az;have bb:=λ{β:Type} (p:j5->β) q=>o2.vs.aL p q;obtain⟨a,b,P⟩:=ard o2 (n:=4) Zs;have P':∀i,i<4->∀bs,ld1 ((ext z bs).get (a i)) (b i)=some (.int .i64 ((dU (cA 32 R) 4).getD i 0)):=λi hi bs=>by rw[H6 a2 _ (P i hi).1];exact(P i hi).2.2
 have E4:=o8 a2 [j6 (zK K0 K1 K2 K3)];have E04:=E03.trans E4;have bl:(ext z [j6 (zK K0 K1 K2 K3)]).get z.nx=some (j6 (zF K0 K1 K2 K3).cells):=by rw[l8 a2];rfl
 have bo:=((o0.ext E2).ext E3).ext E4;obtain⟨i1,q1,j1,p1,d1⟩:=vat bo.vs (i:=1) (by simp[strs]);have d1:ld1 ((ext z [j6 (zK K0 K1 K2 K3)]).get i1) q1=some (.str f):=d1;have p1:∀(x y:OF) (S:cM) (l:T j5),x S l=v0->y S l=.int .i64 1->ow 1 x y S l=some (.ptr i1 q1):=p1;obtain⟨v2,m5,g5,E5,o3⟩:=AL E4.ok (by rw[E04.lim];have:=E04.nx;omega) f Zs 32 (n+17) o Zs;have g5:l9 KW o (n+18) (.func 146) [.str f,.int .u8 32] (ext z [j6 (zK K0 K1 K2 K3)])=some [⟨v2,m5⟩]:=g5;have E05:=E04.trans E5;have b4:m5.lim<=m5.nx:=by rw[E05.lim];have:=E05.nx;omega
 obtain⟨w1,t,j⟩:=mO 32 f;have be:=xg 32 f;have am:=xk 32 f;have bc:=λ{β:Type} (p:j5->β) q=>o3.vs.aL p q;obtain⟨n8,C,g6,E6,o4⟩:=Qi (w:=w1) (ws:=t) E5.ok b4 (by rw[← j];exact o3.vs) (λx hx=>by have:=am x (by rw[j];exact hx);omega) (by rw[← j];omega) 8 Zs (n+16) o a1;have g6:l9 KW o (n+18) (.func 229) [v2,.int .i64 8] m5=some [⟨n8,C⟩]:=g6;rw[← j]at o4;have E06:=E05.trans E6;have b5:C.lim<=C.nx:=by rw[E06.lim];have:=E06.nx;omega
 have E:=E6.ok;have b0:=(NN w1 t 8).1;rw[← j]at b0;have bd:=λ{β:Type} (p:j5->β) q=>o4.vs.aL p q;have J:z.nx<C.nx:=aP (show z.nx+1<=m5.nx by simpa using E5.nx) E6.nx;have bv:m.nx+1<=z.nx:=by have:=E2.nx;have:=E3.nx;omega
 have D:C.get z.nx=some (j6 (zF K0 K1 K2 K3).cells):=by rw[E6.old _ (by have:=E5.nx;simp at this;omega),E5.old _ ZZ];exact bl
 have F:C.get m.nx=some (j6 zr):=by have EE:=(((((E1.trans E2).trans E3).trans E4).trans E5).trans E6);rw[EE.old _ ZZ];exact bj
 have bn:ld1 (C.get z.nx) 3=some (.int .i64 K3):=by rw[D,Te];simp[ku]
 obtain⟨A,B,Q⟩:=ard o4 (n:=8) Zs;have v (n:Nat) {k:Nat} (h:n.blt k=true:=by rfl):n<k:=by simpa using h
 have O:ah 0:=⟨ZS,ZS⟩;have k1:ah K1:=by rw[a8];exact KN _ _ _
 have q6:C.lim<=z.nx:=by rw[E06.lim];omega
 have mq:m.nx<z.nx:=Zs
 have ek:∀a b c d:Int,(zF a b c d).kind=d:=λ_ _ _ _=>rfl;have bt:(zF K0 K1 K2 K3).cells.length=32:=D6.len _;have PP:=And.intro (P 0 (v 0)) (And.intro (P 1 (v 1)) (And.intro (P 2 (v 2)) (P 3 (v 3))));have PQ:=And.intro (P' 0 (v 0)) (And.intro (P' 1 (v 1)) (And.intro (P' 2 (v 2)) (P' 3 (v 3))));have QQ:=And.intro (Q 0 (v 0)) (And.intro (Q 1 (v 1)) (And.intro (Q 2 (v 2)) (And.intro (Q 3 (v 3)) (And.intro (Q 4 (v 4)) (And.intro (Q 5 (v 5)) (And.intro (Q 6 (v 6)) (Q 7 (v 7))))))));rw[← an,← a8,← ao,← ap]at PP PQ;rw[← aa,← ab,← ac,← ad,← ae,← af,← ag,← aq]at QQ;have VV:=And.intro aa.symm (And.intro ab.symm (And.intro ac.symm (And.intro ad.symm (And.intro ae.symm (And.intro af.symm (And.intro ag.symm aq.symm))))));have RR:SV R f=zZ (zF K0 K1 K2 K3) (dU (cA 32 f) 8) (cA 32 f):=by rw[an,a8,ao,ap];rfl
 have SS:=And.intro g1 (And.intro V (And.intro @b9 (And.intro h3 (And.intro a7 (And.intro p0 (And.intro d0 (And.intro g2 (And.intro @ba (And.intro g3 (And.intro @bb (And.intro p1 (And.intro d1 (And.intro g5 (And.intro @bc (And.intro g6 (And.intro @bd (And.intro bn (dh a2 b3))))))))))))))))));obtain⟨X,hX⟩:∃X,X=l9 KW o (n+19) (.func 148) [.str s] m:=⟨_,rfl⟩;rw[← hX];have aj:K3=1∨K3=2∨K3=3∨K3=4∨K3=5∨K3=6∨K3=7∨(¬ K3=1∧¬ K3=2∧¬ K3=3∧¬ K3=4∧¬ K3=5∧¬ K3=6∧¬ K3=7):=Zs
 rcases aj with hk|hk|hk|hk|hk|hk|hk|hk
 ·subst hk;obtain⟨N,K,G,Y⟩:=aM (off:=4) (vs:=[.int .i64 V0,.int .i64 V1]) E J q6 D (by rw[D6.len];simp) ZZ rfl;rcases tT (X:=X) (r:=⟨{zF K0 K1 K2 1 with flo:=V0,fhi:=V1},[],[],[]⟩) H u E06 mq J F Y G ⟨.inl ⟨rfl,rfl⟩,.inl ⟨rfl,rfl⟩,.inl ⟨rfl,rfl⟩,O,O,k1⟩ ZZ ZZ ZZ (by rw[RR];simp only[zZ,ek,reduceIte,VV];rfl) n o Zs with⟨_,_,h,e⟩|⟨_,_,_,h,e⟩|⟨_,_,_,h,e⟩;all_goals (refine h ?_;rw[hX,en f148];simp (maxSteps:=3000000) [f148,dD,fA,fM,gW,jX,jG,o9,A8,dh Z H,jf,aW,bH,bR,D8,-iq,isVoid,iC,G8,SS,PP,PQ,QQ,K,e])
 ·subst hk;obtain⟨N,K,G,Y⟩:=aM (off:=6) (vs:=[.int .i64 V0,.int .i64 V1,.int .i64 V2,.int .i64 V3,.int .i64 V4,.int .i64 V5,.int .i64 V6,.int .i64 V7]) E J q6 D (by rw[D6.len];simp) ZZ rfl;rcases tT (X:=X) (r:=⟨{zF K0 K1 K2 2 with gid:=V0,made:=V1,nom:=V2,tlo:=V3,thi:=V4,gn:=V5,gd:=V6,wear:=V7},[],[],[]⟩) H u E06 mq J F Y G ⟨.inl ⟨rfl,rfl⟩,.inl ⟨rfl,rfl⟩,.inl ⟨rfl,rfl⟩,by show ah V5;rw[af];exact KN _ _ _,by show ah V6;rw[ag];exact KN _ _ _,k1⟩ ZZ ZZ ZZ (by rw[RR];simp only[zZ,ek,reduceIte,VV];rfl) n o Zs with⟨_,_,h,e⟩|⟨_,_,_,h,e⟩|⟨_,_,_,h,e⟩;all_goals (refine h ?_;rw[hX,en f148];simp (maxSteps:=3000000) [f148,dD,fA,fM,gW,jX,jG,o9,A8,dh Z H,jf,aW,bH,bR,D8,-iq,isVoid,iC,G8,SS,PP,PQ,QQ,K,e])
 ·subst hk;obtain⟨N,K,G,Y⟩:=aM (off:=14) (vs:=[.int .i64 V0,.int .i64 V1]) E J q6 D (by rw[D6.len];simp) ZZ rfl;rcases tT (X:=X) (r:=⟨{zF K0 K1 K2 3 with ug:=V0,ud:=V1},[],[],[]⟩) H u E06 mq J F Y G ⟨.inl ⟨rfl,rfl⟩,.inl ⟨rfl,rfl⟩,.inl ⟨rfl,rfl⟩,O,O,k1⟩ ZZ ZZ ZZ (by rw[RR];simp only[zZ,ek,reduceIte,VV];rfl) n o Zs with⟨_,_,h,e⟩|⟨_,_,_,h,e⟩|⟨_,_,_,h,e⟩;all_goals (refine h ?_;rw[hX,en f148];simp (maxSteps:=3000000) [f148,dD,fA,fM,gW,jX,jG,o9,A8,dh Z H,jf,aW,bH,bR,D8,-iq,isVoid,iC,G8,SS,PP,PQ,QQ,K,e])
 ·subst hk;obtain⟨N,K,G,Y⟩:=aM (off:=16) (vs:=[.int .i64 V0,.int .i64 V1,.int .i64 V2,.int .i64 V3]) E J q6 D (by rw[D6.len];simp) ZZ rfl;rcases tT (X:=X) (r:=⟨{zF K0 K1 K2 4 with lg:=V0,ll:=V1,lh:=V2,lw:=V3},[],[],[]⟩) H u E06 mq J F Y G ⟨.inl ⟨rfl,rfl⟩,.inl ⟨rfl,rfl⟩,.inl ⟨rfl,rfl⟩,O,O,k1⟩ ZZ ZZ ZZ (by rw[RR];simp only[zZ,ek,reduceIte,VV];rfl) n o Zs with⟨_,_,h,e⟩|⟨_,_,_,h,e⟩|⟨_,_,_,h,e⟩;all_goals (refine h ?_;rw[hX,en f148];simp (maxSteps:=3000000) [f148,dD,fA,fM,gW,jX,jG,o9,A8,dh Z H,jf,aW,bH,bR,D8,-iq,isVoid,iC,G8,SS,PP,PQ,QQ,K,e])
 ·subst hk;obtain⟨va,vb,m7,g7,E7,oa,a3⟩:=aft E6.ok b5 ((o3.vs).ext E6) (λx hx=>by have:=am x hx;omega) (by rw[j];rw[j]at be;simp at be ⊢;omega) (n+16) o a1;have g7:l9 KW o (n+18) (.func 230) [v2] C=some [⟨.tuple [va,vb],m7⟩]:=g7;have E07:=E06.trans E7;have Q':∀i,i<8->ld1 (m7.get (A i)) (B i)=some (.int .i64 ((dU (cA 32 f) 8).getD i 0)):=λi hi=>by rw[E7.old _ (Q i hi).1];exact(Q i hi).2.2
  have QR:=And.intro (Q' 0 (v 0)) (And.intro (Q' 1 (v 1)) (And.intro (Q' 2 (v 2)) (And.intro (Q' 3 (v 3)) (Q' 4 (v 4)))));rw[← aa,← ab,← ac,← ad,← ae]at QR;have c1:=oa.vs.D8;have c2:=a3.vs.D8;have bp:=λ{β:Type} (p:j5->β) q=>oa.vs.aL p q;have bq:=λ{β:Type} (p:j5->β) q=>a3.vs.aL p q;have bh:=oa.vs.cells;have bi:=a3.vs.cells;have ar:m7.get z.nx=some (j6 (zF K0 K1 K2 5).cells):=by rw[E7.old _ J];exact D
  have b7:z.nx<m7.nx:=aP J E7.nx;obtain⟨N,K,G,Y⟩:=aM (off:=20) (vs:=[.int .i64 0,.int .i64 V0,va,vb,.int .i64 V1,.int .i64 V2,.int .i64 V3,.int .i64 V4]) E7.ok b7 (by rw[E07.lim];omega) ar (by rw[D6.len];simp) ZZ (by simp[c1,c2,show∀k x,D8 (.int k x)=true from λ_ _=>rfl]);have I:∀n g,m7.get z.nx≠some (.cells 1 n g):=λn g e=>by rw[ar]at e;exact Qd _ n g (rW e)
  obtain⟨bw,bx⟩:=AO 0 (cA 32 f);rcases tT (X:=X) (r:=⟨{zF K0 K1 K2 5 with cid:=0,cday:=V0,A:=va,B:=vb,diff:=V1,err:=V2,hlo:=V3,hhi:=V4},(aK 0 (cA 32 f)).1,(aK 0 (cA 32 f)).2,[]⟩) H u E07 mq b7 (by rw[E7.old _ Zs];exact F) Y G ⟨U5.tQ oa.sl Y I,U5.tQ a3.sl Y I,.inl ⟨rfl,rfl⟩,O,O,k1⟩ (by show(aK 0 (cA 32 f)).1.length<20000;omega) (by show(aK 0 (cA 32 f)).2.length<20000;omega) ZZ (by rw[RR];simp only[zZ,ek,reduceIte,VV];rfl) n o Zs with⟨_,_,h,e⟩|⟨_,_,_,h,e⟩|⟨_,_,_,h,e⟩;all_goals (refine h ?_;rw[hX,en f148];simp (maxSteps:=3000000) [f148,dD,fA,fM,gW,jX,jG,o9,A8,dh Z H,jf,aW,bH,bR,D8,-iq,isVoid,iC,G8,SS,PP,PQ,QQ,QR,g7,K,bp,bq,bh,bi,e])
 ·subst hk;have Ev:=o8 E [.void];obtain⟨n0,m7,g7,E7,o5⟩:=Qi (w:=w1) (ws:=t) Ev.ok (by rw[Ev.lim];have:=Ev.nx;omega) (by rw[← j];exact((o3.vs).ext E6).ext Ev) (λx hx=>by have:=am x (by rw[j];exact hx);omega) (by rw[← j];omega) 0 Zs (n+16) o a1;have g7:l9 KW o (n+18) (.func 229) [v2,.int .i64 0] (ext C [.void])=some [⟨n0,m7⟩]:=g7;rw[← j]at o5;have hW:(cA 32 f).length=t.length+1:=by rw[j];rfl
  have av:(dU (cA 32 f) 0).length=t.length:=by rw[j];simp[dU,zY]
  obtain⟨vL,bg,a9,ai⟩:=afz o5 (k:=min ((cA 32 f).length-1) 1) (by rw[av,hW];omega) C.nx;have vv:(ext C [.void]).get C.nx=some .void:=by rw[l8 E];rfl
  have v7:m7.get C.nx=some .void:=by rw[E7.old _ ZZ];exact vv
  have Z0v:ld1 ((ext C [.void]).get (A 0)) (B 0)=some (.int .i64 V0):=by rw[H6 E _ (Q 0 (v 0)).1];exact QQ.1.2.2
  have Z0':ld1 (m7.get (A 0)) (B 0)=some (.int .i64 V0):=by have:=(Q 0 (v 0)).1;rw[E7.old _ ZD];exact Z0v
  have ak:=λ{β:Type} (p:j5->β) q=>o5.vs.aL p q;have W:=o3.vs.len;rw[G7,hW]at W;have a6:kY (((t.length+1:Nat):Int)-1)=((t.length:Nat):Int):=by rw[Z7 Zs Zs];omega
  have pm:∀(x y:OF) (S:cM) (l:T j5),x S l=.int .i64 ((t.length:Nat):Int)->y S l=.int .i64 1->pMm false x [y] S l=some (.int .i64 ((min (t.length) 1:Nat):Int)):=λx y S l hx hy=>Ir hx hy;rw[hW,axk]at a9;generalize ((t.length+1:Nat):Int)=W1 at W a6;generalize ((min (t.length) 1:Nat):Int)=W2 at pm a9;generalize ((t.length:Nat):Int)=W3 at a6 pm;have E67:cE C m7:=Ev.trans E7;have bm:(((dU (cA 32 f) 0).drop (min ((cA 32 f).length-1) 1))).length<20000:=by simp[av];omega
  have hM:∃M:cD,M=Ub m7 C.nx bg∧cE C M∧D8 vL=true∧vL.cells=[vL]∧(∀{β:Type} (p:j5->β) (q:β),iK vL p q=q)∧∀N:cD,bC z.nx M N->(∀n g,M.get z.nx≠some (.cells 1 n g))->U5 N vL ((dU (cA 32 f) 0).drop (min ((cA 32 f).length-1) 1)):=by
   rcases ai with⟨rfl,hsl⟩|⟨id,rfl,rfl,hd⟩;exact⟨m7,rfl,E67,hsl.D8,hsl.cells,λp q=>hsl.aL p q,λN XN I=>U5.tQ hsl XN I⟩;have ay:C.nx<m7.nx:=by have:=E7.nx;simp at this;omega
   have EM:cE C (m7.set C.nx (.tail id)):=⟨cD.Ok.set E7.ok ay _,ZD,by show m7.lim=_;exact E67.lim,λi hi=>by rw[cD.R9 E7.ok ay,aE Zs];exact E67.old i hi⟩;exact⟨_,rfl,EM,rfl,rfl,λp q=>rfl,λN XN I=>.inr ⟨(C.nx,0),.inr ⟨1,by rw[hd];rfl⟩,by have:=XN.nx;simp at this;omega,.inl (by rw[hd])⟩⟩
  obtain⟨M,bk,EM,a4,a0,al,ax⟩:=hM;have b8:z.nx<M.nx:=by have:=EM.nx;omega
  have au:M.get z.nx=some (j6 (zF K0 K1 K2 6).cells):=by rw[EM.old _ J];exact D
  have EmM:=E06.trans EM;obtain⟨N,K,G,Y⟩:=aM (off:=28) (vs:=[.int .i64 V0,vL]) EM.ok b8 (by rw[EmM.lim];omega) au (by rw[D6.len];simp) ZZ (by simp[a4,show∀k x,D8 (.int k x)=true from λ_ _=>rfl]);have I:∀n g,M.get z.nx≠some (.cells 1 n g):=λn g e=>by rw[au]at e;exact Qd _ n g (rW e)
  rw[bk]at K;rcases tT (X:=X) (r:=⟨{zF K0 K1 K2 6 with mday:=V0,L:=vL},[],[],((dU (cA 32 f) 0).drop (min ((cA 32 f).length-1) 1))⟩) H u EmM mq b8 (by rw[EM.old _ Zs];exact F) Y G ⟨.inl ⟨rfl,rfl⟩,.inl ⟨rfl,rfl⟩,ax N Y I,O,O,k1⟩ ZZ ZZ bm (by rw[RR];simp only[zZ,ek,reduceIte,VV];rfl) n o Zs with⟨_,_,h,e⟩|⟨_,_,_,h,e⟩|⟨_,_,_,h,e⟩;all_goals (refine h ?_;rw[hX,en f148];simp (maxSteps:=3000000) [f148,dD,fA,fM,gW,jX,jG,o9,A8,dh Z H,jf,aW,bH,bR,D8,-iq,isVoid,iC,G8,SS,PP,PQ,QQ,g7,K,a4,a0,@al,@ak,W,a6,pm,a9,AP,YS,v7,vv,Z0',Z0v,e])
 ·subst hk;obtain⟨N,K,G,Y⟩:=aM (off:=30) (vs:=[.int .i64 V0,.int .i64 V1]) E J q6 D (by rw[D6.len];simp) ZZ rfl;rcases tT (X:=X) (r:=⟨{zF K0 K1 K2 7 with tr:=V0,tn:=V1},[],[],[]⟩) H u E06 mq J F Y G ⟨.inl ⟨rfl,rfl⟩,.inl ⟨rfl,rfl⟩,.inl ⟨rfl,rfl⟩,O,O,k1⟩ ZZ ZZ ZZ (by rw[RR];simp only[zZ,ek,reduceIte,VV];rfl) n o Zs with⟨_,_,h,e⟩|⟨_,_,_,h,e⟩|⟨_,_,_,h,e⟩;all_goals (refine h ?_;rw[hX,en f148];simp (maxSteps:=3000000) [f148,dD,fA,fM,gW,jX,jG,o9,A8,dh Z H,jf,aW,bH,bR,D8,-iq,isVoid,iC,G8,SS,PP,PQ,QQ,K,e])
 ·obtain⟨n1,n2,n3,b6,n5,n6,n7⟩:=hk;rcases tT (X:=X) (r:=⟨zF K0 K1 K2 K3,[],[],[]⟩) H u E06 mq J F ⟨E,aA _,rfl,λ_ _ _=>rfl⟩ D ⟨.inl ⟨rfl,rfl⟩,.inl ⟨rfl,rfl⟩,.inl ⟨rfl,rfl⟩,O,O,k1⟩ ZZ ZZ ZZ (by rw[RR];simp only[zZ,ek,n1,n2,n3,b6,n5,n6,n7,if_false];rfl) n o Zs with⟨_,_,h,e⟩|⟨_,_,_,h,e⟩|⟨_,_,_,h,e⟩;all_goals (refine h ?_;rw[hX,en f148];simp (maxSteps:=3000000) [f148,dD,fA,fM,gW,jX,jG,o9,A8,dh Z H,jf,aW,bH,bR,D8,-iq,isVoid,iC,G8,SS,PP,PQ,QQ,show(zF K0 K1 K2 K3).kind=K3 from rfl,n1,n2,n3,b6,n5,n6,n7,e])
def VO(v:m.Ok)(w:m.lim<=m.nx)(s:By)(hs:s.length<=2000)(u:(cA 10 s).length≠3)(n d:Nat)(A:50001<=d):
   (∃r m',l9 KW d (n+19) (.func 148) [.str s] m=some [⟨.tuple [.agg r.f.cells,tV],m'⟩]∧cE m m'∧J9 m' r∧r.a.length<20000∧r.b.length<20000∧r.l.length<20000∧kX s r)∨
   (∃m',l9 KW d (n+19) (.func 148) [.str s] m=some [⟨.tuple [.agg zr,fV],m'⟩]∧cE m m'∧∀r,¬ kX s r):=by
 have z:¬ ((cA 10 s).length:Int)=3:=Zs
 have t:¬ (2000:Int)<(s.length:Int):=Zs
 have e:s.length<=10000:=Zs
 have E0:=o8 v [j6 zr];have k:(ext m [j6 zr]).get m.nx=some (j6 zr):=by rw[l8 v];rfl
 obtain⟨D,g,i,E1,y⟩:=AL E0.ok ZD s e 10 (n+17) d Zs;have i:l9 KW d (n+18) (.func 146) [.str s,.int .u8 10] (ext m [j6 zr])=some [⟨D,g⟩]:=i;have E01:=E0.trans E1;have x:g.lim<=g.nx:=by rw[E01.lim];have:=E01.nx;omega
 have B:m.nx+1<=g.nx:=by have:=E1.nx;simpa using this
 have c:=y.vs.len;rw[G7]at c;have h:=λ{β:Type} (p:j5->β) q=>y.vs.aL p q;have o:g.get m.nx=some (j6 zr):=by rw[E1.old _ ZZ];exact k
 obtain⟨N,C,j,X⟩:=aM (off:=0) (vs:=zr) E1.ok Zs (by rw[E01.lim];exact w) o ZZ ZZ rfl;have j:N.get m.nx=some (j6 zr):=by rw[j];simp
 refine .inr ⟨N,?_,jA E01 X (aA _),Zq u⟩;rw[en f148];simp (maxSteps:=3000000) [f148,dD,fA,fM,ay v w,aW,bH,-iq,i,c,h,z,C,j]
def afB(j:m.Ok)(i:m.lim<=m.nx)(s:By)(hs:s.length<=2000)(n d:Nat)(e:50001<=d):
   (∃r m',l9 KW d (n+19) (.func 148) [.str s] m=some [⟨.tuple [.agg r.f.cells,tV],m'⟩]∧cE m m'∧J9 m' r∧r.a.length<20000∧r.b.length<20000∧r.l.length<20000∧kX s r)∨
   (∃m',l9 KW d (n+19) (.func 148) [.str s] m=some [⟨.tuple [.agg zr,fV],m'⟩]∧cE m m'∧∀r,¬ kX s r):=by
 by_cases h3:(cA 10 s).length=3;obtain⟨k,o,p,g⟩:∃k o p,cA 10 s=[k,o,p]:=by
  match h:cA 10 s,h3 with
  |[a,b,c],_=>exact⟨a,b,c,rfl⟩
  |[],h3=>cases h3
  |[_],h3=>cases h3
  |[_,_],h3=>cases h3
  |_ :: _ :: _ :: _ :: _,h3=>simp at h3
 exact ace j i s hs g n d e;exact VO j i s hs h3 n d e
def FR.cO(r s:FR):Bool:=decide (r.f.room=s.f.room)&&decide (r.f.no=s.f.no)
def FR.same(r s:FR):Bool:=bX r.f s.f r.a r.b r.l s.a s.b s.l
def J9.one(h:J9 m r):H8 r.f.cells=true:=by have d:=h.a.D8;have e:=h.b.D8;have g:=h.l.D8;have c:∀k x,D8 (.int k x)=true:=λ_ _=>rfl;simp[D6.cells,d,e,g,c,-D6.bD]
def FR.short(r:FR):Prop:=r.a.length<20000∧r.b.length<20000∧r.l.length<20000
def J9.sh(h:J9 m r)(hs:r.short):aR m r.f r.a r.b r.l:=h.at' hs.1 hs.2.1 hs.2.2
def Eu(a b:Int):Int:=if a<b then -1 else if b<a then 1 else 0
def Qk(n b:Nat)(a:Int)(m:cD):l9 KW b (n+1) (.func 175) [iV a] m=some [⟨fV,m⟩]:=by rw[en f175];simp[f175]
def afC(n c:Nat)(a b:Int)(m:cD):l9 KW c (n+2) (.func 100) [iV a,iV b] m=some [⟨iV (Eu a b),m⟩]:=by rw[en f100];by_cases h:a<b;simp[f100,Qk,Eu,h];by_cases h':b<a;simp[f100,Qk,Eu,h,h'];simp[f100,Qk,Eu,h,h']
def afD(n d:Nat)(o:1000<=d)(a b:Int)(m:cD)(id c:Nat)(cF:T cM)(g:m.get id=some (.cells 1 2 cF))(h0:cF.get 0=some [iV a])(l:cF.get 1=some [iV b]):
   l9 KW d (n+1) (.func 103) [.slice id 0 2 c] m=some [⟨iV (if a=0 then b else a),m⟩]:=by
 rw[en f103];obtain⟨d,rfl⟩:∃k,d=k+3:=⟨d-3,Zs⟩;have e:ld1 (m.get id) 0=some (iV a):=by rw[g];exact iw (rs:=1) (n:=2) (cF:=cF) (i:=0) (j:=0) Zs Zs h0
 have f:ld1 (m.get id) 1=some (iV b):=by rw[g];exact iw (rs:=1) (n:=2) (cF:=cF) (i:=1) (j:=0) Zs Zs l
 have p:∀(k:Nat->Option j5),idx 2 iZ k=k 0:=λk=>Z0 2 0 k Zs;have h:∀(k:Nat->Option j5),idx 2 (iV 1) k=k 1:=λk=>Z0 2 1 k Zs;by_cases ha:a=0;by_cases hb:b=0;simp[f103,Kk,o7,e,f,h,ha,hb,show kY 1=1 from rfl,show kY 2=2 from rfl];simp[f103,Kk,o7,e,f,h,ha,hb,show kY 1=1 from rfl];simp[f103,Kk,o7,e,ha]
def afE(a b c d:Int):Int:=if Eu a c=0 then Eu b d else Eu a c
def FR.ord(x y:FR):Int:=afE x.f.room x.f.no y.f.room y.f.no
def afF(j:m.Ok)(o:m.lim<=m.nx)(n h:Nat)(i:1000<=h)(a b c d:Int):
   ∃m',l9 KW h (n+3) (.func 170) [.agg [iV a,iV b],.agg [iV c,iV d]] m=some [⟨iV (afE a b c d),m'⟩]∧cE m m':=by
 rw[en f170];have E:=o8 j [j6 [iV a,iV b],j6 [iV c,iV d],.cells 1 2 (T.ofList [[iV (Eu a c)],[iV (Eu b d)]])];have g:=afD (n+1) h i (Eu a c) (Eu b d) (ext m [j6 [iV a,iV b],j6 [iV c,iV d],.cells 1 2 (T.ofList [[iV (Eu a c)],[iV (Eu b d)]])]) (m.nx+2) 2 _ (by rw[r9 j];rfl) rfl rfl;have l:∀(ps:List (Nat×Nat×OF)) ls env nid,J2 1 2 [iV (.ofNat 0)] ps ls env nid=ob (lay ps ls env [iZ,iZ]) λe=>jR 1 2 e λb=>some (.slice nid 0 2 2,some b):=λ_ _ _ _=>rfl;have f:=l;rw[show(Int.ofNat 0)=0 from rfl]at f;have p:∀(x y:j5) (k:Y9->Option (j5×Option Y9)),jR 1 2 [x,y] k=k (.cells 1 2 (T.ofList [[x],[y]])):=λ_ _ _=>rfl;exact⟨_,by simp[f170,ay j o,afC,f,p,g,afE,G8],E⟩
structure FR.Good(r:FR):Prop where
 rf:bg 100 (.agg r.f.cells) (.agg r.f.cells)=true
 one:H8 r.f.cells=true
 no:ah r.f.no
def J9.good(h:J9 m r)(hs:r.short):r.Good:=⟨(h.sh hs).same,h.one,h.nb⟩
def Gh(b:m.Ok)(c:m.lim<=m.nx)(n a:Nat)(f:D6):∃m',l9 KW a (n+1) (.func 44) [.agg f.cells] m=some [⟨.agg [iV f.room,iV f.no],m'⟩]∧cE m m':=
 ⟨_,PU n a f m b c,o8 b _⟩
variable {x y:FR}
def Iu(c:m.Ok)(h:m.lim<=m.nx)(n a:Nat)(b:1000<=a)(o:x.Good)(i:y.Good):
   ∃m',l9 KW a (n+4) (.func 169) [.agg x.f.cells,.agg y.f.cells] m=some [⟨iV (x.ord y),m'⟩]∧cE m m':=by
 rw[en f169];have E0:=o8 c [j6 x.f.cells,j6 y.f.cells];have lim:∀{M:cD},cE m M->M.lim<=M.nx:=λE=>by rw[E.lim];have:=E.nx;omega
 obtain⟨j,d,E1⟩:=Gh E0.ok (lim E0) (n+2) a x.f;have E01:=E0.trans E1;have l:j.get (m.nx+1)=some (j6 y.f.cells):=by rw[E1.old _ ZZ,r9 c];rfl
 obtain⟨p,e,E2⟩:=Gh E01.ok (lim E01) (n+2) a y.f;have E02:=E01.trans E2;obtain⟨k,g,E3⟩:=afF E02.ok (lim E02) n a b x.f.room x.f.no y.f.room y.f.no;exact⟨k,by simp[f169,ay c h,d,l,e,g,FR.ord,i.rf],E02.trans E3⟩
def XG(b:m.Ok)(e:m.lim<=m.nx)(n a:Nat)(k:x.Good)(g:y.Good):
   ∃m',l9 KW a (n+4) (.func 172) [.agg x.f.cells,.agg y.f.cells] m=some [⟨.bool (x.cO y),m'⟩]∧cE m m':=by
 rw[en f172];have E0:=o8 b [j6 x.f.cells,j6 y.f.cells];have lim:∀{M:cD},cE m M->M.lim<=M.nx:=λE=>by rw[E.lim];have:=E.nx;omega
 obtain⟨h,c,E1⟩:=Gh E0.ok (lim E0) (n+2) a x.f;have E01:=E0.trans E1;have j:h.get (m.nx+1)=some (j6 y.f.cells):=by rw[E1.old _ ZZ,r9 b];rfl
 obtain⟨i,d,E2⟩:=Gh E01.ok (lim E01) (n+2) a y.f;exact⟨i,by simp[f172,ay b e,c,j,d,FR.cO,g.rf],E01.trans E2⟩
def FR.before(x y:FR):Bool:=decide (x.f.room<y.f.room)||(decide (x.f.room=y.f.room)&&decide (x.f.no<y.f.no))
def FA(m:cD)(id:Nat)(l:cN):Prop:=xQ m id 32 (l.map λr=>r.f.cells)
variable {l:cN}
def FA.ld{id:Nat}(h:FA m id l)(hi:i<l.length):RU (m.get id) (i*32) 32=some (.agg l[i].f.cells):=by have:=xQ.RU h (i:=i) (by simpa using hi);simpa using this
def FA.store{id:Nat}(h:FA m id l)(j:m.Ok)(b:id<m.nx)(a:m.lim<=id)(hi:i<l.length)(g:r.Good):
   ∃m',(∀{β:Type} (k:cD->Option β),storeAt m id (i*32) r.f.cells k=k m')∧FA m' id (l.set i r)∧bC id m m':=by
 obtain⟨m',c,d,e⟩:=xQ.store h j b a (i:=i) (by simpa using hi) (D6.len r.f) g.one;refine⟨m',c,?_,e⟩;unfold FA;rw[List.map_set];exact d
structure Ar(m:cD)(id:Nat)(l:cN):Prop where
 ok:m.Ok
 fa:FA m id l
 lt:id<m.nx
 lim:m.lim<=id
 good:∀r,r∈l->r.Good
 big:l.length<=200
def Ar.ext{a:cD}{id:Nat}(h:Ar m id l)(e:cE m a):Ar a id l:=
 ⟨e.ok,xQ.ext h.fa h.lt e,aP h.lt e.nx,by rw[e.lim];exact h.lim,h.good,h.big⟩
def Ar.lm{id:Nat}(h:Ar m id l):m.lim<=m.nx:=dn h.lim (aki h.lt)
structure oh(id:Nat)(m:cD)(l:cN)(m':cD)(l':cN):Prop where
 ext:bC id m m'
 ar:Ar m' id l'
 len:l'.length=l.length
 sub:∀r,r∈l'->r∈l
def oh.refl{id:Nat}{m:cD}{l:cN}(h:Ar m id l):oh id m l m l:=⟨bC.refl h.ok,h,rfl,λ_ h=>h⟩
def oh.trans{id:Nat}{a b c:cD}{d l'':cN}(h:oh id a l b d)(k:oh id b d c l''):oh id a l c l'':=
 ⟨h.ext.trans k.ext,k.ar,k.len.trans h.len,λr e=>h.sub r (k.sub r e)⟩
def oh.of{id:Nat}{a:cD}(h:Ar m id l)(e:cE m a):oh id m l a l:=⟨e.toB,h.ext e,rfl,λ_ h=>h⟩
def Ar.get{id:Nat}(h:Ar m id l)(hi:i<l.length):l[i].Good:=h.good _ (ql hi)
def Ar.store{id:Nat}(h:Ar m id l)(hi:i<l.length)(b:r.Good):
   ∃m',(∀{β:Type} (k:cD->Option β),storeAt m id (i*32) r.f.cells k=k m')∧Ar m' id (l.set i r)∧bC id m m':=by
 obtain⟨m',c,d,a⟩:=h.fa.store h.ok h.lt h.lim hi b;exact⟨m',c,⟨a.ok,d,aP h.lt a.nx,by rw[a.lim];exact h.lim,λx e=>by
  rcases aqw e with h'|rfl;exact h.good _ h';exact b,by simpa using h.big⟩,a⟩
def swp(l:cN)(i j:Nat)(hi:i<l.length)(hj:j<l.length):cN:=(l.set i l[j]).set j l[i]
variable {j:Nat}
def swp_get(hi:i<l.length)(a:j<l.length)(k:Nat):(swp l i j hi a)[k]?=if k=j then l[i]? else if k=i then l[j]? else l[k]?:=by unfold swp;rw[aq4,aq4];by_cases h1:j=k;subst h1;simp[hi,a];by_cases h2:i=k;subst h2;simp[h1,hi,a,aqR h1];simp[h1,h2,aqR h1,aqR h2]
def Ar.swap{id:Nat}(h:Ar m id l)(hi:i<l.length)(b:j<l.length):
   ∃m1 m2,(∀{β:Type} (k:cD->Option β),storeAt m id (i*32) l[j].f.cells k=k m1)∧(∀{β:Type} (k:cD->Option β),storeAt m1 id (j*32) l[i].f.cells k=k m2)∧oh id m l m2 (swp l i j hi b):=by
 obtain⟨m1,c,d,e⟩:=h.store hi (h.get b);obtain⟨m2,g,n,o⟩:=d.store (i:=j) (by simpa using b) (h.get hi);refine⟨m1,m2,c,g,e.trans o,n,by simp[swp],λr a=>?_⟩;rcases aqw a with a|rfl;rcases aqw a with a|rfl;exact a;exact ql b;exact ql hi
variable {b p:Nat}
def iJ(h:p=a+b)(hp:p<4611686018427387904):kY ((a:Int)+(b:Int))=(p:Int):=by rw[Z7 Zs Zs];omega
def bK(h:p+b=a)(hp:a<4611686018427387904):kY ((a:Int)-(b:Int))=(p:Int):=by rw[Z7 Zs Zs];omega
def Z5(h:p=a+1)(hp:p<4611686018427387904):kY ((a:Int)+1)=(p:Int):=by rw[Z7 Zs Zs];omega
def qR(h:p+1=a)(hp:a<4611686018427387904):kY ((a:Int)-1)=(p:Int):=by rw[Z7 Zs Zs];omega
def SwR(a b i c:Nat)(l l':cN):Prop:=∀k,l'[k]?=if a+i<=k∧k<a+c then l[k+(b-a)]? else if b+i<=k∧k<b+c then l[k-(b-a)]? else l[k]?
def SwR.step{a b i c:Nat}{l l':cN}(d:a+c<=b)(e:i<c)(hi:a+i<l.length)(f:b+i<l.length)(h:SwR a b (i+1) c (swp l (a+i) (b+i) hi f) l'):SwR a b i c l l':=by intro k;rw[h k];simp only[swp_get];by_cases h1:k=a+i;subst h1;rw[aE Zs,aE Zs,aE Zs,cg rfl,cg Zs];congr 1;omega;by_cases h2:k=b+i;subst h2;rw[aE Zs,aE Zs,cg rfl,aE Zs,cg Zs];congr 1;omega;by_cases h3:a+i<=k∧k<a+c;rw[cg Zs,cg h3,aE Zs,aE Zs];by_cases h4:b+i<=k∧k<b+c;rw[aE Zs,cg Zs,aE h3,cg h4,aE Zs,aE Zs];rw[aE Zs,aE Zs,aE h3,aE h4,aE h2,aE h1]
def acf(P u id a b c n:Nat)(r:a+c<=b)(K:b+c<=n)(hn:n<=200):
   ∀(j i:Nat),i+j=c->∀(N:Nat),j<N->∀(m:cD) (l:cN),Ar m id l->l.length=n->∀(x2:j5),
    ∃m' l',I9 (λenv m k=>Kw (l9 KW u P) u none env m k) N (nV6 (iN i) (iN c) x2 (.sliceU id 0 n 32) (iN a) (iN b)) m []=some [⟨.exit 0,(nV6 (iN c) (iN c) fV (.sliceU id 0 n 32) (iN a) (iN b)),m',[],none⟩]∧oh id m l m' l'∧SwR a b i c l l':=by
 intro j;induction j with
 |zero=>
  intro i t N J m l h v x2;obtain⟨N,rfl⟩:=sx N;obtain rfl:i=c:=Zs
  refine⟨m,l,?_,oh.refl h,λk=>?_⟩;rw[o7];simp[Kw];rw[aE Zs,aE Zs]
 |succ j ih=>
  intro i t N J m l h v x2;obtain⟨N,rfl⟩:=sx N;have f:a+i<l.length:=Zs
  have o:b+i<l.length:=Zs
  obtain⟨Q,O,D,E,e⟩:=h.swap f o;obtain⟨m',l',g,d,A⟩:=ih (i+1) Zs N Zs O _ e.ar (e.len.trans v) tV;refine⟨m',l',?_,e.trans d,SwR.step r Zs f o A⟩;rw[o7,← g];have B:=h.fa.ld f;have C:=h.fa.ld o;have H:=(h.get f).rf;have I:=(h.get o).rf;generalize hx:l[a+i]=x at *;generalize hy:l[b+i]=y at *;clear A d ih e g;obtain⟨p,w⟩:∃p,p=a+i:=⟨_,rfl⟩;obtain⟨q,z⟩:∃q,q=b+i:=⟨_,rfl⟩;rw[← w]at B D;rw[← z]at C E;have F:=iJ w Zs;have G:=iJ z Zs;have L:∀{β:Type} (k:Nat->Option β),idx n (iV (p:Int)) k=k p:=λk=>Z0 _ _ k Zs;have M:∀{β:Type} (k:Nat->Option β),idx n (iV (q:Int)) k=k q:=λk=>Z0 _ _ k Zs;have s:i<c:=Zs
  simp[Kw,s,F,G,L,M,B,C,D,E,H,I,D6.len,I4 (i:=i) Zs]
def Ql{id:Nat}(h:Ar m id l)(i d:Nat)(n:1000<=d)(a b c:Nat)(e:a+c<=b)(f:b+c<=l.length)(w:j5):
   ∃m' l',l9 KW d (i+1) (.func 490) [.sliceU id 0 l.length 32,iN a,iN b,iN c,w] m=some [⟨.tuple [],m'⟩]∧oh id m l m' l'∧SwR a b 0 c l l':=by
 have j:=h.big;obtain⟨m',l',g,k,o⟩:=acf i d id a b c l.length e f j c 0 Zs d Zs m l h rfl uV;refine⟨m',l',?_,k,o⟩;rw[en ai0];simp at g;simp[ai0,g]
def AQ(a m b:Nat)(l l':cN):Prop:=∀k,l'[k]?=if a<=k∧k<a+(b-m)then l[k+(m-a)]? else if a+(b-m)<=k∧k<b then l[k-(b-m)]? else l[k]?
variable {l2:cN}
def AQ.left{m:Nat}{b:cN}(e:i<=m)(d:j<i)(a:SwR (m-i) m 0 j l b)(c:AQ (m-(i-j)) m (m+j) b l2):AQ (m-i) m (m+j) l l2:=by
 intro k;rw[c k];split
 ·rw[a];repeat' split
  all_goals first|omega|rfl|(congr 1;omega)
 ·split
  ·rw[a];repeat' split
   all_goals first|omega|rfl|(congr 1;omega)
  ·rw[a];repeat' split
   all_goals first|omega|rfl|(congr 1;omega)
def AQ.right{m:Nat}{b:cN}(e:i<=m)(d:i<j)(a:SwR (m-i) (m+j-i) 0 i l b)(c:AQ (m-i) m (m+(j-i)) b l2):AQ (m-i) m (m+j) l l2:=by
 intro k;rw[c k];split
 ·rw[a];repeat' split
  all_goals first|omega|rfl|(congr 1;omega)
 ·split
  ·rw[a];repeat' split
   all_goals first|omega|rfl|(congr 1;omega)
  ·rw[a];repeat' split
   all_goals first|omega|rfl|(congr 1;omega)
def AQ.last{m g:Nat}(a:g<=m)(h:SwR (m-g) m 0 g l l2):AQ (m-g) m (m+g) l l2:=by
 intro k;rw[h k];repeat' split
 all_goals first|omega|rfl|(congr 1;omega)
def acg(O v:Nat)(A:1000<=v)(id a m b n:Nat)(hn:n<=200)(w:j5):
   ∀(s i j:Nat),i+j<=s->0<i->0<j->i<=m->m+j<=n->∀(N:Nat),s<N->∀(M:cD) (l:cN),Ar M id l->l.length=n->∀(x5 x6:j5),
    ∃g M' l' b6,I9 (λenv m k=>FX (l9 KW v (O+1)) v none env m k) N (Mc (iN m) (iN a) (iN b) (iN i) (iN j) x5 x6 (.sliceU id 0 n 32) w) M []=some [⟨.exit 0,(Mc (iN m) (iN a) (iN b) (iN g) (iN g) fV b6 (.sliceU id 0 n 32) w),M',[],none⟩]∧oh id M l M' l'∧0<g∧g<=m∧m+g<=n∧
     ∀l2,SwR (m-g) m 0 g l' l2->AQ (m-i) m (m+j) l l2:=by
 intro s;induction s with
 |zero=>intro i j U H;omega
 |succ s ih=>
  intro i j U H S c B N W M l h E x5 x6;obtain⟨N,rfl⟩:=sx N;by_cases hij:i=j;subst hij;refine⟨i,M,l,x6,?_,oh.refl h,H,c,B,λl2 z=>AQ.last c z⟩;rw[o7];simp[FX];have C:¬ (i:Int)=(j:Int):=Zs
  obtain⟨p,T⟩:∃p,p+i=m:=⟨m-i,Zs⟩;have P:=bK T Zs;have D:m-i=p:=Zs
  by_cases hlt:j<i;obtain⟨M1,L,x,d,u⟩:=Ql h O v A p m j Zs Zs w;obtain⟨g,M',l',b6,y,e,G,f,o,J⟩:=ih (i-j) j Zs Zs S Zs B N Zs M1 L d.ar (d.len.trans E) tV tV;refine⟨g,M',l',b6,?_,d.trans e,G,f,o,λl2 z=>AQ.left c hlt (by rw[D];exact u) (J l2 z)⟩;obtain⟨q,I⟩:∃q,q+j=i:=⟨i-j,Zs⟩;rw[show i-j=q from by omega]at y;have F:=bK I Zs;rw[E]at x;rw[o7,← y];simp[FX,C,hlt,P,F,x];obtain⟨q,I⟩:∃q,q=m+j:=⟨_,rfl⟩;obtain⟨r,K⟩:∃r,r+i=q:=⟨q-i,Zs⟩;have F:=iJ I Zs;have Q:=bK K Zs;obtain⟨M1,L,x,d,u⟩:=Ql h O v A p r i Zs Zs w;obtain⟨g,M',l',b6,y,e,G,f,o,J⟩:=ih i (j-i) Zs H Zs c Zs N Zs M1 L d.ar (d.len.trans E) tV fV;refine⟨g,M',l',b6,?_,d.trans e,G,f,o,λl2 z=>AQ.right c Zs (by rw[D,show m+j-i=r from by omega];exact u) (J l2 z)⟩;obtain⟨t,V⟩:∃t,t+i=j:=⟨j-i,Zs⟩;rw[show j-i=t from by omega]at y;have R:=bK V Zs;rw[E]at x;rw[o7,← y];simp[FX,C,hlt,P,F,Q,R,x]
def afG{id:Nat}(h:Ar M id l)(n c:Nat)(e:1000<=c)(a m b:Nat)(v:a<m)(B:m<b)(hb:b<=l.length)(w:j5):
   ∃M' l',l9 KW c (n+2) (.func 450) [.sliceU id 0 l.length 32,iN a,iN m,iN b,w] M=some [⟨.tuple [],M'⟩]∧oh id M l M' l'∧AQ a m b l l':=by
 have d:=h.big;obtain⟨i,z⟩:∃i,i+a=m:=⟨m-a,Zs⟩;obtain⟨j,A⟩:∃j,j+m=b:=⟨b-m,Zs⟩;obtain⟨g,M1,H,F,u,f,G,x,y,D⟩:=acg n c e id a m b l.length d w (i+j) i j (aA _) Zs Zs Zs Zs c Zs M l h rfl uV uV;obtain⟨p,C⟩:∃p,p+g=m:=⟨m-g,Zs⟩;obtain⟨M2,q,o,k,E⟩:=Ql f.ar n c e p m g Zs (by rw[f.len];omega) w;refine⟨M2,q,?_,f.trans k,?_⟩;rw[en ahY];have r:=bK z Zs;have s:=bK A Zs;have t:=bK C Zs;rw[f.len]at o;simp[ahY,r,s,t,u,o];have:=D q (by rw[show m-g=p from by omega];exact E)
 rwa [show m-i=a from by omega,show m+j=b from by omega]at this
def afH(h:p<4611686018427387904):iB .u64 (p:Int)=(p:Int):=by show IntKind.u64.wrap (p:Int)=_;simp only[IntKind.wrap,IntKind.signed,IntKind.bits];simp;omega
def afI(h:p<4611686018427387904):iB .i64 (p:Int)=(p:Int):=by show kY (p:Int)=_;exact Z7 Zs Zs
def afJ(h:q=p / 2):TQ (.int .u64 (p:Int)) (.int .u64 1)=some (.int .u64 (q:Int)):=by
 subst h;show some (j5.int .u64 ((p:Int).fdiv (2^(min 1 IntKind.u64.bits))))=_;have:(2:Int)^(min 1 IntKind.u64.bits)=2:=ZS
 rw[this];congr 2;rw[Int.fdiv_eq_ediv_of_nonneg _ Zs];omega
def FR.key(r:FR):Int:=r.f.room*18446744073709551616+r.f.no
def aiL(a:x.Good)(b:y.Good):(x.ord y<0)↔x.key<y.key:=by
 have c:-9223372036854775808<=x.f.no∧x.f.no<9223372036854775808:=a.no;have d:-9223372036854775808<=y.f.no∧y.f.no<9223372036854775808:=b.no;unfold FR.ord afE Eu FR.key;repeat' split
 all_goals omega
def dM(l:cN)(i:Nat):Int:=(l[i]?.map FR.key).getD 0
def lD(h:i<l.length):dM l i=l[i].key:=by simp[dM,h]
def jP{a:cN}(h:a[i]?=l[j]?):dM a i=dM l j:=by unfold dM;rw[h]
def rz(l:cN)(a b:Nat):Prop:=∀i j,a<=i->i<j->j<b->dM l i<=dM l j
structure Mv(a b:Nat)(l l':cN):Prop where
 out:∀k,k<a∨b<=k->l'[k]?=l[k]?
 inn:∀k,a<=k->k<b->∃j,a<=j∧j<b∧l'[k]?=l[j]?
 bak:∀j,a<=j->j<b->∃k,a<=k∧k<b∧l'[k]?=l[j]?
def Mv.refl(a b:Nat)(l:cN):Mv a b l l:=⟨λ_ _=>rfl,λk c d=>⟨k,c,d,rfl⟩,λk c d=>⟨k,c,d,rfl⟩⟩
def Mv.trans{q l'':cN}(h:Mv a b l q)(k:Mv a b q l''):Mv a b l l'':=
 ⟨λi p=>(k.out i p).trans (h.out i p),λi c d=>by
  obtain⟨j,e,f,g⟩:=k.inn i c d;obtain⟨t,m,n,o⟩:=h.inn j e f;exact⟨t,m,n,g.trans o⟩,λi c d=>by
  obtain⟨j,e,f,g⟩:=h.bak i c d;obtain⟨t,m,n,o⟩:=k.bak j e f;exact⟨t,m,n,o.trans g⟩⟩
def Mv.mono{a' b':Nat}{l':cN}(h:Mv a b l l')(m:a'<=a)(hb:b<=b'):Mv a' b' l l':=
 ⟨λk c=>h.out k Zs,λk d e=>by
  by_cases c:a<=k∧k<b;obtain⟨j,g,i,f⟩:=h.inn k c.1 c.2;exact⟨j,Zs,Zs,f⟩;exact⟨k,d,e,h.out k Zs⟩,λk d e=>by
  by_cases c:a<=k∧k<b;obtain⟨j,g,i,f⟩:=h.bak k c.1 c.2;exact⟨j,Zs,Zs,f⟩;exact⟨k,d,e,h.out k Zs⟩⟩
def AQ.mv{m:Nat}{l':cN}(h:AQ a m b l l')(f:a<=m)(g:m<=b):Mv a b l l':=by refine⟨λk c=>?_,λk d e=>?_,λk d e=>?_⟩;rw[h k,aE Zs,aE Zs];by_cases c:k<a+(b-m);exact⟨k+(m-a),Zs,Zs,by rw[h k,cg Zs]⟩;exact⟨k-(b-m),Zs,Zs,by rw[h k,aE Zs,cg Zs]⟩;by_cases c:k<m;exact⟨k+(b-m),Zs,Zs,by rw[h,aE Zs,cg Zs];congr 1;omega⟩;exact⟨k-(m-a),Zs,Zs,by rw[h,cg Zs];congr 1;omega⟩
variable {c:cN}
def Mv.kIn(h:Mv a b l c)(d:a<=k)(e:k<b):∃j,a<=j∧j<b∧dM c k=dM l j:=by obtain⟨j,f,g,i⟩:=h.inn k d e;exact⟨j,f,g,jP i⟩
def Mv.Tk(h:Mv a b l c)(d:k<a∨b<=k):dM c k=dM l k:=jP (h.out k d)
def AQ.k1{m:Nat}(h:AQ a m b l c)(d:a<=k)(e:k<a+(b-m)):dM c k=dM l (k+(m-a)):=jP (by rw[h k,cg ⟨d,e⟩])
def AQ.k2{m:Nat}(h:AQ a m b l c)(d:a+(b-m)<=k)(e:k<b):dM c k=dM l (k-(b-m)):=jP (by rw[h k,aE Zs,cg ⟨d,e⟩])
def AQ.k0{m:Nat}(h:AQ a m b l c)(d:k<a∨b<=k)(e:a<=m)(hb:m<=b):dM c k=dM l k:=jP (by rw[h k,aE Zs,aE Zs])
variable {d:Nat}
def rz.out{c:Nat}{e:cN}(h:Mv a b l e)(hs:rz l c d)(n:d<=a∨b<=c):rz e c d:=λi j f g m=>by rw[h.Tk (k:=i) Zs,h.Tk (k:=j) Zs];exact hs i j f g m
def rz.join{m:Nat}(f:rz l a m)(g:rz l m b)(h:∀i j,a<=i->i<m->m<=j->j<b->dM l i<=dM l j):rz l a b:=λi j d c e=>by by_cases hm:j<m;exact f i j d c hm;by_cases hi':i<m;exact h i j d hi' Zs e;exact g i j Zs c e
variable {t:Nat}
def Zr{f:cN}(n:a+1<=t)(s:t<=b)(hs:rz l (a+1) b)(g:∀k,a+1<=k->k<t->dM l k<dM l a)(m:∀k,t<=k->k<b->dM l a<=dM l k)(h:AQ a (a+1) t l f):rz f a b:=by
 have d:∀k,a<=k->k<b->(k+1<t∧dM f k=dM l (k+1))∨(k+1=t∧dM f k=dM l a)∨(t<=k∧dM f k=dM l k):=λk r u=>by by_cases c1:k+1<t;exact .inl ⟨c1,by rw[h.k1 r Zs];congr 1;omega⟩;by_cases c2:k+1=t;exact .inr (.inl ⟨c2,by rw[h.k2 Zs Zs];congr 1;omega⟩);exact .inr (.inr ⟨Zs,h.k0 Zs Zs Zs⟩)
 intro i j o p q;rcases d i o Zs with⟨c,e⟩|⟨c,e⟩|⟨c,e⟩<;>rcases d j Zs q with⟨c',e'⟩|⟨c',e'⟩|⟨c',e'⟩<;>rw[e,e']
 exact hs _ _ Zs Zs Zs;exact axE (g _ Zs Zs);exact hs _ _ Zs Zs Zs;omega;omega;exact m _ Zs Zs;omega;omega;exact hs _ _ Zs Zs Zs
def Tm{m:Nat}{d:cN}(n:a<=t)(r:t<=m)(hs:rz l a m)(f:∀k,a<=k->k<t->dM l k<=dM l m)(g:∀k,t<=k->k<m->dM l m<dM l k)(h:AQ t m (m+1) l d):rz d a (m+1):=by
 have b:∀k,a<=k->k<m+1->(k<t∧dM d k=dM l k)∨(k=t∧dM d k=dM l m)∨(t<k∧dM d k=dM l (k-1)):=λk u s=>by by_cases c1:k<t;exact .inl ⟨c1,h.k0 Zs Zs Zs⟩;by_cases c2:k=t;exact .inr (.inl ⟨c2,by rw[h.k1 Zs Zs];congr 1;omega⟩);exact .inr (.inr ⟨Zs,by rw[h.k2 Zs Zs];congr 1;omega⟩)
 intro i j o p q;rcases b i o Zs with⟨c,e⟩|⟨c,e⟩|⟨c,e⟩<;>rcases b j Zs q with⟨c',e'⟩|⟨c',e'⟩|⟨c',e'⟩<;>rw[e,e']
 exact hs _ _ Zs Zs Zs;exact f _ Zs Zs;exact hs _ _ Zs Zs Zs;omega;omega;exact axE (g _ Zs Zs);omega;omega;exact hs _ _ Zs Zs Zs
def Zt{s m e:Nat}{n:cN}(E:a<=s)(hs:s<=m)(w:m<=e)(hb:e<=b)(G:d+m=s+e)(F:s<=m)(A:rz l a m)(B:rz l m b)
   (C:a<s->e<b->dM l (s-1)<=dM l e) (D:s<m->m<e->dM l (e-1)<dM l s) (h:AQ s m e l n):
   (∀i j,a<=i->i<d->d<=j->j<b->dM n i<=dM n j)∧rz n a s∧rz n s d∧rz n d e∧rz n e b:=by
 have p:∀i j,a<=i->i<=j->j<m->dM l i<=dM l j:=λi j f c g=>by rcases axl c with h|rfl;exact A i j f h g;exact axQ _
 have q:∀i j,m<=i->i<=j->j<b->dM l i<=dM l j:=λi j f c g=>by rcases axl c with h|rfl;exact B i j f h g;exact axQ _
 have y:∀k,a<=k->k<s->dM n k=dM l k:=λk _ t=>h.k0 Zs hs w;have z:∀k,s<=k->k<d->dM n k=dM l (k+(m-s)):=λk t r=>h.k1 t Zs;have u:∀k,d<=k->k<e->dM n k=dM l (k-(e-m)):=λk t r=>h.k2 Zs r;have v:∀k,e<=k->k<b->dM n k=dM l k:=λk t _=>h.k0 Zs hs w;refine⟨λi j f x g o=>?_,λi j f c g=>?_,λi j f c g=>?_,λi j f c g=>?_,λi j f c g=>?_⟩;by_cases his:i<s;rw[y i f his];by_cases hje:j<e;rw[u j g hje];exact p _ _ f Zs Zs;rw[v j Zs o];exact axf (p i (s-1) f Zs Zs) (axf (C Zs Zs) (q e j w Zs o));rw[z i Zs x];by_cases hje:j<e;rw[u j g hje];exact axf (q _ (e-1) Zs Zs Zs) (axf (axE (D Zs Zs)) (p s _ E Zs Zs));rw[v j Zs o];exact q _ _ Zs Zs o;rw[y i f Zs,y j Zs g];exact A _ _ f c Zs;rw[z i f Zs,z j Zs g];exact B _ _ Zs Zs Zs;rw[u i f Zs,u j Zs g];exact A _ _ Zs Zs Zs;rw[v i f Zs,v j Zs g];exact B _ _ Zs c g
def halves{g h:cN}(n:a<=d)(o:d<=b)(r:∀i j,a<=i->i<d->d<=j->j<b->dM l i<=dM l j)(m:Mv a d l g)(c:Mv d b g h)(s:rz g a d)(v:rz h d b):rz h a b:=by refine rz.join (rz.out c s (.inl (aA _))) v λi j p e q f=>?_;rw[c.Tk (k:=i) Zs];obtain⟨t,w,x,y⟩:=c.kIn q f;obtain⟨u,z,A,B⟩:=m.kIn p e;rw[y,m.Tk (k:=t) Zs,B];exact r u t z A w x
def Iw(a:x.Good)(b:y.Good):decide (x.ord y<0)=decide (x.key<y.key):=decide_eq_decide.2 (aiL a b)
def Ew{h:Nat}(b:h=(i+j) / 2)(a:i+j<4611686018427387904):
   ∃p:Nat,kY ((i:Int)+(j:Int))=(p:Int)∧iB .u64 (p:Int)=(p:Int)∧TQ (.int .u64 (p:Int)) (.int .u64 1)=some (.int .u64 (h:Int))∧iB .i64 (h:Int)=(h:Int):=
 ⟨i+j,iJ rfl a,afH a,afJ b,afI Zs⟩
def VP(n0 fu:Nat)(a2:1000<=fu)(id a m b n lo hi:Nat)(hn:n<=200)(l:cN)(hl:l.length=n)(q:Nat->Bool)(a7:hi<=n)(a4:a<n)
   (hq:∀h,lo<=h->h<hi->q h=decide (dM l h<dM l a))
   (d:∀u v,lo<=u->u<=v->v<hi->q v=true->q u=true) (y2 D E F G H I J K L O P Q R S T U V W X Y Z a0 a1:j5):
   ∀(s i j:Nat),j-i<=s->i<=j->lo<=i->j<=hi->(∀k,lo<=k->k<i->q k=true)->(∀k,j<=k->k<hi->q k=false)->∀(N:Nat),s<N->∀(M:cD),Ar M id l->∀(xc xh xr:j5),
    ∃t M' zh zr,I9 (λenv m k=>CB (l9 KW fu (n0+4)) fu none env m k) N (FZ (iN m) (iN a) y2 (iN b) (iN i) (iN j) xc (.func (.func 169) [] []) (.sliceU id 0 n 32) xh xr D E F G H I J K L O P Q R S T U V W X Y Z a0 a1) M []=some [⟨.exit 0,(FZ (iN m) (iN a) y2 (iN b) (iN t) (iN t) fV (.func (.func 169) [] []) (.sliceU id 0 n 32) zh zr D E F G H I J K L O P Q R S T U V W X Y Z a0 a1),M',[],none⟩]∧cE M M'∧i<=t∧t<=j∧
     (∀k,lo<=k->k<t->q k=true)∧(∀k,t<=k->k<hi->q k=false):=by
 intro s;induction s with
 |zero=>
  intro i j hs a3 A f o p N hN M h xc xh xr;obtain⟨N,rfl⟩:=sx N;obtain rfl:i=j:=Zs
  refine⟨i,M,xh,xr,?_,cE.refl h.ok,aA _,aA _,o,p⟩;rw[o7];simp[CB]
 |succ s ih=>
  intro i j hs a3 A f o p N hN M h xc xh xr;obtain⟨N,rfl⟩:=sx N;by_cases hlt:i<j;obtain⟨c,hc⟩:∃c,c=(i+j) / 2:=⟨_,rfl⟩;obtain⟨w,w1,w2,w3,w4⟩:=Ew hc Zs;have a5:i<=c:=Zs
  have a6:c<j:=Zs
  have B:c<l.length:=Zs
  have C:a<l.length:=Zs
  obtain⟨M1,g1,E1⟩:=Iu h.ok h.lm n0 fu a2 (h.get B) (h.get C);have r1:=h.fa.ld B;have r2:=h.fa.ld C;have z1:=(h.get B).rf;have z2:=(h.get C).rf;have i1:∀{β:Type} (k:Nat->Option β),idx n (iV (c:Int)) k=k c:=λk=>Z0 _ _ k Zs;have i2:∀{β:Type} (k:Nat->Option β),idx n (iV (a:Int)) k=k a:=λk=>Z0 _ _ k Zs;have e:=hq c Zs Zs;have hd:=Iw (h.get B) (h.get C);rw[← lD B,← lD C]at hd;generalize l[c]=x at *;generalize l[a]=y at *;cases hb:q c with
  |true=>
   obtain⟨t,M',zh,zr,g2,E2,t1,t2,t3,t4⟩:=ih (c+1) j Zs Zs Zs f (λk hk z=>by
    by_cases hkc:k<=c;exact d k c hk hkc Zs hb;omega) p N Zs M1 (h.ext E1) tV (iN c) tV
   refine⟨t,M',zh,zr,?_,E1.trans E2,Zs,t2,t3,t4⟩;obtain⟨c1,r⟩:∃c1,c1=c+1:=⟨_,rfl⟩;have ec:=Z5 r Zs;rw[← r]at g2;have g:decide (x.ord y<0)=true:=by rw[hd];rw[hb]at e;simpa[ck]using e.symm
   clear ih o p d hq;rw[o7,← g2];simp[CB,hlt,w1,w2,w3,w4,r1,r2,z1,z2,i1,i2,g1,g,ec]
  |false=>
   obtain⟨t,M',zh,zr,g2,E2,t1,t2,t3,t4⟩:=ih i c Zs Zs A Zs o (λk hk z=>by
    cases hqk:q k with
    |false=>rfl
    |true=>rw[d c k Zs hk z hqk]at hb;cases hb) N Zs M1 (h.ext E1) tV (iN c) fV
   refine⟨t,M',zh,zr,?_,E1.trans E2,t1,Zs,t3,t4⟩;have g:decide (x.ord y<0)=false:=by rw[hd];rw[hb]at e;simpa[ck]using e.symm
   clear ih o p d hq;rw[o7,← g2];simp[CB,hlt,w1,w2,w3,w4,r1,r2,z1,z2,i1,i2,g1,g]
  obtain rfl:i=j:=Zs
  refine⟨i,M,xh,xr,?_,cE.refl h.ok,aA _,aA _,o,p⟩;rw[o7];simp[CB]
def VQ(n0 Y:Nat)(a0:1000<=Y)(id a m b n lo hi:Nat)(hn:n<=200)(l:cN)(hl:l.length=n)(q:Nat->Bool)(a4:hi<=n)(a5:m<n)
   (hq:∀h,lo<=h->h<hi->q h=!decide (dM l m<dM l h))
   (d:∀u v,lo<=u->u<=v->v<hi->q v=true->q u=true) (y2 y4 y5 y6 y9 D E F G H I J K L O P Q R S T U V W X:j5):
   ∀(s i j:Nat),j-i<=s->i<=j->lo<=i->j<=hi->(∀k,lo<=k->k<i->q k=true)->(∀k,j<=k->k<hi->q k=false)->∀(N:Nat),s<N->∀(M:cD),Ar M id l->∀(xc xh xr:j5),
    ∃t M' zh zr,I9 (λenv m k=>wU (l9 KW Y (n0+4)) Y none env m k) N (FZ (iN m) (iN a) y2 (iN b) y4 y5 y6 (.func (.func 169) [] []) (.sliceU id 0 n 32) y9 D E F G (iN i) (iN j) xc xh xr H I J K L O P Q R S T U V W X) M []=some [⟨.exit 4,(FZ (iN m) (iN a) y2 (iN b) y4 y5 y6 (.func (.func 169) [] []) (.sliceU id 0 n 32) y9 D E F G (iN t) (iN t) fV zh zr H I J K L O P Q R S T U V W X),M',[],none⟩]∧cE M M'∧i<=t∧t<=j∧
     (∀k,lo<=k->k<t->q k=true)∧(∀k,t<=k->k<hi->q k=false):=by
 intro s;induction s with
 |zero=>
  intro i j hs a1 A f o p N hN M h xc xh xr;obtain⟨N,rfl⟩:=sx N;obtain rfl:i=j:=Zs
  refine⟨i,M,xh,xr,?_,cE.refl h.ok,aA _,aA _,o,p⟩;rw[o7];simp[wU]
 |succ s ih=>
  intro i j hs a1 A f o p N hN M h xc xh xr;obtain⟨N,rfl⟩:=sx N;by_cases hlt:i<j;obtain⟨c,hc⟩:∃c,c=(i+j) / 2:=⟨_,rfl⟩;obtain⟨w,w1,w2,w3,w4⟩:=Ew hc Zs;have a2:i<=c:=Zs
  have a3:c<j:=Zs
  have B:m<l.length:=Zs
  have C:c<l.length:=Zs
  obtain⟨M1,g1,E1⟩:=Iu h.ok h.lm n0 Y a0 (h.get B) (h.get C);have r1:=h.fa.ld B;have r2:=h.fa.ld C;have z1:=(h.get B).rf;have z2:=(h.get C).rf;have i1:∀{β:Type} (k:Nat->Option β),idx n (iV (m:Int)) k=k m:=λk=>Z0 _ _ k Zs;have i2:∀{β:Type} (k:Nat->Option β),idx n (iV (c:Int)) k=k c:=λk=>Z0 _ _ k Zs;have e:=hq c Zs Zs;have hd:=Iw (h.get B) (h.get C);rw[← lD B,← lD C]at hd;generalize l[m]=x at *;generalize l[c]=y at *;cases hb:q c with
  |true=>
   obtain⟨t,M',zh,zr,Z,E2,t1,t2,t3,t4⟩:=ih (c+1) j Zs Zs Zs f (λk hk z=>by
    by_cases hkc:k<=c;exact d k c hk hkc Zs hb;omega) p N Zs M1 (h.ext E1) tV (iN c) tV
   refine⟨t,M',zh,zr,?_,E1.trans E2,Zs,t2,t3,t4⟩;obtain⟨c1,r⟩:∃c1,c1=c+1:=⟨_,rfl⟩;have ec:=Z5 r Zs;rw[← r]at Z;have g:decide (x.ord y<0)=false:=by rw[hd];rw[hb]at e;simpa[ck]using e.symm
   clear ih o p d hq;rw[o7,← Z];simp[wU,hlt,w1,w2,w3,w4,r1,r2,z1,z2,i1,i2,g1,g,ec]
  |false=>
   obtain⟨t,M',zh,zr,Z,E2,t1,t2,t3,t4⟩:=ih i c Zs Zs A Zs o (λk hk z=>by
    cases hqk:q k with
    |false=>rfl
    |true=>rw[d c k Zs hk z hqk]at hb;cases hb) N Zs M1 (h.ext E1) tV (iN c) fV
   refine⟨t,M',zh,zr,?_,E1.trans E2,t1,Zs,t3,t4⟩;have g:decide (x.ord y<0)=true:=by rw[hd];rw[hb]at e;simpa[ck]using e.symm
   clear ih o p d hq;rw[o7,← Z];simp[wU,hlt,w1,w2,w3,w4,r1,r2,z1,z2,i1,i2,g1,g]
  obtain rfl:i=j:=Zs
  refine⟨i,M,xh,xr,?_,cE.refl h.ok,aA _,aA _,o,p⟩;rw[o7];simp[wU]
def VR(n0 Z:Nat)(a0:1000<=Z)(id a m b n lo hi:Nat)(p:Nat)(hn:n<=200)(l:cN)(hl:l.length=n)(q:Nat->Bool)(a6:hi<=n)(hp:∀h,lo<=h->h<hi->h<=p∧p-h<n)
   (hq:∀h,lo<=h->h<hi->q h=!decide (dM l (p-h)<dM l h))
   (d:∀u v,lo<=u->u<=v->v<hi->q v=true->q u=true) (y2 y4 y5 y6 y9 F G H I J K L O P Q R S T U V W X Y:j5):
   ∀(s i j:Nat),j-i<=s->i<=j->lo<=i->j<=hi->(∀k,lo<=k->k<i->q k=true)->(∀k,j<=k->k<hi->q k=false)->∀(N:Nat),s<N->∀(M:cD),Ar M id l->∀(xc xh xr:j5),
    ∃t M' zh zr,I9 (λenv m k=>qA (l9 KW Z (n0+4)) Z none env m k) N (FZ (iN m) (iN a) y2 (iN b) y4 y5 y6 (.func (.func 169) [] []) (.sliceU id 0 n 32) y9 F G H I J K L O P Q R S T U (iN i) (iN j) xc (iN p) xh xr V W X Y) M []=some [⟨.exit 8,(FZ (iN m) (iN a) y2 (iN b) y4 y5 y6 (.func (.func 169) [] []) (.sliceU id 0 n 32) y9 F G H I J K L O P Q R S T U (iN t) (iN t) fV (iN p) zh zr V W X Y),M',[],none⟩]∧cE M M'∧i<=t∧t<=j∧
     (∀k,lo<=k->k<t->q k=true)∧(∀k,t<=k->k<hi->q k=false):=by
 intro s;induction s with
 |zero=>
  intro i j hs a1 C f r z N hN M h xc xh xr;obtain⟨N,rfl⟩:=sx N;obtain rfl:i=j:=Zs
  refine⟨i,M,xh,xr,?_,cE.refl h.ok,aA _,aA _,r,z⟩;rw[o7];simp[qA]
 |succ s ih=>
  intro i j hs a1 C f r z N hN M h xc xh xr;obtain⟨N,rfl⟩:=sx N;by_cases hlt:i<j;obtain⟨c,hc⟩:∃c,c=(i+j) / 2:=⟨_,rfl⟩;obtain⟨w,w1,w2,w3,w4⟩:=Ew hc Zs;have a4:i<=c:=Zs
  have a5:c<j:=Zs
  obtain⟨a7,a2⟩:=hp c Zs Zs;obtain⟨u,a3⟩:∃u,u+c=p:=⟨p-c,Zs⟩;have eu:=bK a3 Zs;have g:p-c=u:=Zs
  rw[g]at a2;have D:u<l.length:=Zs
  have E:c<l.length:=Zs
  obtain⟨M1,g1,E1⟩:=Iu h.ok h.lm n0 Z a0 (h.get D) (h.get E);have r1:=h.fa.ld D;have r2:=h.fa.ld E;have z1:=(h.get D).rf;have z2:=(h.get E).rf;have i1:∀{β:Type} (k:Nat->Option β),idx n (iV (u:Int)) k=k u:=λk=>Z0 _ _ k Zs;have i2:∀{β:Type} (k:Nat->Option β),idx n (iV (c:Int)) k=k c:=λk=>Z0 _ _ k Zs;have e:=hq c Zs Zs;have hd:=Iw (h.get D) (h.get E);rw[← lD D,← lD E]at hd;generalize l[u]=x at *;generalize l[c]=y at *;cases hb:q c with
  |true=>
   obtain⟨t,M',zh,zr,g2,E2,t1,t2,t3,t4⟩:=ih (c+1) j Zs Zs Zs f (λk hk B=>by
    by_cases hkc:k<=c;exact d k c hk hkc Zs hb;omega) z N Zs M1 (h.ext E1) tV (iN c) tV
   refine⟨t,M',zh,zr,?_,E1.trans E2,Zs,t2,t3,t4⟩;obtain⟨c1,A⟩:∃c1,c1=c+1:=⟨_,rfl⟩;have ec:=Z5 A Zs;rw[← A]at g2;have o:decide (x.ord y<0)=false:=by rw[hd];rw[hb]at e;simpa[ck,g]using e.symm
   clear ih r z d hq;rw[o7,← g2];simp[qA,hlt,w1,w2,w3,w4,r1,r2,z1,z2,i1,i2,g1,o,ec,eu]
  |false=>
   obtain⟨t,M',zh,zr,g2,E2,t1,t2,t3,t4⟩:=ih i c Zs Zs C Zs r (λk hk B=>by
    cases hqk:q k with
    |false=>rfl
    |true=>rw[d c k Zs hk B hqk]at hb;cases hb) N Zs M1 (h.ext E1) tV (iN c) fV
   refine⟨t,M',zh,zr,?_,E1.trans E2,t1,Zs,t3,t4⟩;have o:decide (x.ord y<0)=true:=by rw[hd];rw[hb]at e;simpa[ck,g]using e.symm
   clear ih r z d hq;rw[o7,← g2];simp[qA,hlt,w1,w2,w3,w4,r1,r2,z1,z2,i1,i2,g1,o,eu]
  obtain rfl:i=j:=Zs
  refine⟨i,M,xh,xr,?_,cE.refl h.ok,aA _,aA _,r,z⟩;rw[o7];simp[qA]
def aiM{a:cN}(e:k+1<t)(hi:k<l.length)(d:k+1<l.length)(b:a=swp l k (k+1) hi d)(c:AQ (k+1) (k+1+1) t a l2):AQ k (k+1) t l l2:=by
 intro x;rw[c x,b];simp only[swp_get];repeat' split
 all_goals first|omega|rfl|(congr 1;omega)
def Tn{a:cN}(e:t<k)(hi:k<l.length)(d:k-1<l.length)(b:a=swp l k (k-1) hi d)(c:AQ t (k-1) k a l2):AQ t k (k+1) l l2:=by
 intro x;rw[c x,b];simp only[swp_get];repeat' split
 all_goals first|omega|rfl|(congr 1;omega)
def Iy(h:a<=b):AQ a a b l l:=by
 intro x;repeat' split
 all_goals first|omega|rfl|(congr 1;omega)
def XH(h:a<=b):AQ a b b l l:=by
 intro x;repeat' split
 all_goals first|omega|rfl|(congr 1;omega)
def VT(n0 V id a m b n t:Nat)(hn:n<=200)(a0:t<=n)(ht:0<t)(y2 y5 y6 y9 d e i j o p r v w z A B C D E F G H I J K L:j5):
   ∀(s k:Nat),k+s+1=t->∀(N:Nat),s<N->∀(M:cD) (l:cN),Ar M id l->l.length=n->∀(xc:j5),
    ∃M' l',I9 (λenv m k=>FW (l9 KW V (n0+4)) V none env m k) N (FZ (iN m) (iN a) y2 (iN b) (iN t) y5 y6 (.func (.func 169) [] []) (.sliceU id 0 n 32) y9 d (iN k) xc e i j o p r v w z A B C D E F G H I J K L) M []=some [⟨.exit 2,(FZ (iN m) (iN a) y2 (iN b) (iN t) y5 y6 (.func (.func 169) [] []) (.sliceU id 0 n 32) y9 d (iN (t-1)) fV e i j o p r v w z A B C D E F G H I J K L),M',[],none⟩]∧oh id M l M' l'∧AQ k (k+1) t l l':=by
 obtain⟨u,Y⟩:∃u,u+1=t:=⟨t-1,Zs⟩;have U:=qR Y Zs;have T:t-1=u:=Zs
 rw[T];intro s;induction s with
 |zero=>
  intro k hk N hN M l h W xc;obtain⟨N,rfl⟩:=sx N;obtain rfl:k=u:=Zs
  refine⟨M,l,?_,oh.refl h,by rw[← Y];exact XH Zs⟩;rw[o7];simp[FW,U]
 |succ s ih=>
  intro k hk N hN M l h W xc;obtain⟨N,rfl⟩:=sx N;have P:k<l.length:=Zs
  have Q:k+1<l.length:=Zs
  obtain⟨m1,m2,s1,s2,O⟩:=h.swap P Q;obtain⟨M',l',g,c,X⟩:=ih (k+1) Zs N Zs m2 _ O.ar (O.len.trans W) tV;refine⟨M',l',?_,O.trans c,aiM Zs P Q rfl X⟩;rw[o7,← g];have r1:=h.fa.ld P;have Z:=h.fa.ld Q;have g1:=(h.get P).rf;have g2:=(h.get Q).rf;generalize hx:l[k]=x at *;generalize hy:l[k+1]=y at *;clear X c ih O g;obtain⟨q,S⟩:∃q,q=k+1:=⟨_,rfl⟩;rw[← S]at Z s2;have e2:=Z5 S Zs;have i1:∀{β:Type} (f:Nat->Option β),idx n (iV (k:Int)) f=f k:=λf=>Z0 _ _ f Zs;have i2:∀{β:Type} (f:Nat->Option β),idx n (iV (q:Int)) f=f q:=λf=>Z0 _ _ f Zs;have R:k<u:=Zs
  rw[← S];simp[FW,U,R,e2,i1,i2,r1,Z,s1,s2,g1,g2,D6.len]
def VU(n0 S id a m b n t:Nat)(hn:n<=200)(W X Y Z y9 d e i j o p r u v w z A B C D E F G H I J:j5):
   ∀(s k:Nat),t+s=k->k<n->∀(N:Nat),s<N->∀(M:cD) (l:cN),Ar M id l->l.length=n->∀(xc:j5),
    ∃M' l',I9 (λenv m k=>zS (l9 KW S (n0+4)) S none env m k) N (FZ (iN m) (iN a) W (iN b) X Y Z (.func (.func 169) [] []) (.sliceU id 0 n 32) y9 d e i j (iN t) o p r u (iN k) xc v w z A B C D E F G H I J) M []=some [⟨.exit 6,(FZ (iN m) (iN a) W (iN b) X Y Z (.func (.func 169) [] []) (.sliceU id 0 n 32) y9 d e i j (iN t) o p r u (iN t) fV v w z A B C D E F G H I J),M',[],none⟩]∧oh id M l M' l'∧AQ t k (k+1) l l':=by
 intro s;induction s with
 |zero=>
  intro k hk P N hN M l h T xc;obtain⟨N,rfl⟩:=sx N;obtain rfl:t=k:=Zs
  refine⟨M,l,?_,oh.refl h,Iy Zs⟩;rw[o7];simp[zS]
 |succ s ih=>
  intro k hk P N hN M l h T xc;obtain⟨N,rfl⟩:=sx N;have L:k<l.length:=Zs
  have O:k-1<l.length:=Zs
  obtain⟨m1,m2,s1,V,K⟩:=h.swap L O;obtain⟨M',l',g,c,Q⟩:=ih (k-1) Zs Zs N Zs m2 _ K.ar (K.len.trans T) tV;rw[show k-1+1=k from by omega]at Q;refine⟨M',l',?_,K.trans c,Tn Zs L O rfl Q⟩;rw[o7,← g];have r1:=h.fa.ld L;have U:=h.fa.ld O;have g1:=(h.get L).rf;have g2:=(h.get O).rf;generalize hx:l[k]=x at *;generalize hy:l[k-1]=y at *;clear Q c ih K g;obtain⟨q,hq⟩:∃q,q+1=k:=⟨k-1,Zs⟩;rw[show k-1=q from by omega]at U V ⊢;have e2:=qR hq Zs;have i1:∀{β:Type} (f:Nat->Option β),idx n (iV (k:Int)) f=f k:=λf=>Z0 _ _ f Zs;have i2:∀{β:Type} (f:Nat->Option β),idx n (iV (q:Int)) f=f q:=λf=>Z0 _ _ f Zs;have R:t<k:=Zs
  simp[zS,R,e2,i1,i2,r1,U,s1,V,g1,g2,D6.len]
def KO(h:rz l a b)(c:a<=i)(d:i<=j)(e:j<b):dM l i<=dM l j:=by rcases axl d with h'|rfl;exact h i j c h' e;exact axQ _
def ach{id:Nat}(h:Ar M id l)(n d:Nat)(i:1000<=d)(a m b:Nat)(g:m=a+1)(A:m<b)(hb:b<=l.length)(p:rz l m b):
   ∃M' l',l9 KW d (n+5) (.func 373) [.sliceU id 0 l.length 32,(iN a),(iN m),(iN b),(.func (.func 169) [] [])] M=some [⟨.tuple [],M'⟩]∧oh id M l M' l'∧Mv a b l l'∧rz l' a b:=by
 have c:=h.big;obtain⟨t,M1,F,G,s,E1,H,q,D,E⟩:=VP n d i id a m b l.length m b c l rfl (λx=>decide (dM l x<dM l a)) hb Zs (λ_ _ _=>rfl)
  (λu v B j C z=>by
   have:=KO p B j C;simp only[ck]at z ⊢;omega) tV uV uV uV uV uV uV uV uV uV uV uV uV uV uV uV uV uV uV uV uV uV uV uV (b-m) m b (aA _) Zs (aA _) (aA _) (λk f e=>Zs) (λk f e=>Zs) d Zs M h uV uV uV
 obtain⟨M2,l',w,y,o⟩:=VT n d id a m b l.length t c Zs Zs tV (iN t) fV F G uV uV uV uV uV uV uV uV uV uV uV uV uV uV uV uV uV uV uV uV uV (t-m) a Zs d Zs M1 l (h.ext E1) rfl uV;refine⟨M2,l',?_,(oh.of h E1).trans y,(o.mv Zs Zs).mono (aA _) q,Zr Zs q (g▸p) (λk f e=>by simpa using D k Zs e) (λk f e=>by simpa using E k f e) o⟩;rw[en Sz];have r:kY ((m:Int)-(a:Int))=1:=by rw[Z7 Zs Zs];omega
 simp[Sz,r,s,w]
def Zu{id:Nat}(h:Ar M id l)(o d:Nat)(i:1000<=d)(a m b:Nat)(C:a+1<m)(j:b=m+1)(hb:b<=l.length)(y:rz l a m):
   ∃M' l',l9 KW d (o+5) (.func 373) [.sliceU id 0 l.length 32,(iN a),(iN m),(iN b),(.func (.func 169) [] [])] M=some [⟨.tuple [],M'⟩]∧oh id M l M' l'∧Mv a b l l'∧rz l' a b:=by
 have c:=h.big;obtain⟨t,M1,O,P,q,E1,z,K,L,N⟩:=VQ o d i id a m b l.length a m c l rfl (λx=>!decide (dM l m<dM l x)) Zs Zs (λ_ _ _=>rfl)
  (λu v H n I E=>by
   have:=KO y H n I;simp only[awS,decide_eq_false_iff_not]at E ⊢;omega) fV uV uV uV uV uV uV uV tV uV uV uV uV uV uV uV uV uV uV uV uV uV uV uV (m-a) a m (aA _) Zs (aA _) (aA _) (λk e f=>Zs) (λk e f=>Zs) d Zs M h uV uV uV
 obtain⟨M2,l',r,D,s⟩:=VU o d id a m b l.length t c fV uV uV uV uV uV uV uV tV (iN t) fV O P uV uV uV uV uV uV uV uV uV uV uV uV uV (m-t) m Zs Zs d Zs M1 l (h.ext E1) rfl uV;subst j;refine⟨M2,l',?_,(oh.of h E1).trans D,(s.mv Zs Zs).mono z (aA _),Tm z K y (λk e f=>by have:=L k e f;simp at this;omega) (λk e f=>by have:=N k e f;simp at this;omega) s⟩;rw[en Sz];obtain⟨p,F⟩:∃p,p+a=m:=⟨m-a,Zs⟩;have A:=bK F Zs;have G:¬ p=1:=Zs
 have g:¬ (p:Int)=1:=Zs
 obtain⟨w,J⟩:∃w,w=m+1:=⟨_,rfl⟩;rw[← J]at q r ⊢;have B:kY ((w:Int)-(m:Int))=1:=by rw[Z7 Zs Zs];omega
 simp[Sz,A,g,B,q,r]
def VW{id:Nat}(h:Ar M id l)(C q:Nat)(w:1000<=q)(a m b d c p lo hi:Nat)(I:a+1<m)(O:m+1<b)(hb:b<=l.length)(Z:d=(a+b) / 2)(Q:c=d+m)(hp:p+1=c)
   (g:lo=if d<m then c-b else a) (f:hi=if d<m then d else m) (T:rz l a m) (U:rz l m b) (o:j5):
   ∃t M1 zh zr,I9 (λenv m k=>qA (l9 KW q (C+4)) q none env m k) q (FZ (iN m) (iN a) fV (iN b) uV uV uV (.func (.func 169) [] []) (.sliceU id 0 l.length 32) uV uV uV uV fV uV uV uV uV uV uV uV (iN d) o (iN c) (iN lo) (iN hi) uV (iN p) uV uV uV uV uV uV) M [] =
      some [⟨.exit 8,(FZ (iN m) (iN a) fV (iN b) uV uV uV (.func (.func 169) [] []) (.sliceU id 0 l.length 32) uV uV uV uV fV uV uV uV uV uV uV uV (iN d) o (iN c) (iN t) (iN t) fV (iN p) zh zr uV uV uV uV),M1,[],none⟩]∧cE M M1∧
    ∃e,t+e=c∧a<=t∧t<=m∧t<=d∧m<=e∧e<=b∧d<=e∧(a<t->e<b->dM l (t-1)<=dM l e)∧(t<m->m<e->dM l (e-1)<dM l t):=by
 have r:=h.big;have B:a<=lo:=by rw[g];split<;>omega
 have z:lo<=hi:=by rw[g,f];split<;>omega
 have N:hi<=m:=by rw[f];split<;>omega
 have L:hi<=d:=by rw[f];split<;>omega
 have y:c<=lo+b:=by rw[g];split<;>omega
 obtain⟨t,M1,zh,zr,F,E1,D,E,V,W⟩:=VR C q w id a m b l.length lo hi p r l rfl (λx=>!decide (dM l (p-x)<dM l x)) Zs (λx hx S=>⟨Zs,Zs⟩) (λ_ _ _=>rfl)
  (λu v hu A hv s=>by
   have X:=KO T (i:=u) (j:=v) Zs A Zs;have Y:=KO U (i:=p-v) (j:=p-u) Zs Zs Zs;simp only[awS,decide_eq_false_iff_not]at s ⊢;omega) fV uV uV uV uV uV uV uV fV uV uV uV uV uV uV uV (iN d) o (iN c) uV uV uV uV (hi-lo) lo hi (aA _) z (aA _) (aA _) (λk G H=>Zs) (λk G H=>Zs) q Zs M h uV uV uV
 refine⟨t,M1,zh,zr,F,E1,c-t,Zs,Zs,Zs,Zs,Zs,Zs,Zs,λJ K=>?_,λR P=>?_⟩;have n:lo<=t-1:=by rw[g]at D y ⊢;split at D<;>split<;>omega
 have:=V (t-1) n Zs;simp only[awS,decide_eq_false_iff_not]at this;rw[show p-(t-1)=c-t from by omega]at this;omega;have n:t<hi:=by rw[f]at E ⊢;split at E<;>split<;>omega
 have:=W t (aA _) n;simp only[Bool.not_eq_false',ck]at this;rw[show p-t=c-t-1 from by omega]at this;exact this
def XI(k:Nat)(B:1000<=k)(id:Nat):∀(s:Nat) (M:cD) (l:cN),Ar M id l->∀(n0 a m b:Nat),b-a<=s->a<m->m<b->b<=l.length->rz l a m->rz l m b->
   ∃M' l',l9 KW k (n0+s+5) (.func 373) [.sliceU id 0 l.length 32,(iN a),(iN m),(iN b),(.func (.func 169) [] [])] M=some [⟨.tuple [],M'⟩]∧oh id M l M' l'∧Mv a b l l'∧rz l' a b:=by
 intro s;induction s with
 |zero=>intro M l h n0 a m b hs U K;omega
 |succ s ih=>
  intro M l h n0 a m b hs U K V S T;by_cases c1:m=a+1;exact ach h (n0+(s+1)) k B a m b c1 K V T;by_cases c2:b=m+1;exact Zu h (n0+(s+1)) k B a m b Zs c2 V S;have a4:=h.big;obtain⟨d,Q⟩:∃d,d=(a+b) / 2:=⟨_,rfl⟩;obtain⟨nn,C⟩:∃nn,nn=d+m:=⟨_,rfl⟩;obtain⟨p,R⟩:∃p,p+1=nn:=⟨nn-1,Zs⟩;obtain⟨lo,j⟩:∃lo,lo=if d<m then nn-b else a:=⟨_,rfl⟩
  obtain⟨W,i⟩:∃W,W=if d<m then d else m:=⟨_,rfl⟩
  obtain⟨t,M1,zh,zr,F,E1,e,te,G,tm,td,me,eb,de,k1,k2⟩:=VW h (n0+(s+1)) k B a m b d nn p lo W Zs Zs V Q C R j i S T (.bool (decide (d<m)));have a1:=h.ext E1;obtain⟨M2,l2,y,n,L⟩:∃M2 l2,((t<m∧m<e∧l9 KW k (n0+s+5) (.func 450) [.sliceU id 0 l.length 32,(iN t),(iN m),(iN e),(.func (.func 169) [] [])] M1=some [⟨.tuple [],M2⟩])∨(¬ (t<m∧m<e)∧M2=M1))∧oh id M1 l M2 l2∧AQ t m e l l2:=by
   by_cases c:t<m∧m<e;obtain⟨M2,l2,g,H,L⟩:=afG a1 (n0+s+3) k B t m e c.1 c.2 Zs (.func (.func 169) [] []);exact⟨M2,l2,.inl ⟨c.1,c.2,g⟩,H,L⟩;refine⟨M1,l,.inr ⟨c,rfl⟩,oh.refl a1,?_⟩;by_cases ct:t<m;obtain rfl:e=m:=Zs
   exact XH Zs;obtain rfl:t=m:=Zs
   exact Iy Zs
  have N:(t<m∧m<e∧l9 KW k (n0+s+5) (.func 450) [.sliceU id 0 l.length 32,(iN t),(iN m),(iN e),(.func (.func 169) [] [])] M1=some [⟨.tuple [],M2⟩])∨(t<m∧¬ m<e∧M2=M1)∨(¬ t<m∧M2=M1):=by rcases y with y|⟨r,y⟩;exact .inl y;by_cases c:t<m;exact .inr (.inl ⟨c,λh=>r ⟨c,h⟩,y⟩);exact .inr (.inr ⟨c,y⟩)
  obtain⟨hx,q1,q2,q3,q4⟩:=Zt (d:=d) G tm me eb Zs tm S T k1 k2 L;have J:=n.len;obtain⟨M3,v,z,o,u,w1⟩:∃M3 v,((a<t∧t<d∧l9 KW k (n0+s+5) (.func 373) [.sliceU id 0 l.length 32,(iN a),(iN t),(iN d),(.func (.func 169) [] [])] M2=some [⟨.tuple [],M3⟩])∨(¬ (a<t∧t<d)∧M3=M2))∧oh id M2 l2 M3 v∧Mv a d l2 v∧rz v a d:=by
   by_cases c:a<t∧t<d;obtain⟨M3,v,g,H,Y,a2⟩:=ih M2 l2 n.ar n0 a t d Zs c.1 c.2 Zs q1 q2;rw[J]at g;exact⟨M3,v,.inl ⟨c.1,c.2,g⟩,H,Y,a2⟩;refine⟨M2,l2,.inr ⟨c,rfl⟩,oh.refl n.ar,Mv.refl _ _ _,?_⟩;by_cases ct:a<t;obtain rfl:t=d:=Zs
   exact q1;obtain rfl:a=t:=Zs
   exact q2
  have X:=o.len.trans J;have O:(a<t∧t<d∧l9 KW k (n0+s+5) (.func 373) [.sliceU id 0 l.length 32,(iN a),(iN t),(iN d),(.func (.func 169) [] [])] M2=some [⟨.tuple [],M3⟩])∨(a<t∧¬ t<d∧M3=M2)∨(¬ a<t∧M3=M2):=by rcases z with z|⟨r,z⟩;exact .inl z;by_cases c:a<t;exact .inr (.inl ⟨c,λh=>r ⟨c,h⟩,z⟩);exact .inr (.inr ⟨c,z⟩)
  obtain⟨M4,E,A,I,D,w2⟩:∃M4 E,((d<e∧e<b∧l9 KW k (n0+s+5) (.func 373) [.sliceU id 0 l.length 32,(iN d),(iN e),(iN b),(.func (.func 169) [] [])] M3=some [⟨.tuple [],M4⟩])∨(¬ (d<e∧e<b)∧M4=M3))∧oh id M3 v M4 E∧Mv d b v E∧rz E d b:=by
   have u1:=rz.out u q3 (.inr (aA _));have u2:=rz.out u q4 (.inr de);by_cases c:d<e∧e<b;obtain⟨M4,E,g,H,Y,a3⟩:=ih M3 v o.ar n0 d e b Zs c.1 c.2 Zs u1 u2;rw[X]at g;exact⟨M4,E,.inl ⟨c.1,c.2,g⟩,H,Y,a3⟩;refine⟨M3,v,.inr ⟨c,rfl⟩,oh.refl o.ar,Mv.refl _ _ _,?_⟩;by_cases ct:d<e;obtain rfl:e=b:=Zs
   exact u1;obtain rfl:d=e:=Zs
   exact u2
  have P:(d<e∧e<b∧l9 KW k (n0+s+5) (.func 373) [.sliceU id 0 l.length 32,(iN d),(iN e),(iN b),(.func (.func 169) [] [])] M3=some [⟨.tuple [],M4⟩])∨(d<e∧¬ e<b∧M4=M3)∨(¬ d<e∧M4=M3):=by rcases A with A|⟨r,A⟩;exact .inl A;by_cases c:d<e;exact .inr (.inl ⟨c,λh=>r ⟨c,h⟩,A⟩);exact .inr (.inr ⟨c,A⟩)
  refine⟨M4,E,?_,(((oh.of h E1).trans n).trans o).trans I,(((L.mv tm me).mono G eb).trans (u.mono (aA _) Zs)).trans (D.mono Zs (aA _)),halves Zs Zs hx u D w1 w2⟩;clear ih hx L u D w1 w2 q1 q2 q3 q4 k1 k2 S T n o I y z A;rw[en Sz];obtain⟨p1,Z⟩:∃x,x+a=m:=⟨m-a,Zs⟩;have x0:=bK Z Zs;have a7:¬ (p1:Int)=1:=Zs
  have a5:¬ p1=1:=Zs
  obtain⟨p2,a0⟩:∃x,x+m=b:=⟨b-m,Zs⟩;have x1:=bK a0 Zs;have a8:¬ (p2:Int)=1:=Zs
  have a6:¬ p2=1:=Zs
  obtain⟨w,v1,v2,v3,v4⟩:=Ew Q Zs;have x2:=iJ C Zs;have x3:=qR R Zs;have x5:kY ((nn:Int)-(t:Int))=(e:Int):=bK Zs Zs;have f:n0+(s+1)+4=n0+s+5:=Zs
  rw[f]at F ⊢;by_cases cdm:d<m;rw[cg cdm]at j i;rw[j,i]at F;obtain⟨q,hq⟩:∃q,q+b=nn:=⟨nn-b,Zs⟩;have x4:=bK hq Zs;rw[show nn-b=q from by omega]at F;simp only[cdm,decide_true]at F;clear Q C R j i te f;rcases N with⟨r1,r2,y⟩|⟨r1,r2,rfl⟩|⟨r1,rfl⟩<;>rcases O with⟨r3,r4,z⟩|⟨r3,r4,rfl⟩|⟨r3,rfl⟩<;>rcases P with⟨r5,r6,A⟩|⟨r5,r6,rfl⟩|⟨r5,rfl⟩<;>simp[Sz, *]
  rw[aE cdm]at j i;rw[j,i]at F;simp only[cdm,decide_false]at F;clear Q C R j i te f;rcases N with⟨r1,r2,y⟩|⟨r1,r2,rfl⟩|⟨r1,rfl⟩<;>rcases O with⟨r3,r4,z⟩|⟨r3,r4,rfl⟩|⟨r3,rfl⟩<;>rcases P with⟨r5,r6,A⟩|⟨r5,r6,rfl⟩|⟨r5,rfl⟩<;>simp[Sz, *]
def VX(R u:Nat)(D:1000<=u)(id a b n O:Nat)(hn:n<=200)(V:j5):
   ∀(s j:Nat),a+s=j->j<n->∀(N:Nat),s<N->∀(M:cD) (l:cN),Ar M id l->l.length=n->∀(xd:j5),
    ∃t M' l',I9 (λenv m k=>Cz (l9 KW u (R+4)) u none env m k) N (zV (iN a) (iN O) (iN b) V (iN j) (.func (.func 169) [] []) (.sliceU id 0 n 32) xd) M []=some [⟨.exit 2,(zV (iN a) (iN O) (iN b) V (iN t) (.func (.func 169) [] []) (.sliceU id 0 n 32) fV),M',[],none⟩]∧oh id M l M' l'∧AQ t j (j+1) l l'∧a<=t∧t<=j∧
     (∀k,t<=k->k<j->dM l j<dM l k)∧(a<t->dM l (t-1)<=dM l j):=by
 intro s;induction s with
 |zero=>
  intro j Z E N Y M l h L xd;obtain⟨N,rfl⟩:=sx N;obtain rfl:a=j:=Zs
  refine⟨a,M,l,?_,oh.refl h,Iy Zs,aA _,aA _,λk A K=>Zs,λh=>Zs⟩;rw[o7];simp[Cz]
 |succ s ih=>
  intro j Z E N Y M l h L xd;obtain⟨N,rfl⟩:=sx N;have c:j<l.length:=Zs
  have d:j-1<l.length:=Zs
  have i:a<j:=Zs
  obtain⟨M1,J,E1⟩:=Iu h.ok h.lm R u D (h.get c) (h.get d);have B:=h.ext E1;have w:=h.fa.ld c;have z:=h.fa.ld d;have G:=B.fa.ld c;have H:=B.fa.ld d;have W:=(h.get c).rf;have X:=(h.get d).rf;have e:=Iw (h.get c) (h.get d);rw[← lD c,← lD d]at e;have P:∀{β:Type} (f:Nat->Option β),idx n (iV (j:Int)) f=f j:=λf=>Z0 _ _ f Zs;obtain⟨q,hq⟩:∃q,q+1=j:=⟨j-1,Zs⟩;have p:j-1=q:=Zs
  have Q:∀{β:Type} (f:Nat->Option β),idx n (iV (q:Int)) f=f q:=λf=>Z0 _ _ f Zs;have I:=qR hq Zs;cases hb:decide (dM l j<dM l (j-1))with
  |false=>rw[hb]at e;refine⟨j,M1,l,?_,oh.of h E1,Iy Zs,Zs,aA _,λk A K=>Zs,λ_=>by simp at hb;exact hb⟩;generalize hx:l[j]=x at *;generalize hy:l[j-1]=y at *;simp only[p]at w z G H e;clear ih;rw[o7];simp[Cz,i,I,P,Q,w,z,W,X,J,e]
  |true=>
   rw[hb]at e;obtain⟨m1,m2,s1,S,v⟩:=B.swap c d;obtain⟨t,M',l',g,o,F,t1,t2,T,U⟩:=ih (j-1) Zs Zs N Zs m2 _ v.ar (v.len.trans L) tV;rw[show j-1+1=j from by omega]at F;have r:∀k,dM (swp l j (j-1) c d) k=if k=j-1 then dM l j else if k=j then dM l (j-1)else dM l k:=λk=>by by_cases c1:k=j-1;rw[cg c1];exact jP (by rw[swp_get,cg c1]);by_cases c2:k=j;rw[aE c1,cg c2];exact jP (by rw[swp_get,aE c1,cg c2]);rw[aE c1,aE c2];exact jP (by rw[swp_get,aE c1,aE c2])
   refine⟨t,M',l',?_,((oh.of h E1).trans v).trans o,Tn Zs c d rfl F,t1,Zs,λk A K=>?_,λC=>?_⟩;rw[o7,← g];generalize hx:l[j]=x at *;generalize hy:l[j-1]=y at *;simp only[p]at w z G H S e ⊢;clear ih F v o T U g r hb;simp[Cz,i,I,P,Q,w,z,G,H,W,X,J,e,s1,S,D6.len];by_cases hk:k=j-1;subst hk;simpa using hb;have:=T k A Zs;rw[r,r,cg rfl,aE Zs,aE Zs]at this;exact this;have:=U C;rw[r,r,cg rfl,aE Zs,aE Zs]at this;exact this
def VY(B e:Nat)(o:1000<=e)(id a b n:Nat)(hn:n<=200)(hb:b<=n):
   ∀(s i:Nat),i+s=b->a<i->∀(N:Nat),s<N->∀(M:cD) (l:cN),Ar M id l->l.length=n->rz l a i->∀(y3 y4 y7:j5),
    ∃z4 z7 M' l',I9 (λenv m k=>FV (l9 KW e (B+4)) e none env m k) N (zV (iN a) (iN i) (iN b) y3 y4 (.func (.func 169) [] []) (.sliceU id 0 n 32) y7) M []=some [⟨.exit 0,(zV (iN a) (iN b) (iN b) fV z4 (.func (.func 169) [] []) (.sliceU id 0 n 32) z7),M',[],none⟩]∧oh id M l M' l'∧Mv a b l l'∧rz l' a b:=by
 intro s;induction s with
 |zero=>
  intro i H g N G M l h r f y3 y4 y7;obtain⟨N,rfl⟩:=sx N;obtain rfl:i=b:=Zs
  refine⟨y4,y7,M,l,?_,oh.refl h,Mv.refl _ _ _,f⟩;rw[o7];simp[FV]
 |succ s ih=>
  intro i H g N G M l h r f y3 y4 y7;obtain⟨N,rfl⟩:=sx N;obtain⟨t,M1,A,E,d,z,C,J,K,L⟩:=VX B e o id a b n i hn tV (i-a) i Zs Zs e Zs M l h r y7;have v:rz A a (i+1):=Tm C J f (λk F O=>by
   have c:=L Zs;exact axf (KO f F (by omega:k<=t-1) Zs) c) K z
  obtain⟨z4,z7,M2,I,x,j,u,w⟩:=ih (i+1) Zs Zs N Zs M1 A d.ar (d.len.trans r) v tV (iN t) fV;refine⟨z4,z7,M2,I,?_,d.trans j,((z.mv Zs Zs).mono C Zs).trans u,w⟩;obtain⟨q,y⟩:∃q,q=i+1:=⟨_,rfl⟩;rw[← y]at x;have D:=Z5 y Zs;have p:i<b:=Zs
  rw[o7,← x];simp[FV,p,E,D]
def XJ{id:Nat}(h:Ar M id l)(k d:Nat)(e:1000<=d)(a b:Nat)(n:a<b)(hb:b<=l.length):
   ∃M' l',l9 KW d (k+5) (.func 372) [.sliceU id 0 l.length 32,(iN a),(iN b),(.func (.func 169) [] [])] M=some [⟨.tuple [],M'⟩]∧oh id M l M' l'∧Mv a b l l'∧rz l' a b:=by
 have c:=h.big;obtain⟨v,w,M',l',g,o,p,r⟩:=VY k d e id a b l.length c hb (b-(a+1)) (a+1) Zs Zs d Zs M l h rfl (λi j s t u=>Zs) uV uV uV;refine⟨M',l',?_,o,p,r⟩;rw[en abe];obtain⟨q,f⟩:∃q,q=a+1:=⟨_,rfl⟩;rw[← f]at g;have m:=Z5 f Zs;simp[abe,m,g]
def NP(M:cD)(i c:Nat)(g:1000<=c)(v w:j5)(a b:Nat)(f:b<=a+1)(j:a<1000):l9 KW c (i+1) (.func 372) [v,(iN a),(iN b),w] M=some [⟨.tuple [],M⟩]:=by
 rw[en abe];obtain⟨c,rfl⟩:=sx c;obtain⟨q,h⟩:∃q,q=a+1:=⟨_,rfl⟩;have e:=Z5 h Zs;have d:¬ q<b:=Zs
 simp[abe,FV,o7,e,d]
def aci(M:cD)(c a:Nat)(b:1000<=a)(v w:j5):l9 KW a (c+2) (.func 280) [v,iZ,w] M=some [⟨.tuple [],M⟩]:=by rw[en f280];have g:=NP M c a b v w 0 0 Zs Zs;simp at g;obtain⟨a,rfl⟩:=sx a;simp[f280,Cy,rZ,o7,g]
def arf(h:q=2*b)(a:q<4611686018427387904):kY (2*(b:Int))=(q:Int):=by rw[Z7 Zs Zs];omega
def arh(h:q=2*b)(a:q<4611686018427387904):kY ((b:Int)*2)=(q:Int):=by rw[Z7 Zs Zs];omega
def SB(l:cN)(bs lo hi:Nat):Prop:=∀i j,lo<=i->i<j->j<hi->i / bs=j / bs->dM l i<=dM l j
def SB.out{e:cN}{c hi:Nat}(h:SB l c lo hi)(d:Mv a b l e)(o:hi<=a∨b<=lo):SB e c lo hi:=λi j f g m n=>by rw[d.Tk (k:=i) Zs,d.Tk (k:=j) Zs];exact h i j f g m n
def VZ(B g:Nat)(t:1000<=g)(id n:Nat)(hn:n<=200):
   ∀(k a:Nat),n-a<=k->a<=n->a%20=0->∀(N:Nat),k<N->∀(M:cD) (l:cN),Ar M id l->l.length=n->SB l 20 0 a->∀(b:Nat),b=a+20->∀(c3 c7 c8 m9 c10:j5),
    ∃a' b' M' l',I9 (λenv m k=>Cy (l9 KW g (B+205)) g none env m k) N (xU (iV 20) (iN b) (iN n) c3 (.sliceU id 0 n 32) (iN a) (.func (.func 169) [] []) c7 c8 m9 c10) M []=some [⟨.exit 0,(xU (iV 20) (iN b') (iN n) fV (.sliceU id 0 n 32) (iN a') (.func (.func 169) [] []) c7 c8 m9 c10),M',[],none⟩]∧
     a'<=n∧n<a'+20∧a'%20=0∧oh id M l M' l'∧Mv 0 n l l'∧SB l' 20 0 a':=by
 intro k;induction k with
 |zero=>
  intro a I d r N G M l h u o b H c3 c7 c8 m9 c10;obtain⟨N,rfl⟩:=sx N;refine⟨a,b,M,l,?_,d,Zs,r,oh.refl h,Mv.refl _ _ _,o⟩;have c:¬ b<=n:=Zs
  rw[o7];simp[Cy,c]
 |succ k ih=>
  intro a I d r N G M l h u o b H c3 c7 c8 m9 c10;obtain⟨N,rfl⟩:=sx N;by_cases c:b<=n;obtain⟨M1,J,p,e,f,w⟩:=XJ h (B+200) g t a b Zs Zs;rw[u]at p;obtain⟨q,A⟩:∃q,q=b+20:=⟨_,rfl⟩;have y:=iJ (a:=b) (b:=20) A Zs;obtain⟨a',b',M2,K,C,L,O,P,s,v,x⟩:=ih b Zs c Zs N Zs M1 J e.ar (e.len.trans u) (λi j D z E F=>by
   by_cases hj:j<a;exact(o.out f (.inl (aA _))) i j D z hj F;exact w i j Zs z E) q A tV c7 c8 m9 c10
  refine⟨a',b',M2,K,?_,L,O,P,e.trans s,(f.mono (ahe _) c).trans v,x⟩;rw[o7,← C];try simp at p
  try simp at y
  simp[Cy,c,p,y];refine⟨a,b,M,l,?_,d,Zs,r,oh.refl h,Mv.refl _ _ _,o⟩;rw[o7];simp[Cy,c]
def Pw(bs:Nat):Prop:=bs=20∨bs=40∨bs=80∨bs=160
def Wd(L v:Nat)(B:1000<=v)(id n bs:Nat)(hn:n<=200)(e:Pw bs):
   ∀(k a:Nat),n-a<=k->a<=n->a%(2*bs)=0->∀(N:Nat),k<N->∀(M:cD) (l:cN),Ar M id l->l.length=n->SB l (2*bs) 0 a->SB l bs a n->∀(b:Nat),b=a+2*bs->∀(c3 c7 c8 m9 c10:j5),
    ∃a' b' M' l',I9 (λenv m k=>zQ (l9 KW v (L+205)) v none env m k) N (xU (iN bs) (iN b) (iN n) c3 (.sliceU id 0 n 32) (iN a) (.func (.func 169) [] []) c7 c8 m9 c10) M []=some [⟨.exit 4,(xU (iN bs) (iN b') (iN n) c3 (.sliceU id 0 n 32) (iN a') (.func (.func 169) [] []) c7 fV m9 c10),M',[],none⟩]∧
     a'<=n∧n<a'+2*bs∧a'%(2*bs)=0∧oh id M l M' l'∧Mv 0 n l l'∧SB l' (2*bs) 0 a'∧SB l' bs a' n:=by
 have R:0<bs:=by rcases e with rfl|rfl|rfl|rfl<;>omega
 intro k;induction k with
 |zero=>
  intro a T r z N P M l h C x f b Q c3 c7 c8 m9 c10;obtain⟨N,rfl⟩:=sx N;refine⟨a,b,M,l,?_,r,Zs,z,oh.refl h,Mv.refl _ _ _,x,f⟩;have c:¬ b<=n:=Zs
  rw[o7];simp[zQ,c]
 |succ k ih=>
  intro a T r z N P M l h C x f b Q c3 c7 c8 m9 c10;obtain⟨N,rfl⟩:=sx N;by_cases c:b<=n;obtain⟨M1,V,w,s,g,E⟩:=XI v B id 200 M l h L a (a+bs) b Zs Zs Zs Zs
   (λi j t o u=>f i j t o Zs (by rcases e with rfl|rfl|rfl|rfl<;>omega)) (λi j t o u=>f i j Zs o Zs (by rcases e with rfl|rfl|rfl|rfl<;>omega))
  rw[C]at w;obtain⟨p,K⟩:∃p,p=a+bs:=⟨_,rfl⟩;rw[← K]at w;obtain⟨d,S⟩:∃d,d=2*bs:=⟨_,rfl⟩;obtain⟨q,U⟩:∃q,q=b+d:=⟨_,rfl⟩;have bb:bs<=160:=by rcases e with rfl|rfl|rfl|rfl<;>omega
  have H:=iJ (a:=a) (b:=bs) K Zs;have I:=arf (b:=bs) S Zs;have J:=iJ (a:=b) (b:=d) U Zs;obtain⟨a',b',M2,W,O,X,Y,Z,A,D,F,G⟩:=ih b Zs c (by rcases e with rfl|rfl|rfl|rfl<;>omega) N Zs M1 V s.ar (s.len.trans C) (λi j t o u y=>by
   by_cases hj:j<a;exact(x.out g (.inl (aA _))) i j t o hj y;exact E i j (by rcases e with rfl|rfl|rfl|rfl<;>omega) o u) (λi j t o u y=>by
   rw[g.Tk (k:=i) Zs,g.Tk (k:=j) Zs];exact f i j Zs o u y) q Zs c3 c7 tV m9 c10
  refine⟨a',b',M2,W,?_,X,Y,Z,s.trans A,(g.mono (ahe _) c).trans D,F,G⟩;rw[o7,← O];try simp at w
  try simp at H
  try simp at I
  try simp at J
  simp[zQ,c,w,H,I,J];refine⟨a,b,M,l,?_,r,Zs,z,oh.refl h,Mv.refl _ _ _,x,f⟩;rw[o7];simp[zQ,c]
def Qm(D o:Nat)(v:1000<=o)(id n bs:Nat)(hn:n<=200)(c:Pw bs)(w:bs<n)(h:Ar M id l)(L:l.length=n)(hs:SB l bs 0 n)(N:Nat)(W E X Q K P u:j5):
   ∃y1 y5 y7 y8 y9 y10 M' l',I9 (λenv m k=>rZ (l9 KW o (D+205)) o none env m k) (N+1) (xU (iN bs) W (iN n) E (.sliceU id 0 n 32) X (.func (.func 169) [] []) Q K P u) M []=I9 (λenv m k=>rZ (l9 KW o (D+205)) o none env m k) N (xU (iN ((2*bs))) y1 (iN n) E (.sliceU id 0 n 32) y5 (.func (.func 169) [] []) y7 y8 y9 y10) M' []∧
    oh id M l M' l'∧Mv 0 n l l'∧SB l' (2*bs) 0 n:=by
 have Y:bs<=160:=by rcases c with rfl|rfl|rfl|rfl<;>omega
 have R:0<bs:=by rcases c with rfl|rfl|rfl|rfl<;>omega
 obtain⟨d,q⟩:∃d,d=2*bs:=⟨_,rfl⟩;obtain⟨a,b,M1,O,C,Z,U,V,g,x,s,e⟩:=Wd D o v id n bs hn c n 0 Zs Zs (Nat.zero_mod _) o Zs M l h L (λi j r f t=>Zs) hs d Zs E tV K P u;rw[← q]at U V s ⊢;have A:=arf (b:=bs) q Zs;have B:=arh (b:=bs) q Zs;obtain⟨p,S⟩:∃p,p=a+bs:=⟨_,rfl⟩;have z:=iJ (a:=a) (b:=bs) S Zs;have I:=g.len.trans L;by_cases hm:p<n
 ·obtain⟨M2,T,F,H,y,J⟩:=XI o v id 200 M1 O g.ar D a p n Zs Zs Zs Zs
    (λi j r f t=>e i j r f Zs (by rcases c with rfl|rfl|rfl|rfl<;>(subst q;omega))) (λi j r f t=>e i j Zs f Zs (by rcases c with rfl|rfl|rfl|rfl<;>(subst q;omega)))
  rw[I]at F;refine⟨(iN b),(iN a),tV,fV,(iN p),tV,M2,T,?_,g.trans H,x.trans (y.mono (ahe _) (aA _)),λi j r f t G=>?_⟩
  rotate_left
  by_cases hj:j<a;exact(s.out y (.inl (aA _))) i j r f hj G;exact J i j (by rcases c with rfl|rfl|rfl|rfl<;>(subst q;omega)) f t
  rw[o7];try simp at C
  try simp at F
  try simp at z
  try simp at A
  try simp at B
  simp[rZ,w,C,A,z,hm,F,B]
 ·refine⟨(iN b),(iN a),tV,fV,(iN p),fV,M1,O,?_,g,x,λi j r f t G=>?_⟩
  rotate_left
  by_cases hj:j<a;exact s i j r f hj G;exact e i j (by rcases c with rfl|rfl|rfl|rfl<;>(subst q;omega)) f t (by rcases c with rfl|rfl|rfl|rfl<;>(subst q;omega))
  rw[o7];try simp at C
  try simp at z
  try simp at A
  try simp at B
  simp[rZ,w,C,A,z,hm,B]
def KP(w g:Nat)(id n a:Nat)(v:n<=a)(h:Ar M id l)(hs:SB l a 0 n)(N:Nat)(p d q r f o b:j5):
   ∃e M' l',I9 (λenv m k=>rZ (l9 KW g (w+205)) g none env m k) (N+1) (xU (iN a) p (iN n) d (.sliceU id 0 n 32) q (.func (.func 169) [] []) r f o b) M []=some [⟨.exit 2,e,M',[],none⟩]∧oh id M l M' l'∧Mv 0 n l l'∧rz l' 0 n:=by
 refine⟨(xU (iN a) p (iN n) d (.sliceU id 0 n 32) q (.func (.func 169) [] []) fV f o b),M,l,?_,oh.refl h,Mv.refl _ _ _,λi j s t u=>hs i j s t u ?_⟩
 rotate_left
 rw[avU Zs,avU Zs];rw[o7];have c:¬ a<n:=Zs
 simp[rZ,c]
def Wh(g b:Nat)(j:1000<=b)(id n:Nat)(hn:n<=200):∀(t bs:Nat),bs*2^t=320->20<=bs->∀{M:cD} {l:cN},Ar M id l->l.length=n->SB l bs 0 n->∀(N:Nat),t<N->∀(x1 c3 x5 c7 c8 m9 c10:j5),
   ∃e M' l',I9 (λenv m k=>rZ (l9 KW b (g+205)) b none env m k) N (xU (iN bs) x1 (iN n) c3 (.sliceU id 0 n 32) x5 (.func (.func 169) [] []) c7 c8 m9 c10) M []=some [⟨.exit 2,e,M',[],none⟩]∧oh id M l M' l'∧Mv 0 n l l'∧rz l' 0 n:=by
 intro t;induction t with
 |zero=>intro bs d c M l h o f N y x1 c3 x5 c7 c8 m9 c10;obtain⟨N,rfl⟩:=sx N;exact KP g b id n bs Zs h f N x1 c3 x5 c7 c8 m9 c10
 |succ t ih=>
  intro bs d c M l h o f N y x1 c3 x5 c7 c8 m9 c10;obtain⟨N,rfl⟩:=sx N;by_cases hlt:bs<n;have r:Pw bs:=by
   rw[ata]at d;have z:t<=3:=by apply axB;intro H;have:=at1 (n:=2) ZS (show 4<=t by omega);have G:20*(2^4*2)<=bs*(2^t*2):=axi c (U0 _ this);omega
   unfold Pw;match t,z with
   |0,_=>omega
   |1,_=>omega
   |2,_=>omega
   |3,_=>omega
  obtain⟨B,C,D,E,F,v,M1,I,w,a,p,s⟩:=Qm g b j id n bs hn r hlt h o f N x1 c3 x5 c7 c8 m9 c10;obtain⟨e,M2,A,x,i,q,u⟩:=ih (2*bs) (by rw[ata]at d;rw[← d];rw[ajr 2 bs,Nat.mul_assoc,ajr 2]) Zs a.ar (a.len.trans o) s N Zs B c3 C D E F v;exact⟨e,M2,A,w.trans x,a.trans i,p.trans q,u⟩;exact KP g b id n bs Zs h f N x1 c3 x5 c7 c8 m9 c10
def afK{id:Nat}(h:Ar M id l)(q f:Nat)(k:1000<=f)(h0:0<l.length):
   ∃M' l',l9 KW f (q+206) (.func 280) [.sliceU id 0 l.length 32,(iN (l.length)),(.func (.func 169) [] [])] M=some [⟨.tuple [],M'⟩]∧oh id M l M' l'∧Mv 0 l.length l l'∧rz l' 0 l.length:=by
 have c:=h.big;obtain⟨n,A⟩:∃n,n=l.length:=⟨_,rfl⟩;rw[← A]at h0 c ⊢;obtain⟨a,b,M1,E,F,J,K,L,g,y,B⟩:=VZ q f k id n c n 0 Zs Zs rfl f Zs M l h A.symm (λi j v u w=>Zs) 20 rfl uV uV uV uV uV;have t:=g.len.trans A.symm;have s:∃M2 p,l9 KW f (q+205) (.func 372) [.sliceU id 0 n 32,(iN a),(iN n),(.func (.func 169) [] [])] M1=some [⟨.tuple [],M2⟩]∧oh id M1 E M2 p∧Mv a n E p∧rz p a n:=by by_cases han:a<n;obtain⟨M2,p,r,d,m,o⟩:=XJ g.ar (q+200) f k a n han Zs;rw[t]at r;exact⟨M2,p,r,d,m,o⟩;exact⟨M1,E,NP M1 (q+204) f k _ _ a n Zs Zs,oh.refl g.ar,Mv.refl _ _ _,λi j v u w=>Zs⟩
 obtain⟨M2,p,r,d,m,o⟩:=s;have D:SB p 20 0 n:=λi j v u w H=>by by_cases hj:j<a;exact(B.out m (.inl (aA _))) i j v u hj H;exact o i j Zs u w
 obtain⟨e,M3,I,G,x,z,C⟩:=Wh q f k id n c 4 20 ZS (aA _) d.ar (d.len.trans t) D f Zs (iN b) fV (iN a) uV uV uV uV;refine⟨M3,I,?_,(g.trans d).trans x,(y.trans (m.mono (ahe _) (aA _))).trans z,C⟩;rw[en f280];simp at F r G;simp[f280,F,r,G]
def au.lenOf{a:cN}(h:au m v a):AM.lenOf v=some a.length:=by rcases h with⟨rfl,rfl⟩|⟨id,⟨c,rfl⟩|rfl,_⟩<;>rfl
def cellsOf(fs:cN):List cM:=fs.map λr=>r.f.cells
def tX(a:cN):∀r,r∈cellsOf a->r.length=32:=λr b=>by obtain⟨x,_,rfl⟩:=adg.1 b;exact D6.len x.f
def Hq{a:cN}(h:∀r,r∈a->r.Good):H8 (cellsOf a).flatten=true:=zD _ λr b=>by obtain⟨x,c,rfl⟩:=adg.1 b;exact(h x c).one
def au.read{a:cN}(h:au m v a):Z8 m 32 a.length v=some (cellsOf a).flatten:=by
 rcases h with⟨rfl,rfl⟩|⟨id,h1,h2,h3⟩;rfl;have d:Z6 m id 0 (Nat.mul a.length 32)=some (cellsOf a).flatten:=by
  rcases h3 with rfl|⟨c,cF,h4,h5,h6⟩;rfl;cases hn:a.length with
  |zero=>obtain rfl:=U1.1 hn;rfl
  |succ k=>
   have e:Nat.mul (k+1) 32=31+k*32+1:=by show(k+1)*32=_;omega
   rw[e];show aY (m.get id) (λrs g cF=>J7 rs g cF (31+k*32+1) 0)=_;rw[h4,dJ];have:=jL (rs:=32) (n:=c) (cF:=cF) (l:=cellsOf a) (tX a) (λi f=>by
    have b:i<a.length:=(by simpa[cellsOf]using f);rw[h6 i b];simp[cellsOf]) (by simpa[cellsOf]using h5) a.length 0 (by simp[cellsOf])
   rw[ah3,W9,hn,show(k+1)*32=31+k*32+1 from by omega]at this;exact this
 rcases h1 with⟨c,rfl⟩|rfl<;>exact d
def Own(m0 m:cD)(v:j5)(l:cN):Prop:=cE m0 m∧
 ((v=nS∧l=[])∨(∃id,v=.slice id 0 0 0∧l=[]∧m0.nx<=id∧id<m.nx)∨∃id,m0.nx<=id∧v=.sliceU id 0 l.length 32∧Ar m id l)
def Own.fs{g:cD}(h:Own g m v l):au m v l:=by obtain⟨_,⟨rfl,rfl⟩|⟨id,rfl,rfl,_,a⟩|⟨id,_,rfl,a⟩⟩:=h;exact .inl ⟨rfl,rfl⟩;exact .inr ⟨id,.inl ⟨0,rfl⟩,a,.inl rfl⟩;obtain⟨p,o,c,t,j,b,d,k,n,e⟩:=a.fa;refine .inr ⟨id,.inr rfl,a.lt,.inr ⟨c,t,b,by simpa using d,λi f=>?_⟩⟩;rw[e i (by simpa using f)];simp
def Own.nil{a:cD}(h:cE a m):Own a m nS []:=⟨h,.inl ⟨rfl,rfl⟩⟩
def Own.ext{c b:cD}(h:Own c m v l)(e:cE m b):Own c b v l:=by obtain⟨d,a⟩:=h;refine⟨d.trans e,?_⟩;rcases a with a|⟨id,h3,h4,h5,h6⟩|⟨id,h3,h4,h5⟩;exact .inl a;exact .inr (.inl ⟨id,h3,h4,h5,aP h6 e.nx⟩);exact .inr (.inr ⟨id,h3,h4,h5.ext e⟩)
def Qn(h:n<=200):big n 304 32=true:=by show bi (ble ((2*n+2048)*304) 281474976710656) true false=true;rw[show ble ((2*n+2048)*304) 281474976710656=true from l7 Zs];rfl
def aiN(a:m.Ok)(c:m.lim<=m.nx)(b:∀r,r∈l->r.Good)(hb:l.length<=200):Ar (m.new (.cells 32 l.length (T.ofList (cellsOf l)))) m.nx l:=by have:=Em a (rs:=32) Zs (tX l);rw[show(cellsOf l).length=l.length from by simp[cellsOf]]at this;exact⟨cD.Ok.new a _,this,ZZ,by simpa using c,b,hb⟩
def KQ(l:cN):grown m 32 l.length (cellsOf l).flatten=some [⟨.sliceU m.nx 0 l.length 32,m.new (.cells 32 l.length (T.ofList (cellsOf l)))⟩]:=by
 have:=Co (m:=m) (tX l)
 rwa [show(cellsOf l).length=l.length from by simp[cellsOf]]at this
def Tp(a b:cN):(cellsOf (a++b)).flatten=(cellsOf a).flatten++(cellsOf b).flatten:=by simp[cellsOf]
structure Kp(m m':cD):Prop where
 nx:m.nx<=m'.nx
 old:∀i,i<m.nx->(∀c t,m.get i≠some (.cells 32 c t))->m'.get i=m.get i
def Kp.of{m':cD}(h:cE m m'):Kp m m':=⟨h.nx,λi a _=>h.old i a⟩
def Kp.trans{a b c:cD}(h:Kp a b)(k:Kp b c):Kp a c:=⟨dn h.nx k.nx,λi d f=>by
 have e:=h.old i d f;exact(k.old i (aP d h.nx) (λx t=>by rw[e];exact f x t)).trans e⟩
def Kp.new{a:cD}(h:Kp m a)(c:a.Ok)(b:Y9):Kp m (a.new b):=h.trans (Kp.of ((cE.refl c).new b))
def pJ{b:cD}(h:Kp m b)(a:U5 m v xs):U5 b v xs:=by rcases a with a|⟨id,h1,h2,h3⟩;exact .inl a;refine .inr ⟨id,h1,aP h2 h.nx,?_⟩;rcases h3 with h3|⟨n,cF,h4,h5,h6⟩;exact .inl h3;exact .inr ⟨n,cF,(h.old id.1 h2 (λc t=>by rw[h4];intro e;cases e)).trans h4,h5,h6⟩
def J9.keep{c:cD}(h:Kp m c)(k:J9 m r):J9 c r:=⟨pJ h k.a,pJ h k.b,pJ h k.l,k.ga,k.gb,k.nb⟩
def Zv{j:cD}{a:cN}(A:j.lim<=j.nx)(h:Own j m v l)(H:∀r,r∈a->r.Good)(hb:l.length+a.length<=200):
   ∃v' m',jS m 32 304 a.length (cellsOf a).flatten v=some [⟨v',m'⟩]∧Own j m' v' (l++a)∧Kp m m':=by
 obtain⟨d,h⟩:=h;have J:m.lim<=m.nx:=by rw[d.lim];exact dn A d.nx
 have L:∀{M:cD},cE j M->j.nx<=M.nx->∀(k:cN),(∀r,r∈k->r.Good)->k.length<=200->Own j (M.new (.cells 32 k.length (T.ofList (cellsOf k)))) (.sliceU M.nx 0 k.length 32) k:=λ{M} hM I k q hkb=>⟨hM.new _,.inr (.inr ⟨M.nx,I,rfl,aiN hM.ok (by rw[hM.lim];exact dn A I) q hkb⟩)⟩;by_cases hf:a=[];subst hf;refine⟨v,m,?_,⟨d,by simpa using h⟩,Kp.of (cE.refl d.ok)⟩;rcases h with⟨rfl,rfl⟩|⟨id,rfl,rfl,_,_⟩|⟨id,_,rfl,_⟩<;>rfl
 obtain⟨k,q⟩:∃k,a.length=k+1:=⟨a.length-1,by have:=P6.2 hf;omega⟩;rcases h with⟨rfl,rfl⟩|⟨id,rfl,rfl,_,_⟩|⟨id,hid,rfl,ha⟩;refine⟨_,_,?_,L d d.nx a H (by simpa using hb),Kp.of ((cE.refl d.ok).new _)⟩;rw[← KQ a];show IY m 32 304 a.length _=_;rw[q];show bi (big (k+1) 304 32) _ none=_;rw[Qn (by simp at hb;omega)];rfl;refine⟨_,_,?_,L d d.nx a H (by simpa using hb),Kp.of ((cE.refl d.ok).new _)⟩;rw[← KQ a];show gF m 32 304 a.length _ id 0 0 0=_;unfold gF;rw[show Nat.add 0 a.length=a.length from P7 _,show ble a.length 0=false from by rw[q];rfl,bA,Qn (by simp at hb;omega),aC];rfl;have u:∀r,r∈l++a->r.Good:=λr K=>by rcases LA.1 K with h|h;exact ha.good r h;exact H r h
 have P:cE j (m.set id .dead):=d.set ha.lt hid _;have w:∀b,Kp m ((m.set id .dead).new b):=λb=>Kp.new ⟨ZZ,λi Q I=>by
  rw[cD.R9 ha.ok ha.lt,aE];rintro rfl;obtain⟨_,_,c,t,E,F,_⟩:=ha.fa;exact I c t F⟩ (cD.Ok.set ha.ok ha.lt _) b
 have z:(l++a).length=l.length+a.length:=ZZ
 obtain⟨p,S,c,t,E,F,N,W,G,O⟩:=ha.fa;have s:l.length<=c:=by simpa using N
 have y:ble m.lim id=true:=l7 ha.lim;have R:=Hq H;by_cases h1k:a.length=1;obtain⟨x,rfl⟩:∃x,a=[x]:=avQ.1 h1k;have D:(cellsOf [x]).flatten=x.f.cells:=by simp[cellsOf]
 refine⟨.sliceU m.nx 0 (l.length+1) 32,(m.set id .dead).new (.cells 32 (l.length+1) (t.put l.length x.f.cells)),?_,⟨P.new _,.inr (.inr ⟨m.nx,d.nx,ZZ,?_⟩)⟩,w _⟩;show ng m 32 304 1 _ id 0 l.length 32=_;show bi (beq 32 32) (bi (big (l.length+1) 304 32) (bi (ble m.lim id) (bi (H8 (cellsOf [x]).flatten) (uS (m.get id) _ _) none) none) none) none=_;rw[Qn (by simp at hb;omega),y,R,F];show bi (bi (beq 32 32) (bi (beq 0 0) (bi (ble l.length c) (bi (beq 1 1) (beq (len' (cellsOf [x]).flatten) 32) false) false) false) false) _ _=_;rw[show ble l.length c=true from l7 s,D,K7,D6.len];rfl;refine⟨cD.Ok.new (cD.Ok.set ha.ok ha.lt _) _,⟨Zs,λr K=>tX _ r K,l.length+1,t.put l.length x.f.cells,?_⟩,ZZ,by simpa using J,u,by simp at hb ⊢;omega⟩;have B:∃c'',l.length+1<=c''∧T.Ok (t.put l.length x.f.cells) c'':=by
  by_cases hc:l.length<E;exact⟨E,hc,T.Ok.put G _ _ hc⟩;obtain rfl:E=l.length:=Zs
  exact⟨l.length+1,aA _,T.Ok.push G _⟩
 obtain⟨c'',U,V⟩:=B;refine⟨c'',by rw[cD.Q5 (cD.Ok.set ha.ok ha.lt _)];simp,ZZ,U,V,λi Q=>?_⟩;by_cases hil:i=l.length;subst hil;rw[T.aN G _ _ Zs];simp;have g:i<l.length:=by simp at Q;omega
 rw[T.bU G _ _ _ Zs (aqR hil),O i (by simpa using g)];simp[ai8,g];refine⟨_,_,?_,L P (by simpa using d.nx) (l++a) u (by simpa using hb),w _⟩;have C:=jL (rs:=32) (n:=c) (cF:=t) (l:=l.map λr=>r.f.cells) S O N l.length 0 ZZ;rw[ah3,W9]at C;rw[← KQ (l++a),z,Tp];show ng m 32 304 a.length _ id 0 l.length 32=_;unfold ng;rw[q];show bi (beq 32 32) (bi (big (l.length+(k+1)) 304 32) (bi (ble m.lim id) (bi (H8 (cellsOf a).flatten) (uS (m.get id) _ _) none) none) none) none=_;rw[Qn Zs,y,R,F];show bi (bi (beq 32 32) (bi (beq 0 0) (bi (ble l.length c) (bi (beq (k+1) 1) (beq (len' (cellsOf a).flatten) 32) false) false) false) false) _ (ob (J7 32 c t (Nat.mul l.length 32) 0) λo=>grown (m.set id .dead) 32 (Nat.add l.length (k+1)) (dK o (cellsOf a).flatten))=_;rw[show ble l.length c=true from l7 s,show beq (k+1) 1=false from aa0.2 λe=>h1k (by rw[q];exact nA e)];rw[show Nat.mul l.length 32=l.length*32 from rfl,show Nat.add l.length (k+1)=l.length+(k+1)from rfl];show ob (J7 32 c t (l.length*32) 0) (λo=>grown (m.set id .dead) 32 (l.length+(k+1)) (dK o (cellsOf a).flatten))=_;rw[C,I6,V9];rfl
def Ey{b:cD}{x:j5}{a:cN}(c:b.lim<=b.nx)(h:Own b m v l)(e:au m x a)(j:∀r,r∈a->r.Good)(hb:l.length+a.length<=200):
   ∃v' m',(∀(s y:OF) (cf:G6) (ls:cM) (env:T j5),s ls env=v->y ls env=x->lu 32 304 s y cf ls env m=some [⟨v',m'⟩])∧Own b m' v' (l++a)∧Kp m m':=by
 obtain⟨v',m',f,g,i⟩:=Zv c h j hb;refine⟨v',m',λs y cf ls env k o=>?_,g,i⟩;show ob (AM.lenOf (y ls env)) (λn=>ob (Z8 m 32 n (y ls env)) λd=>jS m 32 304 n d (s ls env))=_;rw[o,k,e.lenOf,I6,e.read,I6,f]
end Go.Proofs.YtpmfjipaheolgaaGreatDoor.TT
