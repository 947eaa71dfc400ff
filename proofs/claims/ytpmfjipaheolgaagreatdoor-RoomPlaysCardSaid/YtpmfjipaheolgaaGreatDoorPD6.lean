/- Functions of the program and of the specification, walked; conditions: the memory holds what the arguments say. -/
import Derived.Test.YtpmfjipaheolgaaGreatDoorPD5
set_option linter.all false
namespace Go.Proofs.YtpmfjipaheolgaaGreatDoor.TT
open Go Go.AM
set_option maxRecDepth 100000
set_option maxHeartbeats 8000000
open Nat (beq ble blt)
variable {v:j5}{ws:cP}
def aiR{m:cD}(H:m.Ok)(F:m.lim<=m.nx)(hv:dV m v (strs ws))(hb:ws.length<=10000)(hw:∀w∈ws,w.length<=250)(no:Nat)(ao:no<=1000)(n B:Nat)(aa:50001<=B):
   (∃r m',l9 KW B (n+20) (.func 78) [(iN no),v] m=some [⟨.tuple [.agg r.f.cells,(iN ((L9 r)))],m'⟩]∧cE m m'∧J9 m' r∧r.short∧nQ (no:Int) ws r)∨
   (∃m',l9 KW B (n+20) (.func 78) [(iN no),v] m=some [⟨.tuple [.agg zr,iZ],m'⟩]∧cE m m'∧∀r,¬ nQ (no:Int) ws r):=by
 have l:=hv.len;rw[G7]at l;have E0:=o8 H [j6 zr];have g0:(ext m [j6 zr]).get m.nx=some (j6 zr):=by rw[l8 H];rfl
 have lim:∀{M:cD},cE m M->M.lim<=M.nx:=λE=>by rw[E.lim];exact dn F E.nx
 have j:∀{M:cD},cE (ext m [j6 zr]) M->∃N,(∀{β:Type} (k:cD->Option β),storeAt M m.nx 0 zr k=k N)∧N.get m.nx=some (j6 zr)∧cE m N:=λ{M} E=>by have hn:=E.nx;obtain⟨N,A,q,X⟩:=fU (vs:=zr) E.ok (by simp at hn;omega) (by rw[E.lim,E0.lim];exact F) ((E.old m.nx ZZ).trans g0) rfl ZS rfl;exact⟨N,A,q,(E0.trans E).dO X (aA _)⟩
 rw[en f78];cases ws with
 |nil=>refine .inr ⟨ext m [j6 zr],?_,E0,λr C=>?_⟩;simp[f78,ay H F,D8,l];obtain⟨t,e⟩:=C.pre;simp[iQ]at e
 |cons d t=>
  have s:¬ ((t.length:Int)+1=0):=Zs
  have am:t.length+1<=10000:=by simpa using hb
  have an:d.length<=250:=hw d ZZ;obtain⟨id,aq,K,_,R⟩:=(hv.ext E0).at0 (x:=.str d) (xs:=strs t);simp at K;obtain⟨v1,M1,J,E1,O⟩:=AL E0.ok (lim E0) d Zs 32 (n+18) B Zs;have J:l9 KW B (n+19) (.func 146) [.str d,.int .u8 32] (ext m [j6 zr])=some [⟨v1,M1⟩]:=J;have I:=O.vs.len;rw[G7]at I;have y:=λ{β:Type} (p:j5->β) q=>O.vs.aL p q;have E01:=E0.trans E1;obtain⟨mk,P⟩:∃mk,mk=TA d:=⟨_,rfl⟩;have g:(mk<1∨(t.length:Int)+1<=mk∨40<mk)->∀r,¬ nQ (no:Int) (d::t) r:=λh r C=>by obtain⟨O,Y,h3,h4⟩:=XP C;rw[← P]at O;simp at h4;omega
  by_cases h5:(cA 32 d).length=5;obtain⟨w0,w1,w,w3,w4,hs⟩:∃w0 w1 w w3 w4,cA 32 d=[w0,w1,w,w3,w4]:=by
   match h:cA 32 d,h5 with
   |[a,b,c,d,e],_=>exact⟨a,b,c,d,e,rfl⟩
  have ad:kE w=mk:=by rw[P];unfold TA;rw[hs]
  rw[hs]at I O;simp at I;obtain⟨ai,aj,S,_,L⟩:=O.vs.at (i:=2) (by rw[G7];simp);have L:ld1 (M1.get ai) aj=some (.str w):=L;simp at S;have ap:w.length<=d.length:=qj 32 d w (by rw[hs];simp);have T:=Qh w Zs (n+18) B Zs M1;rw[ad]at T;by_cases hx0:mk<1;obtain⟨N,A,G,EN⟩:=j E1;refine .inr ⟨N,?_,EN,g (.inl hx0)⟩;simp[f78,ay H F,D8,l,s,K,R,J,y,I,S,L,T,hx0,A,G];by_cases hxl:(t.length:Int)+1<=mk;obtain⟨N,A,G,EN⟩:=j E1;refine .inr ⟨N,?_,EN,g (.inr (.inl hxl))⟩;simp[f78,ay H F,D8,l,s,K,R,J,y,I,S,L,T,hx0,hxl,A,G];by_cases hx4:40<mk;obtain⟨N,A,G,EN⟩:=j E1;refine .inr ⟨N,?_,EN,g (.inr (.inr hx4))⟩;simp[f78,ay H F,D8,l,s,K,R,J,y,I,S,L,T,hx0,hxl,hx4,A,G];obtain⟨k,rfl⟩:∃k:Nat,mk=(k:Int):=⟨mk.toNat,Zs⟩;have a2:k<=40:=Zs
  have ab:k<(d::t).length:=ZD
  have ag:=hv.ext E01;have W:=acD ag hw k ab a2 no m.nx v1 tV fV (l9 KW B (n+19)) B k 0 Zs B Zs uV;simp at W;generalize hs3:((t).take k).flatten=s3 at W;have a6:(((d::t).drop 1).take k).flatten=s3:=hs3;have a7:s3.length<=10000:=by
   rw[← hs3];have:=Ez (b:=250) (ws:=t.take k) λw ah=>hw w (aa1 _ (adn ah));have Y:(t.take k).length<=40:=ZD
   have h3:=U0 250 Y;omega
  have o:∀r,nQ (no:Int) (d::t) r->kX s3 r∧(chunks (C8 r)).length=k:=λr C=>by
   have h:=(XP C).1;rw[← P]at h;have h:k=(chunks (C8 r)).length:=Zs
   have hb:=Tv C;rw[← h]at hb;exact⟨⟨C.valid,by rw[← a6,← hb];rfl⟩,h.symm⟩
  obtain⟨q,hq⟩:∃q,q=k+1:=⟨_,rfl⟩;have e3:=Z5 hq Zs;have a4:(k:Int)+1=(q:Int):=Zs
  have Z:kY (q:Int)=(q:Int):=Z7 Zs Zs;have a8:=lim E01;have ac:=E01.ok;rcases acC ac a8 s3 a7 n B aa with⟨r,M2,g3,E2,C,hsh,ht⟩|⟨M2,g3,E2,hno3⟩;have E02:=E01.trans E2;have z:=E02.ok;have u:=lim E02;have E3:=o8 z [j6 r.f.cells];have ho:=C.one;have E03:=E02.trans E3;have a5:=C.ext E3;obtain⟨ar,M4,g4,E4,h4⟩:=XF E03.ok (lim E03) a5 ht.1 (no:Int) (by unfold Sm;omega) n B Zs;have E04:=E03.trans E4;have X4:cE (ext m [j6 zr]) M4:=E1.trans (E2.trans (E3.trans E4));have q4:M4.get M2.nx=some (j6 r.f.cells):=by rw[E4.old _ ZZ,l8 z];rfl
  have V:=λ{β:Type} (p:j5->β) q=>h4.aL p q;have U:=h4.len;rw[G7,dR]at U;obtain⟨N,A,G,EN⟩:=j X4;by_cases hck:(chunks (C8 r)).length=k;have af:L9 r=q:=by unfold L9;omega
  have D:(iQ (no:Int) (C8 r)).length=q:=by rw[dR];omega
  rcases acE (M:=N) (hv.ext E04) h4 (by rw[D];simp;omega) (by rw[D];omega) no m.nx A v1 tV (iN k) fV (iN q) fV (.str s3) tV fV (.ptr M2.nx 0) fV (l9 KW B (n+19)) B (iQ (no:Int) (C8 r)).length 0 Zs B (by rw[D];omega) uV uV with⟨heq,c18,gd⟩|⟨hne,c16,c17,c18,gd⟩;rw[W9,W9,D]at heq;rw[D]at gd;have ae:=X4.nx;obtain⟨N2,s2,q2,X⟩:=fU (vs:=r.f.cells) X4.ok (by simp at ae;omega) (by rw[X4.lim,E0.lim];exact F) ((X4.old m.nx ZZ).trans g0) (by rw[D6.len];rfl) (by rw[D6.len];omega) C.one;refine .inl ⟨r,N2,?_,(E0.trans X4).dO X (aA _),(a5.ext E4).keep (uP rfl ((X4.old m.nx ZZ).trans g0) X),hsh,NS ht.1 (by rw[heq,hq])⟩;rw[af];clear o j g;simp at gd U;simp[f78,ay H F,D8,dh z u,l,s,K,R,J,y,I,S,L,T,hx0,hxl,hx4,W,g3,ho,g4,U,hck,a4,Z,q4,V,gd,s2,q2,D6.len];rw[W9,W9,D]at hne;refine .inr ⟨N,?_,EN,λr' Q=>hne ?_⟩;clear o j g;simp at gd U;simp[f78,ay H F,D8,dh z u,l,s,K,R,J,y,I,S,L,T,hx0,hxl,hx4,W,g3,ho,g4,U,hck,a4,Z,V,gd,A,G,D6.len];have O:=XK Q;obtain⟨Y,h3⟩:=o r' Q;rw[h3,← hq]at O;rw[O,ht.2,Y.2];refine .inr ⟨N,?_,EN,λr' Q=>hck ?_⟩;have ak:¬ (((chunks (C8 r)).length:Nat):Int)=(k:Int):=Zs
  have a0:¬ (((chunks (C8 r)).length:Nat):Int)+1=(q:Int):=Zs
  clear o j g;simp at U;simp[f78,ay H F,D8,dh z u,l,s,K,R,J,y,I,S,L,T,hx0,hxl,hx4,W,g3,ho,g4,U,a0,e3,V,A,G,D6.len];obtain⟨Y,h3⟩:=o r' Q;rw[ht.2,← Y.2];exact h3;obtain⟨N,A,G,EN⟩:=j (E1.trans (E2.trans (o8 (E01.trans E2).ok [j6 zr])));have E02:=E01.trans E2;have z:=E02.ok;have u:=lim E02;refine .inr ⟨N,?_,EN,λr C=>hno3 r (o r C).1⟩;clear o j g;simp[f78,ay H F,D8,dh z u,l,s,K,R,J,y,I,S,L,T,hx0,hxl,hx4,W,g3,A,G];obtain⟨N,A,G,EN⟩:=j E1;have al:mk=0:=by rw[P];unfold TA;split;rename_i hs;rw[hs]at h5;simp at h5;rfl
  refine .inr ⟨N,?_,EN,g (.inl Zs)⟩;have a9:¬ (((cA 32 d).length:Nat):Int)=5:=Zs
  simp[f78,ay H F,D8,l,s,K,R,J,y,I,a9,A,G]
structure Ad(lo:Nat)(m:cD)(pr ps:Nat)(cw:Int)(fv:j5)(L:cN):Prop where
 at_:m.get ps=some (j6 [iV cw,fv])
 res:m.get pr=some (j6 [iZ,nS])
 lr:lo<=pr
 ls:lo<=ps
 ne:pr≠ps
 rn:pr<m.nx
 sn:ps<m.nx
 lim:m.lim<=lo
 facts:cu lo 32 m fv (cellsOf L)
 w:∀r,r∈L->J9 m r
 sh:∀r,r∈L->r.short
variable {i n o:Nat}
section
variable {lo:Nat}{m:cD}{pr ps:Nat}{cw:Int}{fv:j5}{L:cN}
def Ad.ext{a:cD}(h:Ad lo m pr ps cw fv L)(e:cE m a):Ad lo a pr ps cw fv L:=
 ⟨(e.old ps h.sn).trans h.at_,(e.old pr h.rn).trans h.res,h.lr,h.ls,h.ne,aP h.rn e.nx,aP h.sn e.nx,by rw[e.lim];exact h.lim,h.facts.ext e,λr b=>(h.w r b).ext e,h.sh⟩
def Ad.NU(h:Ad lo m pr ps cw fv L):lo<=m.nx:=dn h.ls (aki h.sn)
def Ad.sG(h:Ad lo m pr ps cw fv L):m.lim<=m.nx:=dn h.lim h.NU
def Ad.no(h:Ad lo m pr ps cw fv L){e:Nat}(c:fv=.sliceU i o n e∨fv=.slice i o n e):i≠ps∧i≠pr∧lo<=i:=by
 obtain⟨a,_,k,t,q⟩:=U9 h.facts c;refine⟨λe=>?_,λe=>?_,a⟩;subst e;have:=lJ (b:=2) q h.at_;omega
 subst e;have:=lJ (b:=2) q h.res;omega
def Ad.sl{c:cD}(h:Ad lo m pr ps cw fv L)(hn:m.nx<=c.nx)(f:∀i,i<m.nx->i≠ps->(∀o n e,fv≠.sliceU i o n e)->c.get i=m.get i){v:j5}{xs:cQ}(a:U5 m v xs):U5 c v xs:=by rcases a with a|⟨id,h1,h2,h3⟩;exact .inl a;refine .inr ⟨id,h1,aP h2 hn,?_⟩;rcases h3 with h3|⟨n,cF,h4,h5,h6⟩;exact .inl h3;refine .inr ⟨n,cF,(f id.1 h2 (λe=>?_) (λo k e d=>?_)).trans h4,h5,h6⟩;have:=lJ (b:=2) h4 (by rw[e];exact h.at_);omega;obtain⟨_,_,g,t,q⟩:=U9 h.facts (.inl d);have:=lJ h4 q;omega
end
def afZ{lo:Nat}{m:cD}{pr ps:Nat}{cw:Int}{fv:j5}{L:cN}(h:Ad lo m pr ps cw fv L)(J:m.Ok){r:FR}(K:J9 m r)(hs:r.short)(V:L.length<=1000):
   ∃fv' M N,(∀(s y:OF) (cf:G6) (ls:cM) (env:T j5),s ls env=fv->y ls env=.slice m.nx 0 1 1->lu 32 304 s y cf ls env (m.new (j6 r.f.cells))=some [⟨fv',M⟩])∧(∀{β:Type} (k:cD->Option β),storeAt M ps 1 [fv'] k=k N)∧
    fv'.cells=[fv']∧D8 fv'=true∧(∀{β:Type} (p:j5->β) (q:β),iK fv' p q=q)∧Ad lo N pr ps cw fv' (L++[r])∧N.Ok∧Fr lo lo m N:=by
 have E0:cE m (m.new (j6 r.f.cells)):=(cE.refl J).new _;have c:=h.ext E0;have E:mV (m.new (j6 r.f.cells)) 32 (.slice m.nx 0 1 1) [r.f.cells]:=by
  have:=UL J r.f.cells (by rw[D6.len];omega)
  rwa [D6.len]at this
 obtain⟨fv',M,O,t,F,g⟩:=Ik (bytes:=304) E0.ok c.lim c.NU Zs c.facts E (by rw[D6.len]) K.one (by simp[cellsOf];omega) ⟨Zs,Zs⟩;have D:cellsOf L++[r.f.cells]=cellsOf (L++[r]):=by simp[cellsOf]
 rw[D]at t;have G:M.lim=m.lim:=F.lim.trans E0.lim;have S:M.get ps=some (j6 [iV cw,fv]):=(g ps c.sn λo n e A=>(c.no (.inl A)).1 rfl).trans c.at_;have R:M.get pr=some (j6 [iZ,nS]):=(g pr c.rn λo n e A=>(c.no (.inl A)).2.1 rfl).trans c.res;have H:=F.nx;obtain⟨N,U,I,X⟩:=iy (off:=1) F.ok (aP c.sn H) (by rw[G];exact dn h.lim h.ls) S ZZ (v:=fv') t.slice.D8;have I:N.get ps=some (j6 [iV cw,fv']):=I;have z:(m.new (j6 r.f.cells)).nx<=N.nx:=dn H X.nx;have j:∀i,i<(m.new (j6 r.f.cells)).nx->i≠ps->(∀o n e,fv≠.sliceU i o n e)->N.get i=(m.new (j6 r.f.cells)).get i:=λi x d P=>(X.old i Zs d).trans (g i x P);have C:cu (m.new (j6 r.f.cells)).nx 32 N fv' (cellsOf (L++[r])):=mQ t X.nx λi x B=>X.old i x λe=>by subst e;have Q:=c.sn;rcases B with⟨o,n,e,B⟩|⟨o,n,e,B⟩;have:=(U9 t (.inl B)).1;omega;have:=(U9 t (.inr B)).1;omega
 have XO:∀{s:FR},J9 (m.new (j6 r.f.cells)) s->J9 N s:=λk=>⟨c.sl z j k.a,c.sl z j k.b,c.sl z j k.l,k.ga,k.gb,k.nb⟩;refine⟨fv',M,N,O,U,t.slice.cells,t.slice.D8,t.slice.aL,⟨I,(X.old pr (aP c.rn H) h.ne).trans R,h.lr,h.ls,h.ne,aP c.rn z,aP c.sn z,by rw[X.lim,G];exact h.lim,C.down c.NU,λs u=>?_,λs u=>?_⟩,X.ok,?_⟩;rcases LA.1 u with d|d;exact XO (c.w s d);simp at d;rw[d];exact XO (K.ext E0);rcases LA.1 u with d|d;exact h.sh s d;simp at d;rw[d];exact hs;exact⟨X.ok,dn E0.nx z,by rw[X.lim,G],λi x _=>(j i (aP x c.NU) (by have:=h.ls;omega) (λo n e A=>by have:=(h.no (.inl A)).2.2;omega)).trans (E0.old i (aP x h.NU))⟩
def Qq{a b c:cD}(e:cE a b)(h:Fr a.nx a.nx b c):cE a c:=⟨h.ok,dn e.nx h.nx,h.lim.trans e.lim,λi d=>(h.old i d Zs).trans (e.old i d)⟩
variable {M d:cD}
def KZ{cw:Int}{pr ps lo:Nat}{fv:j5}{L:cN}(R:Ad lo M pr ps cw fv L)(E:cE M d):∃N1,(∀{β:Type} (k:cD->Option β),storeAt d pr 0 [iV cw,fv] k=k N1)∧N1.get pr=some (j6 [iV cw,fv])∧N1.Ok∧Fr lo lo M N1∧cu lo 32 N1 fv (cellsOf L)∧(∀r∈L,J9 N1 r):=by
 have R1:=R.ext E;have j:=R1.facts.slice.D8;obtain⟨N1,q,p,X⟩:=fU (vs:=[iV cw,fv]) E.ok R1.rn (dn R1.lim R1.lr) R1.res rfl ZZ (by show bi true (bi (D8 fv) true false) false=true;rw[j];rfl);have f:cu lo 32 N1 fv (cellsOf L):=mQ R1.facts X.nx λi g c=>X.old i g λe=>by subst e;rcases c with⟨o,n,e,c⟩|⟨o,n,e,c⟩;exact(R1.no (.inl c)).2.1 rfl;exact(R1.no (.inr c)).2.1 rfl
 refine⟨N1,q,p,X.ok,?_,f,λr m=>?_⟩;exact(E.fr R.NU).trans ⟨X.ok,X.nx,X.lim,λi g _=>X.old i (aP g R1.NU) (by have:=R.lr;omega)⟩;have h:∀{v:j5} {xs:cQ},U5 d v xs->U5 N1 v xs:=λc=>by rcases c with c|⟨id,h1,h2,h3⟩;exact .inl c;refine .inr ⟨id,h1,aP h2 X.nx,?_⟩;rcases h3 with h3|⟨n,cF,h4,h5,h6⟩;exact .inl h3;refine .inr ⟨n,cF,(X.old id.1 h2 λe=>?_).trans h4,h5,h6⟩;have:=lJ (b:=2) h4 (by rw[e];exact R1.res);omega
 have k:=R1.w r m;exact⟨h k.a,h k.b,h k.l,k.ga,k.gb,k.nb⟩
def ag0{cw:Int}{pr ps lo:Nat}(n K:Nat)(a3:50001<=K):∀(k:Nat) (ws:cP),ws.length<k->ws.length<=10000->(∀w∈ws,w.length<=250)->∀(N:Nat),k<N->∀(M:cD) (dv fv:j5) (L:cN),Ad lo M pr ps cw fv L->M.Ok->Zw lo M dv ws->Grown L->L.length<=200->
   ∀(a1 a4 a6 a7 a8 a9:j5),∃x b2 b6 b7 b8 b9 M' fv' L',I9 (λenv m k=>Hg (l9 KW K (n+20)) K none env m k) N (xU (iV cw) a1 (.ptr pr 0) dv a4 (.ptr ps 0) a6 a7 a8 a9 iZ) M []=some [⟨x,(xU (iV cw) a1 (.ptr pr 0) b2 a4 (.ptr ps 0) b6 b7 b8 b9 iZ),M',[],none⟩]∧
    M'.Ok∧Fr lo lo M M'∧Wo L ws L'∧Grown L'∧L'.length<=201∧cu lo 32 M' fv' (cellsOf L')∧(∀r∈L',J9 M' r)∧(∀r∈L',r.short)∧
    ((x=.ret∧M'.get pr=some (j6 [iV cw,fv']))∨(x=.exit 0∧Ad lo M' pr ps cw fv' L')):=by
 intro k;induction k with
 |zero=>intro ws hk;omega
 |succ k ih=>
  intro ws hk hw a2 N hN M dv fv L R hM hd hg hL a1 a4 a6 a7 a8 a9;obtain⟨N,rfl⟩:=sx N;have hm:=hM;have hl:=R.sG;have hp:=R.at_;have g:=(aV R.facts).len;by_cases h200:L.length<200
  ·have d:(L.length:Int)<200:=Zs
   obtain⟨q,hq⟩:∃q,q=L.length+1:=⟨_,rfl⟩;have e1:=Z5 hq Zs;have V:=R.facts.slice.cells;have Z:=R.facts.slice.D8;rcases aiR hM hl hd.e.vs hw a2 q Zs n K a3 with⟨r,M1,g1,E1,F,hs,hrec⟩|⟨M1,g1,E1,hno⟩
   ·have j:=E1.ok;have R1:=R.ext E1;have t:=R1.sG;have E2:=o8 j [j6 r.f.cells];have R2:=R1.ext E2;have ho:=F.one;obtain⟨M3,P,E3⟩:=acu (r:=r) E2.ok R2.sG (aV R2.facts) Zs (n+18) K Zs;have R3:=R2.ext E3;have q3:M3.get M1.nx=some (j6 r.f.cells):=(by rw[E3.old _ ZZ,l8 j];rfl);have E13:=(E1.trans E2).trans E3;have C:¬ ((L9 r:Nat):Int)=0:=(by unfold L9;omega);have v:¬ L9 r=0:=Zs;have p:Rec (L.length+1) ws r:=⟨Zs,by rw[hq]at hrec;exact hrec⟩;cases hf:lF L r with
    |false=>
     rw[hf]at P;obtain⟨N1,s1,q1,k1,k2,k3,D⟩:=KZ R E13;refine⟨.ret,dv,tV,(iN ((L9 r))),.ptr M1.nx 0,tV,N1,fv,L,?_,k1,k2,.stop λr' a5=>?_,hg,Zs,k3,D,R.sh,.inl ⟨rfl,q1⟩⟩
     rotate_left
     rw[nR rfl (p.2.uniq a5.2).symm];exact hf;have G:=R3.at_;have q5:=R2.at_;rw[o7];simp[Hg,o9,A8,D8,dh j t,hp,g,h200,d,e1,g1,ho,C,v,q5,P,G,s1,V,Z,D6.len]
    |true=>
     rw[hf]at P;have aa:=(F.ext E2).ext E3;have G:=R3.at_;have q5:=R2.at_;have u:L9 r<=ws.length:=by obtain⟨ab,e⟩:=hrec.pre;rw[e,aaf,dR];unfold L9;omega
     have ae:1<=L9 r:=Zs;have X:ws≠[]:=λe=>(by rw[e]at u;simp at u;omega);obtain⟨O,M4,N4,ga,s4,U,Y,a0,R4,D,F4⟩:=afZ R3 E3.ok aa hs Zs;simp only[o9]at ga;have dk:xS N4 dv ws∧Wp lo dv:=by rcases hd with⟨e,_⟩|⟨hd,hlo⟩;exact cj e X;refine⟨(hd.ext E13).keep F4.nx λid ac hv=>F4.old id ?_ ?_,hlo⟩;rcases hv with⟨o,l,c,e⟩|⟨o,l,c,e⟩;exact hlo.1 _ _ _ _ e;exact hlo.2 _ _ _ _ e;rcases hv with⟨o,l,c,e⟩|⟨o,l,c,e⟩;have:=hlo.1 _ _ _ _ e;omega;have:=hlo.2 _ _ _ _ e;omega
     obtain⟨I,b,cl,hb,ad⟩:=XM D dk.1 (L9 r) X u;have H:=λ(x a:OF) (E:cM) (env:T j5) (hx:x E env=dv) (ha:a E env=(iN ((L9 r))))=>(acy hx ha N4.nx).trans cl;have W:Grown (L++[r]):=.snoc hg hrec.valid hf;have Q:(L++[r]).length<=200:=ZD;have af:(ws.drop (L9 r)).length=ws.length-L9 r:=ZZ;have A:∀w∈ws.drop (L9 r),w.length<=250:=λw hw=>a2 w (ahh hw);have J:Fr lo lo M N4:=(E13.fr R.NU).trans F4;have S:∀z ps E env y,List.length z=32->J2 32 1 z ps E env y=ob (lay ps E env z) λs=>if s.length=32 then some (.slice y 0 1 1,some (j6 s))else none:=λz ps E env y h=>I5 32 z ps E env y h
     rcases hb with⟨rfl,hdk2,hlo2⟩|⟨i,rfl,hde,hnil⟩;obtain⟨x,b2,b6,b7,b8,b9,M5,B,L5,g5,z1,z2,z3,z4,z5,z6,z7,z8,z9⟩:=ih (ws.drop (L9 r)) Zs Zs A N Zs N4 I O (L++[r]) R4 D (.inr ⟨hdk2,hlo2 lo dk.2⟩) W Q a1 a4 tV (iN ((L9 r))) (.ptr M1.nx 0) fV;refine⟨x,b2,b6,b7,b8,b9,M5,B,L5,?_,z1,J.trans z2,.step p hf z3,z4,z5,z6,z7,z8,z9⟩;rw[o7,← g5];simp[Hg,o9,A8,D8,dh j t,hp,g,h200,d,e1,g1,ho,C,v,q5,P,q3,G,S,ga,s4,U,Y,a0,H,D6.len];have E5:cE N4 (N4.new (.tail i)):=(cE.refl D).new _;obtain⟨x,b2,b6,b7,b8,b9,M5,B,L5,g5,z1,z2,z3,z4,z5,z6,z7,z8,z9⟩:=ih (ws.drop (L9 r)) Zs Zs A N Zs (N4.new (.tail i)) I O (L++[r]) (R4.ext E5) E5.ok (.inl ⟨hnil,by rw[hnil]at hde;exact hde⟩) W Q a1 a4 tV (iN ((L9 r))) (.ptr M1.nx 0) fV;refine⟨x,b2,b6,b7,b8,b9,M5,B,L5,?_,z1,(J.trans (E5.fr R4.NU)).trans z2,.step p hf z3,z4,z5,z6,z7,z8,z9⟩;rw[o7,← g5];simp[Hg,o9,A8,D8,dh j t,hp,g,h200,d,e1,g1,ho,C,v,q5,P,q3,G,S,ga,s4,U,Y,a0,H,D6.len]
   ·have j:=E1.ok;have t:=(R.ext E1).sG;have E2:=o8 j [j6 zr];obtain⟨N1,s1,q1,k1,k2,k3,D⟩:=KZ R (E1.trans E2);refine⟨.ret,dv,tV,iZ,.ptr M1.nx 0,tV,N1,fv,L,?_,k1,k2,.stop λr F=>cj (by rw[hq];exact F.2) (hno r),hg,Zs,k3,D,R.sh,.inl ⟨rfl,q1⟩⟩;have G:=((R.ext E1).ext E2).at_;rw[o7];simp[Hg,o9,A8,D8,dh j t,hp,g,h200,d,e1,g1,G,s1,V,Z]
  ·have d:¬ (L.length:Int)<200:=Zs
   refine⟨.exit 0,dv,fV,a7,a8,a9,M,fv,L,?_,hM,Fr.refl hM,.stop λr F=>by have:=F.1;omega,hg,Zs,R.facts,R.w,R.sh,.inr ⟨rfl,R⟩⟩;rw[o7];simp[Hg,o9,A8,D8,hp,g,h200,d]
def aiS{m:cD}(d:m.Ok)(j:m.lim<=m.nx){dv:j5}(t:Zw m.nx m dv ws)(p:ws.length<=4000->∀w∈ws,w.length<=250)(id:Int)(n f:Nat)(o:50001<=f):
   (¬ (1<=id∧id<=6)∧∃m',l9 KW f (n+21) (.func 31) [iV id,dv] m=some [⟨.tuple [.agg [iZ,nS],iV 1],m'⟩]∧cE m m')∨
   ((1<=id∧id<=6)∧4000<ws.length∧∃m',l9 KW f (n+21) (.func 31) [iV id,dv] m=some [⟨.tuple [.agg [iZ,nS],iV 2],m'⟩]∧cE m m')∨
   ((1<=id∧id<=6)∧ws.length<=4000∧∃m' fv L,l9 KW f (n+21) (.func 31) [iV id,dv] m=some [⟨.tuple [.agg [iV id,fv],iZ],m'⟩]∧cE m m'∧cu m.nx 32 m' fv (cellsOf L)∧(∀r∈L,J9 m' r)∧(∀r∈L,r.short)∧Wo [] ws L∧Grown L∧L.length<=201):=by
 have a:=t.e.vs.len;rw[G7]at a;have E0:=o8 d [j6 [iZ,nS]];have c:=bJ (n+19) f id 1 6 (ext m [j6 [iZ,nS]]);rw[en f31];by_cases h1:1<=id∧id<=6;have k:(decide (1<=id)&&decide (id<=6))=true:=by simp[h1]
 rw[k]at c;by_cases h3:4000<ws.length;have b:(4000:Int)<(ws.length:Int):=Zs
 refine .inr (.inl ⟨h1,h3,_,?_,E0⟩);simp[f31,o9,D8,dh d j,c,a,b];have b:¬ (4000:Int)<(ws.length:Int):=Zs
 have E1:=o8 d [j6 [iZ,nS],j6 [iV id,nS]];have R0:Ad m.nx (ext m [j6 [iZ,nS],j6 [iV id,nS]]) m.nx (m.nx+1) id nS []:=
  ⟨by rw[r9 d];rfl,by rw[l8 d];rfl,aA _,Zs,Zs,ZZ,ZZ,j,.inl ⟨rfl,rfl⟩,ZZ,ZZ⟩
 have l:Zw m.nx (ext m [j6 [iZ,nS],j6 [iV id,nS]]) dv ws:=by rcases t with⟨e,h⟩|⟨h,h'⟩;exact .inl ⟨e,h.ext E1⟩;exact .inr ⟨h.ext E1,h'⟩
 obtain⟨x,N,O,P,Q,S,M',fv,L,g,v,s,y,z,A,B,K,C,M⟩:=ag0 (cw:=id) (pr:=m.nx) (ps:=m.nx+1) (lo:=m.nx) n f o (ws.length+1) ws Zs Zs (p Zs) f Zs _ dv nS [] R0 E1.ok l .nil ZZ fV fV uV uV uV uV;have EE:cE m M':=⟨v,dn E1.nx s.nx,s.lim.trans E1.lim,λi u=>(s.old i u Zs).trans (E1.old i u)⟩;have D:=(aV B).cells;rcases M with⟨rfl,q⟩|⟨rfl,R⟩;refine .inr (.inr ⟨h1,Zs,M',fv,L,?_,EE,B,K,C,y,z,A⟩);simp[f31,o9,A8,D8,dh d j,c,a,b,g,q];have T:=R.facts.slice.D8;obtain⟨N1,J,H,U,E,F,G⟩:=KZ R (cE.refl v);refine .inr (.inr ⟨h1,Zs,N1,fv,L,?_,Qq EE E,F,G,C,y,z,A⟩);have I:=R.at_;simp[f31,o9,A8,D8,dh d j,c,a,b,g,I,J,H];have k:(decide (1<=id)&&decide (id<=6))=false:=by rw[awZ,decide_eq_false_iff_not,decide_eq_false_iff_not];omega
 rw[k]at c;refine .inl ⟨h1,_,?_,E0⟩;simp[f31,o9,D8,dh d j,c]
noncomputable def z6:T cM:=T.rep [iV (.ofNat 0)] 6 .e 0
def mk6(ls:cM)(env:T j5)(nid:Nat):mY 1 8 [iZ] (bO (iV 6)) (bO (iV 6)) ls env nid=some (.slice nid 0 6 6,some (.cells 1 6 z6)):=rfl
def mR(l:cQ):List cM:=l.map λn=>[iV n]
def XQ{m:cD}{id:Nat}(c:m.get id=some (.cells 1 6 z6)):xQ m id 1 (mR [0,0,0,0,0,0]):=by
 have b:T.Ok z6 6:=T.Ov ([iV (.ofNat 0)]:cM) 6 .e 0 .e;refine⟨Zs,λr f=>?_,6,z6,6,c,by simp[mR],aA _,b,λi d=>?_⟩;obtain⟨n,_,rfl⟩:=adg.1 f;rfl;have a:i<6:=by simpa[mR]using d
 match i,a with
 |0,_=>rfl
 |1,_=>rfl
 |2,_=>rfl
 |3,_=>rfl
 |4,_=>rfl
 |5,_=>rfl
def avD{m:cD}(a:m.Ok):xQ (ext m [.cells 1 6 z6]) m.nx 1 (mR [0,0,0,0,0,0]):=XQ (by rw[l8 a];rfl)
variable {lv:j5}{D:cP}{p:Nat}
def aiT{lo:Nat}{m:cD}{cw:Int}{fv:j5}{L:cN}(h:aB lo m p cw lv fv D L)(n a:Nat):l9 KW a (n+1) (.func 79) [.ptr p 0] m=some [⟨iV cw,m⟩]:=by have b:=h.at_;rw[en f79];simp[f79,b]
def sP(L:cN)(k:Nat):cQ:=(List.range 6).map λi=>if i<k then(aQ L ((i:Int)+1):Int)else 0
def acF(L:cN)(k:Nat)(d:k<6):(mR (sP L k)).set k [iV (aQ L ((k:Int)+1):Int)]=mR (sP L (k+1)):=by
 apply axK;simp[mR,sP];intro i b a;have c:i<6:=by simpa[mR,sP]using a
 rw[awY];by_cases hik:k=i;subst hik;simp[mR,sP];rw[aE hik];simp only[mR,sP,akl,avA];by_cases h3:i<k;rw[cg h3,cg Zs];rw[aE h3,aE Zs]
def acG{b:cD}{L:cN}(h:au M v L)(X:bC o M b)(d:(∀f l c,v≠.slice o f l c)∧∀f l c,v≠.sliceU o f l c):au b v L:=by
 rcases h with h|⟨id,h1,h2,h3⟩;exact .inl h;have a:id≠o:=λe=>by subst e;rcases h1 with⟨c,h1⟩|h1;exact d.1 _ _ _ h1;exact d.2 _ _ _ h1
 refine .inr ⟨id,h1,aP h2 X.nx,?_⟩;rcases h3 with h3|⟨c,cF,h4,h5⟩;exact .inl h3;exact .inr ⟨c,cF,(X.old id h2 a).trans h4,h5⟩
def ag1{cw:Int}{fv:j5}{L:cN}(hb:L.length<=1000)(J:∀r,r∈L->r.Good)(A:p≠o)(z:(∀f l c,fv≠.slice o f l c)∧∀f l c,fv≠.sliceU o f l c)(n s:Nat)(x:2000<=s):∀(j i:Nat),i+j=6->∀(N:Nat),j<N->∀(M:cD),M.Ok->M.lim<=M.nx->M.lim<=o->p<M.nx->M.get p=some (j6 [lv,iV cw,fv])->au M fv L->xQ M o 1 (mR (sP L i))->o<M.nx->∀(a3 a4:j5),
   ∃b4 M',I9 (λenv m k=>Sn (l9 KW s (n+1)) s none env m k) N (Da (.slice o 0 6 6) (iN i) (iV 6) a3 a4 (.ptr p 0) nS) M []=some [⟨.exit 0,(Da (.slice o 0 6 6) (iN 6) (iV 6) fV b4 (.ptr p 0) nS),M',[],none⟩]∧bC o M M'∧xQ M' o 1 (mR (sP L 6)):=by
 intro j;induction j with
 |zero=>
  intro i K N I M u D a d B C v t a3 a4;obtain⟨N,rfl⟩:=sx N;obtain rfl:i=6:=Zs
  refine⟨a4,M,?_,bC.refl u,v⟩;rw[o7];simp[Sn]
 |succ j ih=>
  intro i K N I M u D a d B C v t a3 a4;obtain⟨N,rfl⟩:=sx N;have b:i<6:=Zs
  obtain⟨q,E⟩:∃q,q=i+1:=⟨_,rfl⟩;have G:=Z5 E Zs;obtain⟨M1,H,E1⟩:=Qo u D B C J hb (q:Int) n s x;obtain⟨M2,F,e,X2⟩:=(v.ext t E1).store E1.ok (aP t E1.nx) (by rw[E1.lim];exact a) (i:=i) (row:=[iV (aQ L (q:Int):Int)]) (by simp[mR,sP];omega) rfl rfl;rw[show((q:Nat):Int)=(i:Int)+1 from by omega,acF L i b,← E]at e;have X12:=E1.toB.trans X2;obtain⟨b4,M',g,X,w⟩:=ih q Zs N Zs M2 X2.ok (by rw[X12.lim];have:=X12.nx;omega) (by rw[X12.lim];exact a) (aP d X12.nx) ((X12.old p d A).trans B) (acG C X12 z) e (aP t X12.nx) tV (iN i);refine⟨b4,M',?_,X12.trans X,w⟩;have h:∀(k:Nat->Option j5),idx 6 (iV (i:Int)) k=k i:=λk=>Z0 6 i k b;have y:(i:Int)<6:=Zs
  rw[o7,← g];simp at F;simp[Sn,o9,A8,D8,b,y,G,H,h,F]
def acH{l:cQ}(h:xQ M o 1 (mR l))(b:o<M.nx)(c:Nat):U5 M (.slice o 0 l.length c) l:=by obtain⟨_,_,k,t,g,d,e,j,m,f⟩:=h;refine .inr ⟨(o,0),.inl ⟨c,rfl⟩,b,.inr ⟨k,t,d,by simpa[mR]using e,λi a=>?_⟩⟩;rw[P7,f i (by simpa[mR]using a)];simp[mR]
def acI{lo:Nat}{m:cD}{cw:Int}{fv:j5}{L:cN}(h:aB lo m p cw lv fv D L)(o:m.Ok)(hb:L.length<=1000)(n d:Nat)(j:2000<=d):
   ∃v m',l9 KW d (n+2) (.func 22) [.ptr p 0] m=some [⟨v,m'⟩]∧cE m m'∧U5 m' v (sP L 6):=by
 have s:=h.sG;have E0:=o8 o [.cells 1 6 z6];have R0:=h.ext E0;have q:mR [0,0,0,0,0,0]=mR (sP L 0):=rfl;have k:=avD o;rw[q]at k;have a:p≠m.nx:=by have:=h.pn;omega
 obtain⟨t,M',g,X,r⟩:=ag1 (cw:=cw) (lv:=lv) (fv:=fv) hb h.good a ⟨λf l c e=>by have:=(U9 h.facts (.inr e)).2.1;omega,λf l c e=>by have:=(U9 h.facts (.inl e)).2.1;omega⟩ n d j 6 0 Zs d Zs _ E0.ok R0.sG (by simp;exact s) R0.pn R0.at_ (aV R0.facts) k ZZ uV uV;have i:(sP L 6).length=6:=by simp[sP]
 have b:=acH r (aP ZZ X.nx) 6;rw[i]at b;refine⟨.slice m.nx 0 6 6,M',?_,E0.dO X (aA _),b⟩;rw[en f22];simp at g;simp[f22,o9,mk6,g]
def Ae(L:cN)(k:Nat):cQ:=(List.range k).map λ(i:Nat)=>(aQ L ((i:Int)+1):Int)
def Zy(L:cN)(k:Nat):Ae L (k+1)=Ae L k++[(aQ L ((k:Int)+1):Int)]:=by unfold Ae;rw[List.range_succ,ajo];rfl
def Wy(L:cN):sP L 6=Ae L 6:=by unfold sP Ae;apply awg;intro i a;rw[cg (by simpa using a)]
def XR{L M:cN}(h:L.map FR.cn=M.map FR.cn)(k:Nat):Ae L k=Ae M k:=by unfold Ae;apply awg;intro i a;rw[AU h]
variable {q0:Nat}
def ag2{a:cD}{cw:Int}{fv:j5}{L:cN}(hb:L.length<=1000)(T:a.Ok)(f:a.lim<=a.nx)(A:q0<a.nx)(B:a.get q0=some (j6 [iV cw,fv]))(U:au a fv L)(J:j5)(n s:Nat)(w:2000<=s):∀(j i:Nat),i+j=6->∀(N:Nat),j<N->∀(M:cD),cE a M->∀(out:j5),aO a.nx M out (ints (Ae L i))->∀(a2:j5),
   ∃out' M',I9 (λenv m k=>Sv (l9 KW s (n+1)) s none env m k) N (nV6 J (iN ((i+1))) a2 out (.ptr q0 0) nS) M []=some [⟨.exit 0,(nV6 J (iN 7) fV out' (.ptr q0 0) nS),M',[],none⟩]∧cE a M'∧aO a.nx M' out' (ints (Ae L 6)):=by
 intro j;induction j with
 |zero=>
  intro i R N Q M c out x a2;obtain⟨N,rfl⟩:=sx N;obtain rfl:i=6:=Zs
  refine⟨out,M,?_,c,x⟩;rw[o7];simp[Sv]
 |succ j ih=>
  intro i R N Q M c out x a2;obtain⟨N,rfl⟩:=sx N;have S:i<6:=Zs
  obtain⟨q,A⟩:∃q,q=i+1:=⟨_,rfl⟩;obtain⟨I,r⟩:∃I,I=q+1:=⟨_,rfl⟩;have K:=Z5 r Zs;have C:(q:Int)<=6:=Zs
  have D:q<=6:=Zs
  have H:=c.ok;have W:M.lim<=M.nx:=by rw[c.lim];exact dn f c.nx
  have O:=(c.old q0 ‹q0<a.nx›).trans B;have P:=KV (m:=M) (U.ext c) hb (q:Int) n s w;have E2:=(cE.refl H).new (j6 [iV (aQ L (q:Int):Int)]);obtain⟨e,m3,G,l,F3⟩:=uH (bytes:=8) E2.ok (by show M.lim<=a.nx;rw[c.lim];exact f) (dn c.nx E2.nx) (x.ext E2) (Aa H (iV (aQ L (q:Int):Int))) rfl (by simp[ints,Ae];omega) ⟨Zs,Zs⟩;have EE:cE a m3:=Qq (c.trans E2) F3;have o:aO a.nx m3 e (ints (Ae L q)):=by rw[A,Zy,zI,← show((q:Nat):Int)=(i:Int)+1 from by omega];exact l
  have E:=λ{β:Type} (p:j5->β) q=>l.vs.aL p q;have v:∀z u t env d,List.length z=1->J2 1 1 z u t env d=ob (lay u t env z) λb=>if b.length=1 then some (.slice d 0 1 1,some (j6 b))else none:=λz u t env d h=>I5 1 z u t env d h
  obtain⟨out',V,g,F,y⟩:=ih q Zs N Zs m3 EE e o tV;refine⟨out',V,?_,F,y⟩;rw[← r]at g;rw[o7,← g,← A];simp only[o9]at G;simp[Sv,o9,A8,D8,C,D,O,P,v,G,E,K]
def acJ{m:cD}{cw:Int}{fv:j5}{L:cN}(d:m.Ok)(h:m.lim<=m.nx)(f:au m fv L)(hb:L.length<=1000)(n a:Nat)(b:2000<=a):
   ∃v m',l9 KW a (n+2) (.func 25) [.agg [iV cw,fv]] m=some [⟨v,m'⟩]∧cE m m'∧U5 m' v (Ae L 6):=by
 have E0:=o8 d [j6 [iV cw,fv]];obtain⟨c,M,g,E,e⟩:=ag2 (cw:=cw) hb E0.ok ZD (q0:=m.nx) ZZ (by rw[l8 d];rfl) (f.ext E0) (.agg [iV cw,fv]) n a b 6 0 Zs a Zs _ (cE.refl E0.ok) nS (aO.nil _ _) uV;have i:=λ{β:Type} (p:j5->β) q=>e.vs.aL p q;refine⟨c,M,?_,E0.trans E,e.sl⟩;rw[en f25];simp at g;simp[f25,o9,g]
def tZ{lo:Nat}{m:cD}{l:cP}(h:jH lo m v l):dV m v (strs l):=by
 rcases h with⟨rfl,rfl⟩|⟨id,t,c,h1,h2,h3,rfl,h4,h5,h6,h7⟩;exact .inl ⟨rfl,rfl⟩;refine .inr ⟨id,0,.inr (by rw[G7]),h2,.inr ⟨l.length,t,h4,by rw[G7];omega,λi b=>?_⟩⟩;have a:i<l.length:=by rwa [G7]at b
 rw[P7,h7 i a];simp[strs]
def aiU{lo:Nat}{m:cD}(u:m.Ok)(I:m.lim<=m.nx)(j:jH lo m v D)(hb:D.length<=50000)(n x:Nat):
   ∃v' m',l9 KW x (n+1) (.func 76) [v] m=some [⟨v',m'⟩]∧cE m m'∧jH m.nx m' v' D:=by
 rw[en f76];rcases j with⟨rfl,rfl⟩|⟨id,t,c,h1,h2,h3,rfl,h4,h5,h6,h7⟩;refine⟨nS,m,?_,cE.refl u,.inl ⟨rfl,rfl⟩⟩;have e:iR nS nS=some true:=rfl;simp[f76,e];have j:dV m (.sliceU id 0 D.length 1) (strs D):=tZ (.inr ⟨id,t,c,h1,h2,h3,rfl,h4,h5,h6,h7⟩);have A:∀z h f nid,J2 1 0 z [] h f nid=some (.slice nid 0 0 0,some (.cells 1 0 (T.ofList []))):=λ_ _ _ _=>rfl;have E:=o8 u [.cells 1 0 (T.ofList [])];have w:=j.ext E;have q:=w.lenOf;have r:=w.read;rw[G7]at q r;have J:=P6.2 h3;obtain⟨k,H⟩:∃k,D.length=k+1:=⟨D.length-1,Zs⟩;obtain⟨g,_⟩:=nH (lo:=m.nx) E.ok E.nx (strs D) (rX D);have B:=EB E.ok h3;have i:∀(s y:OF) (p:G6) (h:cM) (f:T j5),s h f=.slice m.nx 0 0 0->y h f=.sliceU id 0 D.length 1->lu 1 16 s y p h f (ext m [.cells 1 0 (T.ofList [])])=grown (ext m [.cells 1 0 (T.ofList [])]) 1 (strs D).length (strs D):=λs y p h f C F=>by show ob (AM.lenOf (y h f)) (λn=>ob (Z8 _ 1 n (y h f)) λl=>jS _ 1 16 n l (s h f))=_;rw[F,C,q,I6,r,I6];show gF _ 1 16 D.length (strs D) m.nx 0 0 0=_;unfold gF;have G:Nat.add 0 D.length=D.length:=P7 _;rw[G,show ble D.length 0=false from aa0.2 λe=>by have:=D5 e;omega,bA,vK Zs ⟨Zs,Zs⟩,aC];show ob (some ([]:cM)) (λo=>grown _ 1 D.length (dK o (strs D)))=_;rw[I6,V9,O9,G7]
 rw[g]at i;refine⟨_,_,?_,E.trans ((cE.refl E.ok).new _),rA B E.nx⟩;have e:∀a b c d,iR (.sliceU a b c d) nS=some false:=λ_ _ _ _=>rfl;simp only[o9]at i;simp[f76,o9,A8,e,A,i]
def acK{lo:Nat}{m:cD}{cw:Int}{fv:j5}{L:cN}(h:aB lo m p cw lv fv D L)(c:m.Ok)(hb:D.length<=50000)(n a:Nat):∃v' m',l9 KW a (n+2) (.func 29) [.ptr p 0] m=some [⟨v',m'⟩]∧cE m m'∧jH m.nx m' v' D:=by obtain⟨v',m',g,E,b⟩:=aiU c h.sG h.list hb n a;refine⟨v',m',?_,E,b⟩;have d:=h.at_;rw[en f29];simp[f29,d,g,b.aL]
def acL{lo:Nat}{m:cD}{cw:Int}{fv:j5}{L:cN}(h:aB lo m p cw lv fv D L)(x:m.Ok)(hb:L.length<=200)(n g:Nat)(v:20000<=g):
   ∃v' m' l' cs,l9 KW g (n+209) (.func 74) [.ptr p 0] m=some [⟨v',m'⟩]∧cE m m'∧Dd L l'∧au m' v' cs∧cs.length=l'.length∧CpP l' cs∧(∀c,c∈cs->J9 m' c)∧l'.length<=200∧(cs≠[]->∃i,v'=.sliceU i 0 cs.length 32)∧∃mb,cE m mb∧Own mb m' v' cs:=by
 obtain⟨E,C,l',s,j,o⟩:=aiO x h.sG (aV h.facts) h.good hb n g Zs;have E1:=j.1;have a:l'.length<=200:=by obtain⟨_,⟨_,e⟩|⟨_,_,e,_⟩|⟨_,_,_,u⟩⟩:=j;rw[e];simp;rw[e];simp;exact u.big
 obtain⟨B,A,cs,t,f,b,k,z⟩:=afO (l:=l') E1.ok (by rw[E1.lim];exact dn h.sG E1.nx) j.fs (λr q=>(h.w r (o.sub r q)).ext E1) (λr q=>h.sh r (o.sub r q)) a (n+205) g Zs;refine⟨B,A,l',cs,?_,E1.trans f.1,o,f.fs,b,k,z,a,λd=>?_,_,E1,f⟩
 rotate_left
 obtain⟨_,⟨_,e⟩|⟨_,_,e,_⟩|⟨i,_,e,_⟩⟩:=f;exact cj e d;exact cj e d;exact⟨i,e⟩;have y:=h.at_;rw[en f74];simp[f74,y,s,j.fs.aL,t,f.fs.aL]
def ag3{b:cD}{cw:Int}{fv:j5}{L:cN}(hb:L.length<=1000)(Z:b.Ok)(h:b.lim<=b.nx)(J:q0<b.nx)(s:b.get q0=some (j6 [iV cw,fv]))(C:au b fv L)(hw:∀r∈L,J9 b r)(K:∀r∈L,r.valid=true)(O:j5)(n w:Nat)(A:20001<=w):∀(j i:Nat),i+j=L.length->∀(N:Nat),j<N->∀(M:cD),cE b M->∀(out:j5),jH b.nx M out (J4 1 (L.take i))->(J4 1 (L.take i)).length<=9*i->∀(a3:j5),
   ∃out' M',I9 (λenv m k=>Sw (l9 KW w (n+19)) w none env m k) N (nV6 O (iN i) (.ptr q0 0) a3 out nS) M []=some [⟨.exit 0,(nV6 O (iN (L.length)) (.ptr q0 0) fV out' nS),M',[],none⟩]∧cE b M'∧jH b.nx M' out' (J4 1 L)∧(J4 1 L).length<=9*L.length:=by
 intro j;induction j with
 |zero=>
  intro i W N U M a out l e a3;obtain⟨N,rfl⟩:=sx N;obtain rfl:i=L.length:=Zs
  have x:=(a.old q0 J).trans s;have c:=(C.ext a).len;rw[arO]at l e;refine⟨out,M,?_,a,l,e⟩;rw[o7];simp[Sw,o9,A8,D8,x,c]
 |succ j ih=>
  intro i W N U M a out l e a3;obtain⟨N,rfl⟩:=sx N;have d:i<L.length:=Zs
  obtain⟨q,t⟩:∃q,q=i+1:=⟨_,rfl⟩;have Q:=Z5 t Zs;have Y:=a.ok;have X:M.lim<=M.nx:=by rw[a.lim];exact dn h a.nx
  have x:=(a.old q0 J).trans s;have c:=(C.ext a).len;obtain⟨id,G,_,P,_⟩:=(C.ext a).at d;simp at G;have f:=ql d;obtain⟨v4,M1,R,E1,H⟩:=XF Y X ((hw _ f).ext a) (K _ f) (q:Int) (by unfold Sm;omega) n w A;have a0:(iQ (q:Int) (C8 L[i])).length<=9:=by have:=vR _ (C8 L[i]) (aA _);have:=eF (K _ f);rw[dR];omega
  obtain⟨v,M2,S,y,k2,n2,l2,o⟩:=ah5 (lo:=b.nx) (bytes:=16) E1.ok (by rw[E1.lim,a.lim];exact h) (dn a.nx E1.nx) (l.ext E1) H (by simp[iQ]) Zs ⟨Zs,Zs⟩;have T:cE b M2:=by have E01:=a.trans E1;refine⟨k2,dn E01.nx n2,l2.trans E01.lim,λk I=>(o k (aP I E01.nx) λo' n' e' V=>?_).trans (E01.old k I)⟩;have:=(lT (l.ext E1) V).1;omega
  have u:J4 1 (L.take q)=J4 1 (L.take i)++iQ (q:Int) (C8 L[i]):=by rw[t,O7 d,oP];congr 2;simp;omega
  rw[← u]at y;obtain⟨out',M',g,F,B,z⟩:=ih q Zs N Zs M2 T v (rA y (by have:=a.nx;have:=E1.nx;omega)) (by rw[u,aaf];omega) tV;refine⟨out',M',?_,F,B,z⟩;have D:=λ{β:Type} (p:j5->β) q=>(tZ y).aL p q;have E:=λ{β:Type} (p:j5->β) q=>H.aL p q;rw[o7,← g];simp[Sw,o9,A8,D8,x,c,d,G,P,R,E,S,D,Q]
def Wz{m:cD}{cw:Int}{fv:j5}{L:cN}(e:m.Ok)(l:m.lim<=m.nx)(k:au m fv L)(j:∀r∈L,J9 m r)(i:∀r∈L,r.valid=true)(hb:L.length<=1000)(n a:Nat)(c:20001<=a):
   ∃v m',l9 KW a (n+20) (.func 77) [.agg [iV cw,fv]] m=some [⟨v,m'⟩]∧cE m m'∧dV m' v (strs (J4 1 L))∧(J4 1 L).length<=9*L.length:=by
 have E0:=o8 e [j6 [iV cw,fv]];obtain⟨d,M,g,E,f,b⟩:=ag3 (cw:=cw) hb E0.ok ZD (q0:=m.nx) ZZ (by rw[l8 e];rfl) (k.ext E0) (λr h=>(j r h).ext E0) i (.agg [iV cw,fv]) n a c L.length 0 Zs a Zs _ (cE.refl E0.ok) nS (.inl ⟨rfl,rfl⟩) (by simp[J4]) uV;have o:=λ{β:Type} (p:j5->β) q=>(tZ f).aL p q;refine⟨d,M,?_,E0.trans E,tZ f,b⟩;rw[en f77];simp at g;simp[f77,o9,g]
def qm(k:Int)(h:Int)(r:FR):Bool:=decide (r.f.room=k)&&decide (h<r.f.no)
variable {hs:cQ}
def Zz{cw:Int}{fv w:j5}{L:cN}(hb:L.length<=1000)(a4:d.Ok)(B:d.lim<=d.nx)(hq:q0<d.nx)(D:d.get q0=some (j6 [iV cw,fv]))(Z:au d fv L)(hw:∀r∈L,J9 d r)(hh:U5 d w hs)(a3:hs.length=6)(x0:j5)(k:Nat)(hk:k<6)(cf:G6)(fu:Nat):∀(j t:Nat),t+j=L.length->∀(N:Nat),j<N->∀(M:cD),cE d M->∀(out:j5) (A:cN),cu d.nx 32 M out (cellsOf A)->A.length<=1000*k+t->∀(a2 a5 a7:j5),
   ∃out' c7 M',I9 (λenv m k=>He cf fu none env m k) N (zW x0 (iN ((k+1))) a2 (iN t) (.ptr q0 0) a5 w a7 out nS) M []=some [⟨.exit 2,(zW x0 (iN ((k+1))) a2 (iN (L.length)) (.ptr q0 0) fV w c7 out' nS),M',[],none⟩]∧cE d M'∧cu d.nx 32 M' out' (cellsOf (A++(L.drop t).filter (qm ((k:Int)+1) (hs[k]'Zs))))∧(A++(L.drop t).filter (qm ((k:Int)+1) (hs[k]'Zs))).length<=1000*k+L.length:=by
 intro j;induction j with
 |zero=>
  intro t hi N hN M a out A x hA a2 a5 a7;obtain⟨N,rfl⟩:=sx N;obtain rfl:t=L.length:=Zs
  have y:=(a.old q0 hq).trans D;have b:=(Z.ext a).len;refine⟨out,a7,M,?_,a,by rw[List.drop_length,List.filter_nil,agA];exact x,by rw[List.drop_length,List.filter_nil,agA];exact hA⟩;rw[o7];simp[He,o9,A8,D8,y,b]
 |succ j ih=>
  intro t hi N hN M a out A x hA a2 a5 a7;obtain⟨N,rfl⟩:=sx N;have c:t<L.length:=Zs
  obtain⟨q,E⟩:∃q,q=t+1:=⟨_,rfl⟩;have S:=Z5 E Zs;have hm:=a.ok;have hl:M.lim<=M.nx:=by rw[a.lim];exact dn B a.nx
  have y:=(a.old q0 hq).trans D;have b:=(Z.ext a).len;obtain⟨id,H,_,P,Q,R,_⟩:=(Z.ext a).atK c;simp at H;obtain⟨⟨a8,a9⟩,I,_,J⟩:=(hh.ext a).at (i:=k) Zs;simp at I J;have W:=ql c;have Y:=(hw _ W).ext a;have u:L.drop t=L[t]::L.drop q:=by rw[E];exact zu c
  have v:kY (k:Int)=(k:Int):=Z7 Zs Zs;have a6:=Ac x.slice 99;by_cases h1:L[t].f.room=(k:Int)+1;by_cases h2:hs[k]'Zs<L[t].f.no;have n:qm ((k:Int)+1) (hs[k]'Zs) L[t]=true:=by unfold qm;rw[co h1,co h2];rfl
  rw[u,ari,cg n];have E2:=(cE.refl hm).new (j6 L[t].f.cells);have X:mV (M.new (j6 L[t].f.cells)) 32 (.slice M.nx 0 1 1) [L[t].f.cells]:=by
   have:=UL hm L[t].f.cells (by rw[D6.len];omega)
   rwa [D6.len]at this
  have C:=Y.one;obtain⟨G,M2,ga,T,F2,a1⟩:=Ik (bytes:=304) E2.ok (by show M.lim<=d.nx;rw[a.lim];exact B) (dn a.nx E2.nx) Zs (x.ext E2) X (by rw[D6.len]) C (by simp[cellsOf];omega) ⟨Zs,Zs⟩;have V:cellsOf A++[L[t].f.cells]=cellsOf (A++[L[t]]):=by simp[cellsOf]
  rw[V]at T;obtain⟨out',c7,M',g,F,o,l⟩:=ih q Zs N Zs M2 (Qq (a.trans E2) F2) G (A++[L[t]]) (T.down (dn a.nx E2.nx)) ZD a2 tV tV;have ea:A++L[t]::(L.drop q).filter (qm ((k:Int)+1) (hs[k]'Zs))=A++[L[t]]++(L.drop q).filter (qm ((k:Int)+1) (hs[k]'Zs)):=ZZ
  refine⟨out',c7,M',?_,F,by rw[ea];exact o,by rw[ea];exact l⟩;have a0:=λ{β:Type} (p:j5->β) q=>T.slice.aL p q;have U:∀z O K env s,List.length z=32->J2 32 1 z O K env s=ob (lay O K env z) λe=>if e.length=32 then some (.slice s 0 1 1,some (j6 e))else none:=λz O K env s h=>I5 32 z O K env s h
  simp only[o9]at ga;rw[o7,← g];simp[He,o9,A8,D8,y,b,c,H,P,Q,R,I,J,h1,h2,v,U,ga,a0,S,C,G8,D6.len];have n:¬ qm ((k:Int)+1) (hs[k]'Zs) L[t]=true:=by unfold qm;rw[decide_eq_false h2];simp
  rw[u,ari,aE n];obtain⟨out',c7,M',g,F,o,l⟩:=ih q Zs N Zs M a out A x Zs a2 tV fV;refine⟨out',c7,M',?_,F,o,l⟩;rw[o7,← g];simp[He,o9,A8,D8,y,b,c,H,P,Q,R,I,J,h1,h2,v,S,G8];have n:¬ qm ((k:Int)+1) (hs[k]'Zs) L[t]=true:=by unfold qm;rw[decide_eq_false h1];simp
  rw[u,ari,aE n];obtain⟨out',c7,M',g,F,o,l⟩:=ih q Zs N Zs M a out A x Zs a2 tV fV;refine⟨out',c7,M',?_,F,o,l⟩;rw[o7,← g];simp[He,o9,A8,D8,y,b,c,H,P,Q,R,I,J,h1,v,S,G8]
def jI(L:cN)(hs:cQ):Nat->cN
 |0=>[]
 |k+1=>jI L hs k++L.filter (qm ((k:Int)+1) (hs.getD k 0))
variable {b:j5}
def ZA{a:cD}{cw:Int}{fv:j5}{L:cN}(hb:L.length<=1000)(s:a.Ok)(p:a.lim<=a.nx)(K:q0<a.nx)(v:a.get q0=some (j6 [iV cw,fv]))(P:au a fv L)(O:∀r∈L,J9 a r)(H:U5 a b hs)(o:hs.length=6)(y:j5)(cf:G6)(f:Nat)(G:2000<=f):∀(j k:Nat),k+j=6->∀(N:Nat),j<N->∀(M:cD),cE a M->∀(out:j5),cu a.nx 32 M out (cellsOf (jI L hs k))->(jI L hs k).length<=1000*k->∀(a2 a3 a5 a7:j5),
   ∃out' c3 c5 c7 M',I9 (λenv m k=>Sr cf f none env m k) N (zW y (iN ((k+1))) a2 a3 (.ptr q0 0) a5 b a7 out nS) M []=some [⟨.exit 0,(zW y (iN 7) fV c3 (.ptr q0 0) c5 b c7 out' nS),M',[],none⟩]∧cE a M'∧cu a.nx 32 M' out' (cellsOf (jI L hs 6)):=by
 intro j;induction j with
 |zero=>
  intro k I N E M i out t D a2 a3 a5 a7;obtain⟨N,rfl⟩:=sx N;obtain rfl:k=6:=Zs
  refine⟨out,a3,a5,a7,M,?_,i,t⟩;rw[o7];simp[Sr]
 |succ j ih=>
  intro k I N E M i out t D a2 a3 a5 a7;obtain⟨N,rfl⟩:=sx N;have J:k<6:=Zs
  obtain⟨q,e⟩:∃q,q=k+1:=⟨_,rfl⟩;obtain⟨z,d⟩:∃z,z=q+1:=⟨_,rfl⟩;have B:=Z5 d Zs;have w:(q:Int)<=6:=Zs
  have x:q<=6:=Zs
  obtain⟨Q,A,M1,h,E1,c,l⟩:=Zz hb s p K v P O H o y k J cf f L.length 0 Zs f Zs M i out (jI L hs k) t Zs tV a5 a7;have n:hs.getD k 0=hs[k]'Zs:=by rw[O0,cB Zs];rfl
  have C:jI L hs k++(L.drop 0).filter (qm ((k:Int)+1) (hs[k]'Zs))=jI L hs (k+1):=by rw[jI,n,W9]
  rw[C,← e]at c l;obtain⟨out',c3,c5,c7,M',g,F,u⟩:=ih q Zs N Zs M1 E1 Q c Zs tV (iN (L.length)) fV A;refine⟨out',c3,c5,c7,M',?_,F,u⟩;rw[← d]at g;rw[← e]at h ⊢;simp at h;rw[o7,← g];simp[Sr,o9,A8,D8,w,x,h,B]
def WA{m:cD}{cw:Int}{fv:j5}{L:cN}(f:m.Ok)(u:m.lim<=m.nx)(l:au m fv L)(k:∀r∈L,J9 m r)(i:U5 m b hs)(d:hs.length=6)(hb:L.length<=1000)(n a:Nat)(c:2000<=a):
   ∃v m',l9 KW a (n+1) (.func 24) [.agg [iV cw,fv],b] m=some [⟨v,m'⟩]∧cE m m'∧au m' v (jI L hs 6):=by
 have E0:=o8 f [j6 [iV cw,fv]];obtain⟨e,o,s,t,M,g,E,h⟩:=ZA (cw:=cw) hb E0.ok ZD (q0:=m.nx) ZZ (by rw[l8 f];rfl) (l.ext E0) (λr j=>(k r j).ext E0) (i.ext E0) d (.agg [iV cw,fv]) (l9 KW a n) a c 6 0 Zs a Zs _ (cE.refl E0.ok) nS (.inl ⟨rfl,rfl⟩) (by simp[jI]) uV uV uV uV;have w:=λ{β:Type} (p:j5->β) q=>h.slice.aL p q;refine⟨e,M,?_,E0.trans E,aV h⟩;rw[en f24];simp at g;simp[f24,o9,g]
def aiV{m:cD}{cw:Int}{fv:j5}{L:cN}(c:m.Ok)(j:m.lim<=m.nx)(h:au m fv L)(l:∀r∈L,J9 m r)(hb:L.length<=1000)(n a:Nat)(b:2000<=a):
   ∃v m',l9 KW a (n+2) (.func 80) [.agg [iV cw,fv]] m=some [⟨v,m'⟩]∧cE m m'∧au m' v (jI L [0,0,0,0,0,0] 6):=by
 have E0:=o8 c [j6 [iV cw,fv],.cells 1 6 z6];have i:xQ (ext m [j6 [iV cw,fv],.cells 1 6 z6]) (m.nx+1) 1 (mR [0,0,0,0,0,0]):=XQ (by rw[r9 c];rfl);have d:=acH i ZZ 6;obtain⟨v,M,g,E,f⟩:=WA (cw:=cw) E0.ok ZD (h.ext E0) (λr k=>(l r k).ext E0) d rfl hb n a b;refine⟨v,M,?_,E0.trans E,f⟩;have o:=h.cells;have e:j5.slice (m.nx+1) 0 [0,0,0,0,0,(0:Int)].length 6=.slice (m.nx+1) 0 6 6:=rfl;rw[e]at g;rw[en f80];simp[f80,o9,A8,dh c j,mk6,g,f.aL]
variable {cs:cN}
def ZB{x y:j5}{us:cN}(D:cs.length=us.length)(hn:cs.length<=1000)(a:∀i (h:i<cs.length)(h':i<us.length),cs[i].same us[i]=true)(E:∀r,r∈cs->r.short)(F:∀r,r∈us->r.short)(B d:Nat)(u:20000<=d)(G:j5):
   ∀(s i:Nat),i+s=cs.length->∀(N:Nat),s<N->∀(M:cD),M.Ok->au M x cs->au M y us->(∀r,r∈cs->J9 M r)->(∀r,r∈us->J9 M r)->∀(y4 y5 y6:j5),
    ∃z5 z6 M',I9 (λenv m k=>Sq (l9 KW d (B+3)) d none env m k) N (zV x y G (iN i) y4 y5 y6 fV) M []=some [⟨.exit 0,(zV x y G (iN (cs.length)) fV z5 z6 fV),M',[],none⟩]∧cE M M':=by
 intro s;induction s with
 |zero=>
  intro i P N O M j e w o t y4 y5 y6;obtain⟨N,rfl⟩:=sx N;obtain rfl:i=cs.length:=Zs
  have A:=e.len;refine⟨y5,y6,M,?_,cE.refl j⟩;rw[o7];simp[Sq,A]
 |succ s ih=>
  intro i P N O M j e w o t y4 y5 y6;obtain⟨N,rfl⟩:=sx N;have A:=e.len;have b:i<cs.length:=Zs
  have c:i<us.length:=Zs
  obtain⟨p,J,S,K,_⟩:=e.at b;obtain⟨q,H,T,I,_⟩:=w.at c;have l:=ql b;have n:=ql c;obtain⟨M1,C,E1⟩:∃M1,l9 KW d (B+3) (.func 18) [.agg cs[i].f.cells,.agg us[i].f.cells] M=some [⟨.bool (cs[i].same us[i]),M1⟩]∧cE M M1:=⟨_,PX j ((o _ l).sh (E _ l)) ((t _ n).sh (F _ n)) B d u,o8 j _⟩;rw[a i b c]at C;have Q:=((o _ l).sh (E _ l)).same;have R:=((t _ n).sh (F _ n)).same;obtain⟨z,v⟩:∃z,z=i+1:=⟨_,rfl⟩;have L:=Z5 v Zs;obtain⟨z5,z6,M',g,E2⟩:=ih z Zs N Zs M1 E1.ok (e.ext E1) (w.ext E1) (λr h=>(o r h).ext E1) (λr h=>(t r h).ext E1) tV tV fV;refine⟨z5,z6,M',?_,E1.trans E2⟩;rw[o7,← g];clear ih a;simp[Sq,A,b,J,K,H,I,C,Q,R,L]
def WB{m:cD}{x y:j5}{us:cN}(l:m.Ok)(e:au m x cs)(f:au m y us)(a:cs.length=us.length)(hn:cs.length<=1000)(b:∀i (h:i<cs.length)(h':i<us.length),cs[i].same us[i]=true)(o:∀r,r∈cs->r.short)(p:∀r,r∈us->r.short)
   (q:∀r,r∈cs->J9 m r) (s:∀r,r∈us->J9 m r) (k c:Nat) (d:20000<=c):∃m',l9 KW c (k+4) (.func 23) [x,y] m=some [⟨tV,m'⟩]∧cE m m':=by
 have n:=e.len;have j:=f.len;rw[← a]at j;obtain⟨t,u,m',g,E⟩:=ZB a hn b o p k c d fV cs.length 0 Zs c Zs m l e f q s uV uV uV;dsimp only[iN]at g;rw[show((0:Nat):Int)=0 from rfl]at g;refine⟨m',?_,E⟩;rw[en f23];simp[f23,n,j,g]
def xw{α:Type}(lt:α->α->Prop)(irr:∀a,¬ lt a a)(tr:∀a b c,lt a b->lt b c->lt a c):∀(l m:List α),l.Pairwise lt->m.Pairwise lt->(∀x,x∈l↔x∈m)->l=m
 |[],[],_,_,_=>rfl
 |[],b::m,_,_,h=>cj ((h b).2 (agD ..)) ZZ
 |a::l,[],_,_,h=>cj ((h a).1 (agD ..)) ZZ
 |a::l,b::m,h1,h2,h=>by
  rw[List.pairwise_cons]at h1 h2;have hab:a=b:=by rcases O4.1 ((h a).1 (agD ..))with e|e;exact e;rcases O4.1 ((h b).2 (agD ..))with e'|e';exact e'.symm;exact cj (tr _ _ _ (h1.1 b e') (h2.1 a e)) (irr a)
  subst hab;rw[xw lt irr tr l m h1.2 h2.2 λx=>⟨λhx=>?_,λhx=>?_⟩];rcases O4.1 ((h x).1 (aa1 _ hx))with e|e;subst e;exact cj (h1.1 x hx) (irr x);exact e;rcases O4.1 ((h x).2 (aa1 _ hx))with e|e;subst e;exact cj (h2.1 x hx) (irr x);exact e
def TB(r s:FR):Prop:=r.f.room<s.f.room∨(r.f.room=s.f.room∧r.f.no<s.f.no)
def XT(r:FR):¬ TB r r:=by unfold TB;omega
def acM(a b c:FR):TB a b->TB b c->TB a c:=by unfold TB;omega
def kG{r:FR}(h:r.valid=true):1<=r.f.room∧r.f.room<=6∧1<=r.f.no∧r.f.no<=60:=by simp only[FR.valid,fq,kC,oo,ck]at h;omega
variable {s:FR}
def Grown.uniq{L:cN}(h:Grown L){r:FR}(n:r∈L)(hs:s∈L)(e:r.f.room=s.f.room)(o:r.f.no=s.f.no):r=s:=by
 have a:r∈L.filter λx=>decide (x.f.room=r.f.room):=by simp[n]
 have b:s∈L.filter λx=>decide (x.f.room=r.f.room):=by simp[hs,e]
 obtain⟨i,l,c⟩:=axa.1 a;obtain⟨j,m,d⟩:=axa.1 b;have g:=h.nos r.f.room i l;have k:=h.nos r.f.room j m;rw[c]at g;rw[d]at k;have:i=j:=Zs
 subst this;rw[← c,← d]
def Grown.room{L:cN}(h:Grown L)(k h0:Int):(L.filter (qm k h0)).Pairwise TB:=by
 have a:(L.filter λx=>decide (x.f.room=k)).Pairwise TB:=by
  rw[axx];intro i j b c d;have m:=h.nos k i b;have n:=h.nos k j c;have g:((L.filter λx=>decide (x.f.room=k))[i]).f.room=k:=by have:=ql b;simp only[ag4,ck]at this;exact this.2
  have l:((L.filter λx=>decide (x.f.room=k))[j]).f.room=k:=by have:=ql c;simp only[ag4,ck]at this;exact this.2
  exact .inr ⟨by rw[g,l],Zs⟩
 have e:L.filter (qm k h0)=(L.filter λx=>decide (x.f.room=k)).filter λx=>decide (h0<x.f.no):=by rw[List.filter_filter];apply List.filter_congr;intro x _;unfold qm;exact Bool.and_comm _ _
 rw[e];exact a.sublist List.filter_sublist
def kU(L:cN)(hs:cQ):∀(k:Nat) (r:FR),r∈jI L hs k↔r∈L∧∃i,i<k∧r.f.room=(i:Int)+1∧hs.getD i 0<r.f.no
 |0,r=>by simp[jI]
 |k+1,r=>by rw[jI,LA,kU L hs k r,ag4];unfold qm;constructor;rintro (⟨h1,i,h2,h3⟩|⟨h1,h2⟩);exact⟨h1,i,Zs,h3⟩;simp only[oo,ck]at h2;exact⟨h1,k,Zs,h2⟩;rintro⟨h1,i,h2,h3⟩;by_cases hik:i=k;subst hik;exact .inr ⟨h1,by rw[co h3.1,co h3.2];rfl⟩;exact .inl ⟨h1,i,Zs,h3⟩
def xA{L:cN}(h:Grown L)(hs:cQ):∀k,(jI L hs k).Pairwise TB
 |0=>List.Pairwise.nil
 |k+1=>by rw[jI,List.pairwise_append];refine⟨xA h hs k,h.room _ _,λa ha b hb=>?_⟩;obtain⟨_,i,h1,h2,_⟩:=(kU L hs k a).1 ha;rw[ag4]at hb;have hb:=hb.2;unfold qm at hb;simp only[oo,ck]at hb;exact .inl Zs
def NV{L e:cN}(h:Grown L)(d:Dd L e):e.Pairwise TB:=by rw[axx];intro i j c b a;have k:=d.st i j a b;rw[lD c,lD b]at k;have f:=kG (h.valid _ (d.sub _ (ql c)));have g:=kG (h.valid _ (d.sub _ (ql b)));unfold FR.key at k;unfold TB;omega
def Qr{L f:cN}(h:Grown L)(d:Dd L f)(r:FR):r∈f↔r∈L:=by refine⟨d.sub r,λa=>?_⟩;obtain⟨s,b,c⟩:=d.cov r a;have g:=kG (h.valid _ a);have i:=kG (h.valid _ (d.sub _ b));have e:r=s:=h.uniq a (d.sub s b) (by unfold FR.key at c;omega) (by unfold FR.key at c;omega);rw[e];exact b
variable {X:cN}
def ZC{L n:cN}(j:Grown L)(l:Grown X)(m:L.map FR.cn=X.map FR.cn)(d:Dd L n):n.map FR.cn=(jI X [0,0,0,0,0,0] 6).map FR.cn:=by
 have c:∀{a b:FR},TB a b->TB a.cn b.cn:=λh=>h;refine xw TB XT acM _ _ (awN.2 ((NV j d).imp λh=>c h)) (awN.2 ((xA l _ 6).imp λh=>c h)) λx=>?_;rw[adg,adg];constructor;rintro⟨a,k,rfl⟩;have:a.cn∈X.map FR.cn:=by rw[← m];exact awf ((Qr j d a).1 k)
 obtain⟨b,g,e⟩:=adg.1 this;refine⟨b,(kU X _ 6 b).2 ⟨g,?_⟩,e⟩;have v:=kG (l.valid b g);refine⟨(b.f.room-1).toNat,Zs,Zs,?_⟩;have o:([0,0,0,0,0,0]:cQ).getD (b.f.room-1).toNat 0=0:=by
  have:(b.f.room-1).toNat<6:=Zs
  generalize (b.f.room-1).toNat=i at this;match i,this with
  |0,_=>rfl
  |1,_=>rfl
  |2,_=>rfl
  |3,_=>rfl
  |4,_=>rfl
  |5,_=>rfl
 rw[o];omega;rintro⟨b,g,rfl⟩;have g:=((kU X _ 6 b).1 g).1;have:b.cn∈L.map FR.cn:=by rw[m];exact awf g
 obtain⟨a,k,e⟩:=adg.1 this;exact⟨a,(Qr j d a).2 k,e⟩
variable {l:cN}
def acN{m:cD}(h:au m v l)(n:Nat):bg (n+1) v v=true:=by have b:∀k,beq k k=true:=λk=>ah6 k;rcases h with⟨rfl,_⟩|⟨id,⟨c,rfl⟩|rfl,_⟩;rfl;show bi (beq id id) (bi (beq 0 0) (bi (beq l.length l.length) (beq c c) false) false) false=true;rw[b,b,b,b];rfl;show bi (beq id id) (bi (beq 0 0) (bi (beq l.length l.length) (beq 32 32) false) false) false=true;rw[b,b,b];rfl
variable {c:j5}
def aiW{lo:Nat}{m:cD}{cw:Int}{fv:j5}{L:cN}(h:aB lo m p cw lv fv D L)(V:m.Ok)(hD:D=J4 1 L)(hL:L.length<=200)(U:Grown L)(o:Grown X)(z:L.map FR.cn=X.map FR.cn)(s:au m c X)(f:∀r∈X,J9 m r)(B:∀r∈X,r.short)(n a:Nat)(a9:50001<=a):
   ∃m',l9 KW a (n+210) (.func 32) [.ptr p 0,.agg [iV cw,c]] m=some [⟨tV,m'⟩]∧cE m m':=by
 have a7:X.length=L.length:=by simpa using (ci List.length z).symm
 have hl:=h.sG;have g:∀{M:cD},cE m M->M.lim<=M.nx:=λE=>by rw[E.lim];exact dn hl E.nx
 have E0:=o8 V [j6 [iV cw,c]];have q0:(ext m [j6 [iV cw,c]]).get m.nx=some (j6 [iV cw,c]):=by rw[l8 V];rfl
 have R0:=h.ext E0;have O:=aiT R0 (n+208) a;obtain⟨ac,M1,P,E1,C⟩:=acI R0 E0.ok Zs (n+207) a Zs;have E01:=E0.trans E1;have q1:M1.get m.nx=some (j6 [iV cw,c]):=by rw[E1.old _ ZZ];exact q0
 obtain⟨ad,M2,Q,E2,F⟩:=acJ (cw:=cw) E01.ok (g E01) (s.ext E01) Zs (n+207) a Zs;have E02:=E01.trans E2;have t:=E1.nx;have q2:M2.get m.nx=some (j6 [iV cw,c]):=by rw[E2.old _ (by simp at t;omega)];exact q1
 have x:=PW (C.ext E2) F (by simp[sP]) (n+208) a Zs;rw[co (show sP L 6=Ae X 6 by rw[Wy,XR z])]at x;obtain⟨aa,M3,I,cs,J,E3,hd,u,T,l,A,a5,_⟩:=acL (h.ext E02) E02.ok hL n a Zs;have E03:=E02.trans E3;have n2:=E2.nx;have q3:M3.get m.nx=some (j6 [iV cw,c]):=by rw[E3.old _ (by simp at t;omega)];exact q2
 obtain⟨ae,M4,R,E4,v⟩:=aiV (cw:=cw) E03.ok (g E03) (s.ext E03) (λr b=>(f r b).ext E03) Zs (n+207) a Zs;have E04:=E03.trans E4;have n3:=E3.nx;have q4:M4.get m.nx=some (j6 [iV cw,c]):=by rw[E4.old _ (by simp at t;omega)];exact q3
 have k:=ZC U o z hd;have Y:(jI X [0,0,0,0,0,0] 6).length=I.length:=by simpa using (ci List.length k).symm
 have d:∀r∈jI X [0,0,0,0,0,0] 6,r∈X:=λr b=>((kU X _ 6 r).1 b).1;obtain⟨M5,N,E5⟩:=WB (cs:=cs) (us:=jI X [0,0,0,0,0,0] 6) E04.ok (u.ext E4) v (by rw[T,Y]) Zs (λi h1 h2=>by
   have y:i<I.length:=Zs
   have e1:=(l i h1 y).cn;have H:(I.map FR.cn)[i]?=((jI X [0,0,0,0,0,0] 6).map FR.cn)[i]?:=by rw[k]
   rw[abP,abP,cB y,cB h2]at H;have H:=rW H;exact AB.2 (e1.trans H)) (λr b=>by
   obtain⟨i,hi,e⟩:=axa.1 b;have y:i<I.length:=Zs
   rw[← e];exact(l i hi y).short (h.sh _ (hd.sub _ (ql y)))) (λr b=>B r (d r b)) (λr b=>(A r b).ext E4) (λr b=>(f r (d r b)).ext E04) (n+205) a Zs
 have E05:=E04.trans E5;have n4:=E4.nx;have q5:M5.get m.nx=some (j6 [iV cw,c]):=by rw[E5.old _ (by simp at t;omega)];exact q4
 obtain⟨_,_,_,_,_,bd⟩:=Wz (cw:=cw) V hl s f o.valid Zs n a Zs;have a6:D.length<=2000:=by rw[hD,KU z];omega
 obtain⟨ab,M6,K,E6,j⟩:=acK (h.ext E05) E05.ok Zs (n+207) a;have E06:=E05.trans E6;have n5:=E5.nx;have q6:M6.get m.nx=some (j6 [iV cw,c]):=by rw[E6.old _ (by simp at t;omega)];exact q5
 obtain⟨af,M7,S,E7,G,_⟩:=Wz (cw:=cw) E06.ok (g E06) (s.ext E06) (λr b=>(f r b).ext E06) o.valid Zs (n+189) a Zs;have E07:=E06.trans E7;have n6:=E6.nx;have q7:M7.get m.nx=some (j6 [iV cw,c]):=by rw[E7.old _ (by simp at t;omega)];exact q6
 have w:=aiB (tZ (j.ext E7)) G Zs (n+208) a Zs;rw[co (show D=J4 1 X by rw[hD,KU z])]at w;refine⟨M7,?_,E07⟩;have eP:xW (.ptr p 0) .nilPtr=some false:=rfl;have W:=acN s 98;have a8:=s.cells;have a1:=λ{β:Type} (p:j5->β) q=>C.aL p q;have a2:=λ{β:Type} (p:j5->β) q=>F.aL p q;have Z:=λ{β:Type} (p:j5->β) q=>u.aL p q;have a3:=λ{β:Type} (p:j5->β) q=>v.aL p q;have a0:=λ{β:Type} (p:j5->β) q=>(tZ j).aL p q;have a4:=λ{β:Type} (p:j5->β) q=>G.aL p q;clear g l A B f d k;rw[en f32];simp[f32,o9,eP,q0,O,P,q1,Q,x,q2,J,R,q3,N,q5,K,q6,S,w,W,a1,a2,Z,a3,a0,a4,G8,vJ,FB,JV]
abbrev zU(a b c d:j5):cM:=[a,b,iZ,iZ,iZ,iZ,iZ,iZ,iZ,iZ,iZ,iZ,iZ,iZ,iZ,iZ,iZ,iZ,iZ,iZ,iZ,iZ,iZ,iZ,nS,nS,iZ,iZ,iZ,iZ,iZ,nS,iZ,iZ,c,d]
attribute [simp] zU
def acO(n a:Nat)(m:cD):l9 KW a (n+1) (.func 6) [] m=some [⟨tV,m⟩]:=by rw[mK];have h:KW.fns 6=some {f6 with pure:=true}:=rfl;simp only[h,I6,aC];rfl
def Wo.le{L:cN}{d:cP}(h:Wo L d X):L.length<=200->X.length<=200:=by
 induction h with
 |stop _=>exact id
 |@step L L' d r h _ _ ih=>intro _;exact ih (by have:=h.1;simp;omega)
def FR.named(r:FR)(k no:Int):FR:=⟨{r.f with room:=k,no:=no},r.a,r.b,r.l⟩
def J9.named{m:cD}{r:FR}(h:J9 m r)(k no:Int)(hn:ah no):J9 m (r.named k no):=⟨h.a,h.b,h.l,h.ga,h.gb,hn⟩
variable {q:Nat}
def aB.other{s:cD}{lo:Nat}{m:cD}{cw:Int}{fv:j5}{L:cN}(h:aB lo m p cw lv fv D L){c:cM}(X:bC q m s)(j:c.length=32)(l:m.get q=some (j6 c))(g:q≠p)(b:∀o n e,fv≠.sliceU q o n e∧fv≠.slice q o n e):aB lo s p cw lv fv D L:=by
 have y:=uP j l X;have v:j6 c=.cells 32 1 (.nd .e c .e):=by show Y9.cells (len' c) 1 (.nd .e c .e)=_;rw[K7,j]
 refine⟨(X.old p h.pn (aqR g)).trans h.at_,h.lo_,aP h.pn X.nx,by rw[X.lim];exact h.lim,?_,?_,λr x=>(h.w r x).keep y,h.sh⟩;exact vQ h.list X.nx λi o n e f a=>X.old i f λd=>by subst d;obtain⟨_,_,k,t,u⟩:=lT h.list a;have:=lJ u (l.trans (ci some v));omega
 exact mQ h.facts X.nx λi f a=>X.old i f λd=>by subst d;rcases a with⟨o,n,e,a⟩|⟨o,n,e,a⟩;exact(b o n e).1 a;exact(b o n e).2 a
def AV:∀(L:cN) (k:Nat),(∀r∈L,r.valid=true)->(J4 k L).length<=9*L.length
 |[],k,_=>by simp[J4]
 |r::L,k,h=>by have h1:=AV L (k+1) λs hs=>h s (aa1 _ hs);have h2:=vR _ (C8 r) (aA _);have h3:=eF (h r (agD ..));rw[J4,aaf,dR];simp only[aa5];omega
def XU{L:cN}(h:Wo L [] X):X=L:=by
 cases h with
 |stop _=>rfl
 |step h _ _=>obtain⟨t,e⟩:=h.2.pre;simp[iQ]at e
def Grown.at{M:cN}(h:Grown M):∀(A:cN) (r:FR) (B:cN),M=A++r::B->Grown A∧lF A r=true∧r.valid=true:=by
 induction h with
 |nil=>intro A r B e;simp at e
 |@snoc L s h hv hf ih=>
  intro A r B e;rcases List.eq_nil_or_concat B with rfl|⟨B',s',rfl⟩;have a:=List.append_inj' e ZZ;obtain⟨b,c⟩:=a;have c:s=r:=by injection c
  subst b c;exact⟨h,hf,hv⟩;have a:L++[s]=(A++r::B')++[s']:=by simpa using e
  have b:=(List.append_inj' a ZZ).1;exact ih A r B' b
variable {B:cN}
def aiX{A:cN}{r:FR}(b:r.valid=true)(a:A.length+1<=200)(rest:cP):Rec (A.length+1) (J4 (A.length+1) (r::B)++rest) r:=
 ⟨a,b,J4 (A.length+1+1) B++rest,by rw[J4,atW]⟩
def drop_at{A:cN}{r:FR}(rest:cP):(J4 (A.length+1) (r::B)++rest).drop (L9 r)=J4 ((A++[r]).length+1) B++rest:=by
 have e:L9 r=(iQ ((A.length+1:Nat):Int) (C8 r)).length:=by rw[dR];rfl
 rw[J4,atW,e,List.drop_left];simp
variable {L':cN}
def ZE{a:cP}{g:cN}(k:Reach g ws L' a):∀(B A:cN) (rest:cP),g.map FR.cn=A.map FR.cn->ws=J4 (A.length+1) B++rest->Grown (A++B)->(A++B).length<=200->(∀r,¬ Rec ((A++B).length+1) rest r)->
   a=rest∨∃C r D,A++B=C++r::D∧a=J4 (C.length+1) (r::D)++rest:=by
 induction k with
 |@refl L ws=>
  intro B A rest f e c d h;cases B with
  |nil=>exact .inl (by rw[e];simp[J4])
  |cons r B=>exact .inr ⟨A,r,B,rfl,e⟩
 |@step L L' ws a s hs hf k ih=>
  intro B A rest f e c d h;have b:L.length=A.length:=by simpa using ci List.length f
  cases B with
  |nil=>rw[agA]at h;rw[b,e]at hs;exact cj (by simpa[J4]using hs) (h s)
  |cons r B=>
   obtain⟨_,_,n⟩:=c.at A r B rfl;have m:=aiX (A:=A) (B:=B) n (by simp at d;omega) rest;rw[b,e]at hs;have i:=hs.2.uniq m.2;have l:L9 s=L9 r:=by unfold L9;rw[Ab i]
   have j:A++r::B=A++[r]++B:=ZZ
   rw[j]at c d h ⊢;exact ih B (A++[r]) rest (by simp[f,i]) (by rw[e,l,drop_at]) c d h
def acP:∀r,¬ Rec n [] r:=λr a=>by obtain⟨t,e⟩:=a.2.pre;simp[iQ]at e
def NW:∀(A B:cN) (k:Nat),J4 k (A++B)=J4 k A++J4 (k+A.length) B
 |[],B,k=>by simp[J4]
 |r::A,B,k=>by rw[agz,J4,J4,NW A B (k+1),atW,aa5,show k+1+A.length=k+(A.length+1)from by omega]
def ZF{no:Int}{r:FR}{u t:cP}(hs:s.valid=true)(c:r.valid=true)(e:iQ no (C8 s)++t=C9 bZ [no,((chunks (C8 r)).length:Int),((C8 r).length:Int),(mW (C8 r):Int)]::u):(chunks (C8 s)).length=(chunks (C8 r)).length:=by
 have b:C9 bZ [no,((chunks (C8 s)).length:Int),((C8 s).length:Int),(mW (C8 s):Int)]=C9 bZ [no,((chunks (C8 r)).length:Int),((C8 r).length:Int),(mW (C8 r):Int)]:=by unfold iQ at e;exact(akk e).1
 have a:=ci (cA 32) b;rw[oO,oO]at a;simp only[aX,afp,avT,avG,true_and]at a;have d:=gI _ _ (aA (C8 s).length);have f:=gI _ _ (aA (C8 r).length);have g:=eF hs;have h:=eF c;have:=Tt (by unfold Sm;omega) (by unfold Sm;omega) a.1;omega
def ZG{r:FR}(o:r.valid=true){own tail:cP}(c:own.length=L9 r)(m:∀i (h:i<own.length)(h':i<(iQ (n:Int) (C8 r)).length),own[i]=[]∨own[i]=(iQ (n:Int) (C8 r))[i])(p:[]∈own):∀s,¬ Rec n (own++tail) s:=λs f=>by
 obtain⟨t,e⟩:=f.2.pre;have l:(iQ (n:Int) (C8 r)).length=L9 r:=by rw[dR];rfl
 have q:1<=(chunks (C8 r)).length:=CU (Gl r);have a:0<own.length:=by rw[c];unfold L9;omega
 obtain⟨h,u,rfl⟩:∃h u,own=h::u:=by
  cases own with
  |nil=>simp at a
  |cons h u=>exact⟨h,u,rfl⟩
 have b:=m 0 a Zs;rw[avR]at b;rcases b with rfl|b;unfold iQ C9 at e;have g:=(akk e).1;simp[bZ]at g;have b:h=C9 bZ [(n:Int),((chunks (C8 r)).length:Int),((C8 r).length:Int),(mW (C8 r):Int)]:=b;rw[b]at e;have j:=ZF f.2.valid o (u:=u++tail) (by rw[← e];rfl);have d:(C9 bZ [(n:Int),((chunks (C8 r)).length:Int),((C8 r).length:Int),(mW (C8 r):Int)]::u)=iQ (n:Int) (C8 s):=by refine(List.append_inj e ?_).1;rw[dR,j];simp only[aa5]at c ⊢;unfold L9 at c;omega
 have k:u=chunks (C8 s):=by unfold iQ at d;exact(akk d).2
 rcases O4.1 p with e5|e5;rw[b]at e5;unfold C9 at e5;simp[bZ]at e5;rw[k]at e5;exact NR _ (C8 s) (aA _) [] e5 rfl
def WC{lo id:Nat}{m:cD}(h:jH lo m (.sliceU id 0 D.length 1) D)(g:m.Ok)(b:m.lim<=id)(hi:i<D.length)(s:By):
   ∃m',(∀{β:Type} (k:cD->Option β),storeAt m id i [.str s] k=k m')∧jH lo m' (.sliceU id 0 D.length 1) (D.set i s)∧bC id m m':=by
 rcases h with⟨h,_⟩|⟨id',t,c,h1,h2,h3,h4,h5,h6,h7,h8⟩;cases h;injection h4 with h4;subst h4;have d:=h8 i hi;have q:bf 1 D.length t i [.str s]=some (t.put i [.str s]):=by have p:Nat.div i 1=i:=Nat.div_one i;have r:Nat.mod i 1=0:=Nat.mod_one i;unfold bf;rw[p,r,show blt i D.length=true from O8.mpr hi,d];rfl
 refine⟨m.set id (.cells 1 D.length (t.put i [.str s])),λk=>?_,.inr ⟨id,t.put i [.str s],c,h1,by simp;exact h2,by simpa using h3,ZZ,by rw[cD.R9 g h2,cg rfl];simp,T.Ok.put h6 i _ Zs,by simpa using h7,λj l=>?_⟩,⟨cD.Ok.set g h2 _,ZZ,rfl,λj l n=>by rw[cD.R9 g h2,aE n]⟩⟩;have o:H8 [j5.str s]=true:=rfl;rw[bI b o,h5];show ob (ob (bf 1 D.length t i [.str s]) λa=>some (Y9.cells 1 D.length a)) _=_;rw[q];rfl;have f:j<D.length:=by simpa using l
 rw[awY];split;rename_i e;subst e;exact T.aN h6 _ _ Zs;rename_i e;rw[T.bU h6 _ _ _ Zs e];exact h8 j f
def aiY(j:Nat)(h:j<64):iB .u64 ((j:Nat):Int)=((j:Nat):Int):=by show IntKind.u64.wrap _=_;unfold IntKind.wrap;simp[IntKind.bits,IntKind.signed];omega
def hdB(no:Int)(r:FR):By:=C9 bZ [no,((chunks (C8 r)).length:Int),((C8 r).length:Int),(mW (C8 r):Int)]
def XV:∀(n:Nat) (s:By),s.length<=n->∀w∈chunks s,w.length<=64
 |0,s,h=>by obtain rfl:=U1.1 (show s.length=0 by omega);simp[dF]
 |n+1,s,h=>by by_cases hs:s=[];subst hs;simp[dF];have hp:=P6.2 hs;rw[ji hs];intro w hw;rcases O4.1 hw with rfl|hw;simp;omega;exact XV n (s.drop 64) ZD w hw
def avE{no:Nat}{r:FR}(c:r.valid=true)(b:no<=1000):(hdB (no:Int) r).length<=200:=by
 have d:=eF c;have e:=gI _ (C8 r) (aA _);have f:=Es (C8 r);have:=aH bZ [(no:Int),((chunks (C8 r)).length:Int),((C8 r).length:Int),(mW (C8 r):Int)] (by
  intro x a;simp only[O4,arj,or_false]at a;unfold Sm;rcases a with rfl|rfl|rfl|rfl<;>omega)
 simp[bZ]at this;unfold hdB;simp[bZ];omega
def Iz:∀(L:cN) (k:Nat),(∀r∈L,r.valid=true)->k+L.length<=1000->∀w∈J4 k L,w.length<=200
 |[],_,_,_,w,hw=>by simp[J4]at hw
 |r::L,k,h,hk,w,hw=>by rw[J4,LA]at hw;simp only[aa5]at hk;rcases hw with hw|hw;rcases O4.1 (show w∈hdB (k:Int) r::chunks (C8 r)from hw)with rfl|hw;exact avE (h r (agD ..)) Zs;have:=XV _ (C8 r) (aA _) w hw;omega;exact Iz L (k+1) (λs hs=>h s (aa1 _ hs)) Zs w hw
def NY{no:Nat}{r:FR}(d:r.valid=true){h:By}{u:cP}(c:h=[]∨h=hdB (no:Int) r){k:Nat}(e:mP (h::u)=some k):1<=k∧k<=8:=by obtain⟨j,l,w,m,n,a,b,_⟩:=Wt e;rcases c with rfl|rfl;simp[cA]at a;unfold hdB at a;rw[oO]at a;simp only[aX,afp,avT,avG]at a;have f:=vR _ (C8 r) (aA _);have g:=eF d;have i:=CU (Gl r);rw[← a.2.2.1,Gb Zs Zs]at b;injection b with b;omega
def aiZ(h:∀w∈ws,w.length<=200){k:Nat}(e:k<=8):((ws.drop 1).take k).flatten.length<=16000:=by
 have:=Ez (b:=200) (ws:=(ws.drop 1).take k) λw c=>h w (ahh (adn c));have a:((ws.drop 1).take k).length<=8:=ZD
 have d:=U0 200 a;omega
def acQ{rest:cP}(g:Grown B)(m:B.length<=200)(n:∀w∈rest,w.length<=200)(hn:∀r,¬ Rec (B.length+1) rest r)(i:rest=[]∨∃(no:Nat)(r:FR)(h:By)(u:cP),r.valid=true∧rest=h::u∧(h=[]∨h=hdB (no:Int) r))(v:j5):Qp v [] (J4 1 B++rest):=by
 have c:∀w∈J4 1 B++rest,w.length<=200:=λw h=>by rcases LA.1 h with h|h;exact Iz B 1 g.valid Zs w h;exact n w h
 have f:∀L' a,Reach [] (J4 1 B++rest) L' a->∀k,mP a=some k->1<=k∧k<=8:=λL' a d k b=>by
  rcases ZE d B [] rest rfl ZZ (by simpa using g) (by simpa using m) (by simpa using hn)with rfl|⟨C,r,D,e,rfl⟩;rcases i with rfl|⟨no,r,h,u,l,rfl,i⟩;simp[mP]at b;exact NY l i b;have l:r.valid=true:=g.valid r (by
   have e:B=C++r::D:=by simpa using e
   rw[e];simp)
  rw[J4]at b;exact NY (no:=C.length+1) l (h:=hdB ((C.length+1:Nat):Int) r) (u:=chunks (C8 r)++J4 (C.length+1+1) D++rest) (.inr rfl) (by
   have:(iQ ((C.length+1:Nat):Int) (C8 r)++J4 (C.length+1+1) D)++rest=hdB ((C.length+1:Nat):Int) r::(chunks (C8 r)++J4 (C.length+1+1) D++rest):=by unfold iQ hdB;simp
   rw[this]at b;exact b)
 refine⟨λw h=>by have:=c w h;omega,λL' a d=>.inr λk b=>by have:=(f L' a d k b).1;omega,λL' a d k b=>?_⟩;obtain⟨j,rfl⟩:=d.drop;exact aiZ (λw h=>c w (ahh h)) (f _ _ d k b).2
def arn(c:cs.length=l.length)(h:CpP l cs):cs.map FR.cn=l.map FR.cn:=by apply axK;simp[c];intro i a b;rw[akl,akl];exact(h i (by simpa using a) (by simpa using b)).cn
def Fp(p:Nat)(lv fv:j5)(i:Nat):Prop:=i=p∨(∃o n e,lv=.sliceU i o n e)∨∃o n e,fv=.sliceU i o n e
def Fs(fv:j5)(i:Nat):Prop:=∃o n e,fv=.slice i o n e
structure nT(lo:Nat)(m m':cD)(p:Nat)(cw:Int)(lv fv lv' fv':j5)(L L':cN):Prop where
 frr:FrR m m' p lv fv
 room:aB lo m' p cw lv' fv' (J4 1 L') L'
 grown:Grown L'
 len:L'.length<=200
 fp:∀i,Fp p lv' fv' i->Fp p lv fv i∨m.nx<=i
 fz:∀i,Fs fv' i->Fs fv i∨m.nx<=i
def nT.old{lo:Nat}{m:cD}{cw:Int}{fv a:j5}{L:cN}(h:nT lo m d p cw lv fv c a L L')(hi:i<m.nx)(hn:¬ Fp p lv fv i):d.get i=m.get i:=
 h.frr.old i hi (λe=>hn (.inl e)) (λo n e b=>hn (.inr (.inl ⟨o,n,e,b⟩))) λo n e b=>hn (.inr (.inr ⟨o,n,e,b⟩))
def nT.trans{lo:Nat}{m q r:cD}{cw:Int}{fv f g d:j5}{L L2:cN}(h:nT lo m q p cw lv fv f c L L')(k:nT lo q r p cw f c g d L' L2):nT lo m r p cw lv fv g d L L2:=by
 have j:=h.frr.nx;refine⟨⟨dn j k.frr.nx,k.frr.lim.trans h.frr.lim,k.frr.ok,λi b s t u=>?_⟩,k.room,k.grown,k.len,λi b=>?_,λi b=>(k.fz i b).elim (h.fz i) λa=>.inr (dn j a)⟩;have l:¬ Fp p lv fv i:=λa=>by rcases a with e|⟨o,n,e,he⟩|⟨o,n,e,he⟩;exact s e;exact t o n e he;exact u o n e he
 rw[k.old (aP b j) λa=>(h.fp i a).elim l Zs,h.old b l];rcases k.fp i b with a|a;exact h.fp i a;exact .inr (dn j a)
def nT.refl{lo:Nat}{m a:cD}{p:Nat}{cw:Int}{lv fv:j5}{L:cN}(h:aB lo m p cw lv fv (J4 1 L) L)(e:cE m a)(b:Grown L)(d:L.length<=200):nT lo m a p cw lv fv lv fv L L:=
 ⟨⟨e.nx,e.lim,e.ok,λi c _ _ _=>e.old i c⟩,h.ext e,b,d,λ_ h=>.inl h,λ_ h=>.inl h⟩
def acR{r:FR}(h:r.cn=s.cn)(k no:Int):(r.named k no).cn=(s.named k no).cn:=by
 have d:=ci FR.a h;have e:=ci FR.b h;have g:=ci FR.l h;have c:=ci FR.f h
 simp only[FR.cn]at d e g c;simp only[FR.cn,FR.named,d,e,g,D6.mk.injEq]at c ⊢;simp[c]
def uf{r:FR}(h:r.cn=s.cn):r.valid=s.valid:=by rw[← iI,h,iI]
def lK(L:cN)(k:Int)(r:FR):Int:=
 if r.f.room≠0∨r.f.no≠0 then 1 else if 60<=aQ L k∨200<=L.length then 2 else if(r.named k ((aQ L k:Int)+1)).valid=false then 1 else if r.f.known<lastB L k then 4 else 0
def XW{L M:cN}(h:L.map FR.cn=M.map FR.cn)(k:Int)(r:FR):lK L k r=lK M k r:=by unfold lK;rw[AU h,Tx h,show L.length=M.length from by simpa using ci List.length h]
def aj0{lo:Nat}{m:cD}{cw:Int}{fv:j5}{L:cN}(h:aB lo m p cw lv fv (J4 1 L) L)(F:m.Ok){r:FR}(hr:J9 m r)(hs:r.short)(hg:Grown L)(hL:L.length<=200)(n P:Nat)(aw:50001<=P):
   (∃(m':cD),l9 KW P (n+12) (.func 16) [.ptr p 0,.agg r.f.cells] m=some [⟨.tuple [.agg zr,iV (lK L cw r)],m'⟩]∧lK L cw r≠0∧cE m m')∨
   (lK L cw r=0∧∃r2 m' lv' fv' r',l9 KW P (n+12) (.func 16) [.ptr p 0,.agg r.f.cells] m=some [⟨.tuple [.agg r2.f.cells,iZ],m'⟩]∧J9 m' r2∧r2.short∧r2.cn=(r.named cw ((aQ L cw:Int)+1)).cn∧r'.cn=r2.cn∧nT lo m m' p cw lv fv lv' fv' L (L++[r'])):=by
 have J:=h.sG;have hp:=h.at_;have a9:∀{M:cD},cE m M->M.lim<=M.nx:=λE=>by rw[E.lim];exact dn J E.nx
 have E0:=o8 F [j6 r.f.cells,j6 zr];have U:=hr.one;have qa:(ext m [j6 r.f.cells,j6 zr]).get m.nx=some (j6 r.f.cells):=by rw[l8 F];rfl
 have qb:(ext m [j6 r.f.cells,j6 zr]).get (m.nx+1)=some (j6 zr):=by rw[r9 F];rfl
 have R0:=h.ext E0;obtain⟨M1,g1,E1⟩:=Qo E0.ok R0.sG R0.at_ (aV R0.facts) R0.good Zs cw (n+10) P Zs;have E01:=E0.trans E1;have n1:=E1.nx;have R1:=R0.ext E1;have u:=(aV h.facts).len;have t:∀{M:cD},cE m M->m.nx+2<=M.nx->M.get (m.nx+1)=some (j6 zr)->∃N,(∀{β:Type} (k:cD->Option β),storeAt M (m.nx+1) 0 zr k=k N)∧N.get (m.nx+1)=some (j6 zr)∧cE m N:=λ{M} E hn hq=>by obtain⟨N,O,q,X⟩:=fU (vs:=zr) E.ok Zs (by rw[E.lim];omega) hq rfl ZS rfl;exact⟨N,O,q,E.dO X Zs⟩
 have K:M1.get m.nx=some (j6 r.f.cells):=by rw[E1.old _ ZZ];exact qa
 have a1:M1.get (m.nx+1)=some (j6 zr):=by rw[E1.old _ ZZ];exact qb
 have aa:m.nx+2<=M1.nx:=by simpa using n1
 have B:=R1.at_;have A:=R0.at_;by_cases h01:r.f.room≠0∨r.f.no≠0;have s:lK L cw r=1:=cg h01;refine .inl ⟨_,?_,by rw[s];decide,E0⟩;rw[s,en f16];by_cases G:r.f.room=0;have H:¬ r.f.no=0:=λe=>h01.elim (λk=>k G) λk=>k e;simp[f16,ay F J,D8,U,G,H];simp[f16,ay F J,D8,U,G];have G:r.f.room=0:=ajt λe=>h01 (.inl e);have H:r.f.no=0:=ajt λe=>h01 (.inr e);by_cases hc:60<=aQ L cw;have w:(60:Int)<=(aQ L cw:Int):=Zs
 obtain⟨N,O,q1,EN⟩:=t E01 aa a1;have s:lK L cw r=2:=by unfold lK;rw[aE h01,cg (.inl hc)]
 refine .inl ⟨N,?_,by rw[s];decide,EN⟩;rw[s];rw[en f16];simp[f16,ay F J,D8,U,G,H,hp,A,B,g1,hc,w,O,q1];have w:¬ (60:Int)<=(aQ L cw:Int):=Zs
 by_cases hl2:200<=L.length;have j:(200:Int)<=(L.length:Int):=Zs
 obtain⟨N,O,q1,EN⟩:=t E01 aa a1;have s:lK L cw r=2:=by unfold lK;rw[aE h01,cg (.inr hl2)]
 refine .inl ⟨N,?_,by rw[s];decide,EN⟩;rw[s];rw[en f16];simp[f16,ay F J,D8,U,G,H,hp,A,B,g1,hc,w,hl2,j,u,O,q1];have j:¬ (200:Int)<=(L.length:Int):=Zs
 obtain⟨c,M2,g2,E2,W,S⟩:=Wm (R0.ext E1 |> λ_=>E01.ok) (a9 E01) (hr.ext E01) hs (n+9) P Zs;have E02:=E01.trans E2;have n2:=E2.nx;have D:M2.get m.nx=some (j6 r.f.cells):=by rw[E2.old _ Zs];exact K
 have ao:M2.get (m.nx+1)=some (j6 zr):=by rw[E2.old _ Zs];exact a1
 have a0:M2.lim<=m.nx:=by rw[E02.lim];exact J
 obtain⟨N1,O,q3,X1⟩:=fU (vs:=c.f.cells) E02.ok Zs a0 D (by rw[D6.len,D6.len]) (by rw[D6.len];omega) W.one;have k1:=uP (D6.len _) D X1;have R2:=(R1.ext E2).other X1 (D6.len _) D (by have:=h.pn;omega) (λo n e=>⟨λd=>by have:=(U9 h.facts (.inl d)).2.1;omega,λd=>by have:=(U9 h.facts (.inr d)).2.1;omega⟩);obtain⟨N2,s2,q4,X2⟩:=iy (off:=0) X1.ok (by have:=X1.nx;omega) (by rw[X1.lim];exact a0) q3 (by rw[D6.len];omega) (v:=iV cw) rfl;obtain⟨cn,R⟩:∃cn,cn=aQ L cw+1:=⟨_,rfl⟩;have d:=Z5 R Zs;obtain⟨N3,s3,q5,X3⟩:=iy (off:=1) X2.ok (by have:=X1.nx;have:=X2.nx;omega) (by rw[X2.lim,X1.lim];exact a0) q4 ZZ (v:=iV (cn:Int)) rfl;have q5:N3.get m.nx=some (j6 (c.named cw (cn:Int)).f.cells):=q5;have X13:=(X1.trans X2).trans X3;have R3:=(R1.ext E2).other X13 (D6.len _) D (by have:=h.pn;omega) (λo n e=>⟨λd=>by have:=(U9 h.facts (.inl d)).2.1;omega,λd=>by have:=(U9 h.facts (.inr d)).2.1;omega⟩);have am:=uP (D6.len _) D X13;have y:J9 N3 (c.named cw (cn:Int)):=(W.keep am).named cw _ ⟨Zs,Zs⟩;have Z:(c.named cw (cn:Int)).short:=S.short hs;have E3:cE m N3:=E02.dO X13 Zs;have n3:=X13.nx;have ap:N3.get (m.nx+1)=some (j6 zr):=by rw[X13.old _ Zs Zs];exact ao
 obtain⟨M4,g4,E4⟩:=Vy E3.ok (a9 E3) (y.sh Z) n P Zs y.ga y.gb;have E04:=E3.trans E4;have n4:=E4.nx;have R4:=R3.ext E4;have a2:M4.get m.nx=some (j6 (c.named cw (cn:Int)).f.cells):=by rw[E4.old _ Zs];exact q5
 have ab:M4.get (m.nx+1)=some (j6 zr):=by rw[E4.old _ Zs];exact ap
 have ai:=(R1.ext E2).at_;have C:N1.get p=some (j6 [lv,iV cw,fv]):=(X1.old p (by have:=h.pn;omega) (by have:=h.pn;omega)).trans ai;have a7:=y.one;have V:=W.one;have a6:(c.named cw (cn:Int)).cn=(r.named cw ((aQ L cw:Int)+1)).cn:=by rw[R];exact acR S.cn cw _
 have T:=uf a6;have z:¬ (60<=aQ L cw∨200<=L.length):=λe=>e.elim hc hl2;cases hv:fq (c.named cw (cn:Int)).f (c.named cw (cn:Int)).a (c.named cw (cn:Int)).b (c.named cw (cn:Int)).l with
 |false=>
  rw[hv]at g4;obtain⟨N,s6,q7,EN⟩:=t E04 Zs ab;have s:lK L cw r=1:=by unfold lK;rw[aE h01,aE z,cg (T.symm.trans hv)]
  refine .inl ⟨N,?_,by rw[s];decide,EN⟩;rw[s];rw[en f16];simp[f16,ay F J,D8,U,G,H,hp,A,B,g1,hc,w,hl2,j,u,K,g2,V,O,C,d,s2,s3,q5,g4,s6,q7,D6.len]
 |true=>
  rw[hv]at g4;obtain⟨M5,g5,E5⟩:=acp E04.ok R4.sG R4.at_ (aV R4.facts) R4.good Zs cw (n+10) P Zs;have E05:=E04.trans E5;have n5:=E5.nx;have R5:=R4.ext E5;have a3:M5.get m.nx=some (j6 (c.named cw (cn:Int)).f.cells):=by rw[E5.old _ Zs];exact a2
  have ac:M5.get (m.nx+1)=some (j6 zr):=by rw[E5.old _ Zs];exact ab
  have ar:=R3.at_;have a8:=R4.at_;have a5:(c.named cw (cn:Int)).f.known=r.f.known:=(xu S.cn).2.2;have Y:(c.named cw (cn:Int)).f.room=cw:=rfl;have ah:(c.named cw (cn:Int)).f.no=(cn:Int):=rfl;generalize hx:c.named cw (cn:Int)=x at *;by_cases hkl:x.f.known<lastB L cw;obtain⟨N,s6,q8,EN⟩:=t E05 Zs ac;have s:lK L cw r=4:=by unfold lK;rw[aE h01,aE z,aE (by rw[← T,show x.valid=true from hv];decide),cg (by rw[← a5];exact hkl)]
  refine .inl ⟨N,?_,by rw[s];decide,EN⟩;rw[s];rw[en f16];simp[f16,ay F J,D8,U,G,H,hp,A,B,g1,hc,w,hl2,j,u,K,g2,V,O,C,d,s2,s3,q5,g4,a8,g5,a2,a3,hkl,s6,q8,D6.len,G8];have au:=AV L 1 hg.valid;obtain⟨M6,an,ad,r',g6,R6,F6,g,ae,I⟩:=Ww R5 E05.ok ((y.ext E4).ext E5) Z hv Zs Zs (n+5) P Zs;have aj:=Ab g.cn;have af:J4 1 L++iQ ((L.length+1:Nat):Int) (C8 x)=J4 1 (L++[r']):=by rw[oP,aj,as2 1]
  rw[af]at R6;have av:=xu g.cn;have hf:lF L r'=true:=by rw[nR rfl g.cn];unfold lF;rw[Y,ah,R];simp;omega
  have ak:r'.valid=true:=by
   have e:r'.cn.valid=x.cn.valid:=by rw[g.cn]
   rw[iI,iI]at e;rw[e];exact hv
  have n6:=F6.nx;have Q:∀i,i=m.nx∨i=m.nx+1->M6.get i=M5.get i:=λi hi=>F6.old i Zs (by have:=h.pn;omega) (λo n e d=>by have:=(lT h.list d).2.1;omega) (λo n e d=>by have:=(U9 h.facts (.inl d)).2.1;omega);have aq:M6.get m.nx=some (j6 x.f.cells):=(Q _ (.inl rfl)).trans a3;have a4:M6.get (m.nx+1)=some (j6 zr):=(Q _ (.inr rfl)).trans ac;have al:J9 M6 x:=R5.XO F6 ((y.ext E4).ext E5);obtain⟨N7,s7,q9,X7⟩:=fU (vs:=x.f.cells) F6.ok Zs (by rw[F6.lim,E05.lim];omega) a4 (by rw[D6.len];rfl) (by rw[D6.len];omega) a7;have R7:=R6.other X7 rfl a4 (by have:=h.pn;omega) (λo n e=>⟨λd=>by have:=(U9 I (.inl d)).1;omega,λd=>by have:=(U9 I (.inr d)).1;omega⟩);have s:lK L cw r=0:=by unfold lK;rw[aE h01,aE z,aE (by rw[← T,show x.valid=true from hv];decide),aE (by rw[← a5];exact hkl)]
  refine .inr ⟨s,x,N7,an,ad,r',?_,al.keep (uP rfl a4 X7),Z,a6,g.cn,⟨⟨by have:=X7.nx;omega,by rw[X7.lim,F6.lim,E05.lim],X7.ok,λi hi ag H h2=>?_⟩,R7,.snoc hg ak hf,ZD,λi hi=>?_,λi ⟨o,n,e,he⟩=>.inr (by have:=(U9 I (.inr he)).1;omega)⟩⟩;rw[en f16];simp[f16,ay F J,D8,U,G,H,hp,A,B,g1,hc,w,hl2,j,u,K,g2,V,O,C,d,s2,s3,q5,g4,a8,g5,a2,a3,hkl,g6,aq,a7,s7,q9,D6.len,G8];rw[X7.old i Zs Zs,F6.old i Zs ag H h2];exact E05.old i hi;rcases hi with e|⟨o,n,e,he⟩|⟨o,n,e,he⟩;exact .inl (.inl e);exact .inr (by have:=(lT ae he).1;omega);exact .inr (by have:=(U9 I (.inl he)).1;omega)
def Own.down{m g:cD}(h:Own M g v l)(e:cE m M):Own m g v l:=by have:=e.nx;obtain⟨i,f⟩:=h;refine⟨e.trans i,?_⟩;rcases f with f|⟨id,a,b,c,d⟩|⟨id,a,b⟩;exact .inl f;exact .inr (.inl ⟨id,a,b,Zs,d⟩);exact .inr (.inr ⟨id,Zs,b⟩)
def Own.keep{m f N:cD}(h:Own M f v l)(e:cE m N)(hn:m.nx<=M.nx)(g:f.nx<=N.nx)(k:∀i,M.nx<=i->i<f.nx->N.get i=f.get i)(j:N.lim=f.lim:=by first|rfl|simp):Own m N v l:=by refine⟨e,?_⟩;rcases h.2 with h2|⟨id,a,b,c,d⟩|⟨id,a,b,c⟩;exact .inl h2;exact .inr (.inl ⟨id,a,b,Zs,Zs⟩);exact .inr (.inr ⟨id,Zs,b,e.ok,c.fa.same (k id a c.lt),aP c.lt g,by rw[j];exact c.lim,c.good,c.big⟩)
def TD(l:M.Ok)(o:M.lim<=M.nx){fv:j5}{r:FR}(E:au M fv X)(A:∀s∈X,s.Good)(D:r.Good)(z:X.length+1<=200):
   ∃v1 m1 v3 m3,(∀(s y:OF) (cf:G6) (ls:cM) (env:T j5),s ls env=.slice M.nx 0 0 0->y ls env=fv->lu 32 304 s y cf ls env (ext M [.cells 32 0 .e,.void])=some [⟨v1,m1⟩])∧m1.get (M.nx+1)=some .void∧
    (∀(s y:OF) (cf:G6) (ls:cM) (env:T j5),s ls env=v1->y ls env=.slice (M.nx+1) 0 1 1->lu 32 304 s y cf ls env (m1.set (M.nx+1) (j6 r.f.cells))=some [⟨v3,m3⟩])∧cE M m1∧(∀{β:Type} (p:j5->β) (q:β),iK v1 p q=q)∧Own M m3 v3 (X++[r]):=by
 have E1:=o8 l [.cells 32 0 .e,.void];have G:Own M (ext M [.cells 32 0 .e,.void]) (.slice M.nx 0 0 0) []:=⟨E1,.inr (.inl ⟨M.nx,rfl,rfl,aA _,ZZ⟩)⟩;obtain⟨v1,m1,w,g,F⟩:=Ey o G (E.ext E1) A ZD;rw[O9]at g;have m:m1.get (M.nx+1)=some .void:=by rw[F.old _ ZZ (by rw[r9 l];intro _ _ h;cases h),r9 l];rfl
 have k:=cD.Q9 g.1.ok m;have e:j6 r.f.cells=.cells 32 1 (.nd .e r.f.cells .e):=by show Y9.cells (len' r.f.cells) 1 (.nd .e r.f.cells .e)=_;rw[K7,D6.len]
 have X2:bC (M.nx+1) m1 (m1.set (M.nx+1) (j6 r.f.cells)):=⟨cD.Ok.set g.1.ok k _,ZZ,rfl,λj _ C=>by rw[cD.R9 g.1.ok k,aE C]⟩;have v:au (m1.set (M.nx+1) (j6 r.f.cells)) (.slice (M.nx+1) 0 1 1) [r]:=.inr ⟨M.nx+1,.inl ⟨1,rfl⟩,by simp;exact k,.inr ⟨1,.nd .e r.f.cells .e,by rw[cD.R9 g.1.ok k,cg rfl,e],ZZ,λi B=>by
  obtain rfl:i=0:=by simpa using B
  rfl⟩⟩
 have H:Own M (m1.set (M.nx+1) (j6 r.f.cells)) v1 X:=by refine⟨g.1.dO X2 Zs,?_⟩;rcases g.2 with h2|⟨id,a,b,c,d⟩|⟨id,a,b,c⟩;exact .inl h2;exact .inr (.inl ⟨id,a,b,c,d⟩);refine .inr (.inr ⟨id,a,b,X2.ok,c.fa.same (X2.old id c.lt λu=>?_),c.lt,c.lim,c.good,c.big⟩);obtain⟨_,_,J,t,_,n,_⟩:=c.fa;rw[u,m]at n;cases n
 obtain⟨v3,m3,x,I,_⟩:=Ey o H v (by simpa using D) (by simpa using z);exact⟨v1,m1,v3,m3,w,m,x,g.1,g.fs.aL,I⟩
def acS{m:cD}(B:m.Ok)(H:m.lim<=m.nx){fv:j5}{cw:Int}(P:au m fv X)(hw:∀s∈X,J9 m s)(a9:∀s∈X,s.short){r:FR}(hr:J9 m r)(hs:r.short)(hX:X.length<=200)(n K:Nat)(af:50001<=K):
   (∃(m':cD),l9 KW K (n+12) (.func 17) [.agg [iV cw,fv],.agg r.f.cells] m=some [⟨.agg ([iV cw,fv]++zr++[iZ,iV (lK X cw r)]),m'⟩]∧lK X cw r≠0∧cE m m')∨
   (lK X cw r=0∧∃m' fv',l9 KW K (n+12) (.func 17) [.agg [iV cw,fv],.agg r.f.cells] m=some [⟨.agg ([iV cw,fv']++(r.named cw ((aQ X cw:Int)+1)).f.cells++[iZ,iZ]),m'⟩]∧Own m m' fv' (X++[r.named cw ((aQ X cw:Int)+1)])):=by
 obtain⟨g,hz⟩:∃z:cM,z=(zU iZ (nS) iZ iZ):=⟨_,rfl⟩;obtain⟨M0,J⟩:∃M,ext m [j6 [iV cw,fv],j6 r.f.cells,j6 g]=M:=⟨_,rfl⟩;have E0:=o8 B [j6 [iV cw,fv],j6 r.f.cells,j6 g];have lim:∀{M:cD},cE m M->M.lim<=M.nx:=λE=>by rw[E.lim];exact dn H E.nx
 have O:=hr.one;have o:=P.cells;have c:D8 fv=true:=by rcases P with⟨rfl,_⟩|⟨_,⟨_,rfl⟩|rfl,_⟩<;>rfl
 have w:=P.len;have qc:(ext m [j6 [iV cw,fv],j6 r.f.cells,j6 g]).get (m.nx+2)=some (j6 g):=by rw[r9 B];rfl
 have I:(ext m [j6 [iV cw,fv],j6 r.f.cells,j6 g]).get (m.nx+1)=some (j6 r.f.cells):=by rw[r9 B];rfl
 have D:(ext m [j6 [iV cw,fv],j6 r.f.cells,j6 g]).get m.nx=some (j6 [iV cw,fv]):=by rw[l8 B];rfl
 have n0:m.nx+3<=(ext m [j6 [iV cw,fv],j6 r.f.cells,j6 g]).nx:=ZZ
 rw[J]at E0 qc I D n0;have V:=KV (P.ext E0) Zs cw (n+10) K Zs;have y:∀{M:cD} (vs:cM),cE m M->m.nx+3<=M.nx->M.get (m.nx+2)=some (j6 g)->vs.length=36->H8 vs=true->∃N,(∀{β:Type} (k:cD->Option β),storeAt M (m.nx+2) 0 vs k=k N)∧N.get (m.nx+2)=some (j6 vs)∧cE m N∧bC (m.nx+2) M N:=λ{M} vs E hn hq G h2=>by obtain⟨N,t,q,X⟩:=fU (vs:=vs) E.ok Zs (by rw[E.lim];omega) hq (by rw[G,hz];rfl) Zs h2;exact⟨N,t,q,E.dO X Zs,X⟩
 have Q:∀k x,D8 (.int k x)=true:=λ_ _=>rfl;have R:D8 nS=true:=rfl;have aa:H8 zr=true:=ZS
 have oe:∀e:Int,H8 ([iV cw,fv]++zr++[iZ,iV e])=true:=λe=>by rw[bL,bL,aa];simp[bY,c];exact⟨rfl,rfl⟩
 rw[en f17];subst hz;by_cases h01:r.f.room≠0∨r.f.no≠0;have h:lK X cw r=1:=cg h01;obtain⟨N,t,q,EN,_⟩:=y _ E0 n0 qc rfl (oe 1);simp only[zr,agz,O9]at t q;refine .inl ⟨N,?_,by rw[h];decide,EN⟩;rw[h];by_cases F:r.f.room=0;have G:¬ r.f.no=0:=λe=>h01.elim (λk=>k F) λk=>k e;simp[f17,ay B H,Q,R,J,c,O,F,G,o,D,I,t,q];simp[f17,ay B H,Q,R,J,c,O,F,o,D,I,t,q];have F:r.f.room=0:=ajt λe=>h01 (.inl e);have G:r.f.no=0:=ajt λe=>h01 (.inr e);by_cases hc:60<=aQ X cw;have A:(60:Int)<=(aQ X cw:Int):=Zs
 obtain⟨N,t,q,EN,_⟩:=y _ E0 n0 qc rfl (oe 2);simp only[zr,agz,O9]at t q;have h:lK X cw r=2:=by unfold lK;rw[aE h01,cg (.inl hc)]
 refine .inl ⟨N,?_,by rw[h];decide,EN⟩;rw[h];simp[f17,ay B H,Q,R,J,c,O,F,G,o,D,I,t,q,V,A];have A:¬ (60:Int)<=(aQ X cw:Int):=Zs
 by_cases hl2:200<=X.length;have d:(200:Int)<=(X.length:Int):=Zs
 obtain⟨N,t,q,EN,_⟩:=y _ E0 n0 qc rfl (oe 2);simp only[zr,agz,O9]at t q;have h:lK X cw r=2:=by unfold lK;rw[aE h01,cg (.inr hl2)]
 refine .inl ⟨N,?_,by rw[h];decide,EN⟩;rw[h];simp[f17,ay B H,Q,R,J,c,O,F,G,o,D,I,t,q,V,A,d,w];have d:¬ (200:Int)<=(X.length:Int):=Zs
 have L:¬ (60<=aQ X cw∨200<=X.length):=λe=>e.elim hc hl2;obtain⟨N1,t,ac,X1⟩:=iy (off:=0) E0.ok Zs (by rw[E0.lim];omega) I (by rw[D6.len];omega) (v:=iV cw) rfl;obtain⟨j,a6⟩:∃j,j=aQ X cw+1:=⟨_,rfl⟩;have e1:=Z5 a6 Zs;have n1:=X1.nx;obtain⟨N2,s2,S,X2⟩:=iy (off:=1) X1.ok Zs (by rw[X1.lim,E0.lim];omega) ac ZZ (v:=iV (j:Int)) rfl;have S:N2.get (m.nx+1)=some (j6 (r.named cw (j:Int)).f.cells):=S;have X12:=X1.trans X2;have n2:=X12.nx;have F1:=E0.dO X1 Zs;have F2:=E0.dO X12 Zs;have c2:=KV (P.ext F1) Zs cw (n+10) K Zs;have p0:N1.get m.nx=some (j6 [iV cw,fv]):=(X1.old _ Zs Zs).trans D;have ab:N2.get m.nx=some (j6 [iV cw,fv]):=(X12.old _ Zs Zs).trans D;have pc:=(X12.old _ Zs Zs).trans qc;have C:J9 N2 (r.named cw (j:Int)):=(hr.ext F2).named cw _ ⟨Zs,Zs⟩;have a2:(r.named cw (j:Int)).short:=hs;obtain⟨M3,W,E3⟩:=Vv F2.ok (lim F2) (C.sh a2) (n+4) K Zs C.ga C.gb;have F3:=F2.trans E3;have n3:=E3.nx;have U:M3.get m.nx=some (j6 [iV cw,fv]):=(E3.old _ Zs).trans ab;have w1:M3.get (m.nx+1)=some (j6 (r.named cw (j:Int)).f.cells):=(E3.old _ Zs).trans S;have wc:=(E3.old _ Zs).trans pc;have c3:=acr (P.ext F3) Zs cw (n+10) K Zs;have a8:=C.one;have u:(j:Int)=(aQ X cw:Int)+1:=Zs
 cases hv:fq (r.named cw (j:Int)).f (r.named cw (j:Int)).a (r.named cw (j:Int)).b (r.named cw (j:Int)).l with
 |false=>
  rw[hv]at W;obtain⟨N,s3,q3,EN,_⟩:=y _ F3 Zs wc rfl (oe 1);simp only[zr,agz,O9]at s3 q3;have h:lK X cw r=1:=by unfold lK;rw[aE h01,aE L,← u,cg (show(r.named cw (j:Int)).valid=false from hv)]
  refine .inl ⟨N,?_,by rw[h];decide,EN⟩;rw[h];simp[f17,ay B H,Q,R,J,c,O,F,G,o,D,I,V,A,d,w,t,p0,c2,e1,s2,S,W,U,s3,q3]
 |true=>
  rw[hv]at W;have Y:(r.named cw (j:Int)).f.known=r.f.known:=rfl;generalize hxx:r.named cw (j:Int)=x at *;by_cases hkl:x.f.known<lastB X cw;obtain⟨N,s3,q3,EN,_⟩:=y _ F3 Zs wc rfl (oe 4);simp only[zr,agz,O9]at s3 q3;have h:lK X cw r=4:=by unfold lK;rw[aE h01,aE L,← u,hxx,aE (by rw[show x.valid=true from hv];decide),cg (by rw[← Y];exact hkl)]
  refine .inl ⟨N,?_,by rw[h];decide,EN⟩;rw[h];simp[f17,ay B H,Q,R,J,c,O,F,G,o,D,I,V,A,d,w,t,p0,c2,e1,s2,S,W,U,w1,c3,hkl,s3,q3,G8];have h:lK X cw r=0:=by unfold lK;rw[aE h01,aE L,← u,hxx,aE (by rw[show x.valid=true from hv];decide),aE (by rw[← Y];exact hkl)]
  have a3:=C.ext E3;obtain⟨v1,m1,T,m3,ga,gv,gb,Ea,pa,O3⟩:=TD F3.ok (lim F3) (P.ext F3) (λs Z=>((hw s Z).ext F3).good (a9 s Z)) (a3.good a2) Zs;have E4:=O3.1;have n4:=E4.nx;have na:=Ea.nx;have a0:m1.get m.nx=some (j6 [iV cw,fv]):=(Ea.old _ Zs).trans U;have a1:m1.get (m.nx+1)=some (j6 x.f.cells):=(Ea.old _ Zs).trans w1;have y0:(ext M3 [.void,.void]).get m.nx=some (j6 [iV cw,fv]):=by rw[(o8 F3.ok _).old _ Zs];exact U
  have y1:(ext M3 [.void,.void]).get (m.nx+1)=some (j6 x.f.cells):=by rw[(o8 F3.ok _).old _ Zs];exact w1
  have ae:=jy a3;have pv:∀{β:Type} (p:j5->β) (q:β),iK T p q=q:=O3.fs.aL;have a4:D8 T=true:=by rcases O3.fs with⟨rfl,_⟩|⟨_,⟨_,rfl⟩|rfl,_⟩<;>rfl
  have ad:=O3.fs.cells;obtain⟨N5,s5,q5,X5⟩:=iy (off:=1) E4.ok Zs (by rw[E4.lim,F3.lim];exact H) ((E4.old _ Zs).trans U) ZZ (v:=T) a4;have q5:N5.get m.nx=some (j6 [iV cw,T]):=q5;have n5:=X5.nx;have a5:N5.get (m.nx+1)=some (j6 x.f.cells):=(X5.old _ Zs Zs).trans ((E4.old _ Zs).trans w1);have c5:=(X5.old (m.nx+2) Zs Zs).trans ((E4.old _ Zs).trans wc);have F5:=(F3.trans E4).dO X5 (aA _);have ov:H8 ([iV cw,T]++x.f.cells++[iZ,iZ])=true:=by rw[bL,bL,a8];simp[bY,a4];exact⟨rfl,rfl⟩
  obtain⟨N,s6,q6,EN,X6⟩:=y _ F5 Zs c5 (by simp[D6.len]) ov;simp only[agz,O9]at s6 q6;rw[← u,hxx];refine .inr ⟨h,N,T,?_,?_⟩;have b0:∀ls env nid,J2 32 0 zr [] ls env nid=some (.slice nid 0 0 0,some (.cells 32 0 .e)):=λ_ _ _=>rfl;simp[f17,ay B H,Q,R,J,c,O,F,G,o,D,I,V,A,d,w,t,p0,c2,e1,s2,S,W,U,w1,c3,hkl,G8,b0,I5,y0,y1,ae,D6.len,ga,gv,gb,qO F3.ok,l8 F3.ok,r9 F3.ok,a0,a1,pa,pv,ad,s5,q5,a5,s6,q6,P9,D6.len];exact O3.keep EN Zs (by have:=X6.nx;omega) (λi hi a7=>by rw[X6.old i Zs Zs,X5.old i a7 Zs]) (EN.lim.trans ((F3.trans E4).lim.symm))
variable {a:cN}
def acT{m:cD}(E:au m v a)(hb:a.length<=1000)(P:FR->Bool)(g:Nat)(b:cM)(cf:G6)(o:Nat)(C:∀M,cE m M->∀r∈a,∃M',cf (.func g) (.agg r.f.cells::b) M=some [⟨.bool (P r),M'⟩]∧cE M M'):
   ∀(j i:Nat),i+j=a.length->∀(N:Nat),j<N->∀(M:cD),cE m M->∀(a3 a5 a6:j5),
   ((∀t (ht:t<a.length),i<=t->P a[t]=false)∧∃b5 b6 M',I9 (λenv m k=>wS cf o none env m k) N (zV v (iN i) (iN (a.length)) a3 (.func (.func g) [] b) a5 a6 (iN 0)) M []=some [⟨.exit 0,(zV v (iN (a.length)) (iN (a.length)) fV (.func (.func g) [] b) b5 b6 (iN 0)),M',[],none⟩]∧cE m M')∨
   (∃k,∃hk:k<a.length,i<=k∧P a[k]=true∧(∀t (ht:t<a.length),i<=t->t<k->P a[t]=false)∧∃M',I9 (λenv m k=>wS cf o none env m k) N (zV v (iN i) (iN (a.length)) a3 (.func (.func g) [] b) a5 a6 (iN 0)) M []=some [⟨.ret,(zV v (iN k) (iN (a.length)) tV (.func (.func g) [] b) (iN k) tV (iN k)),M',[],none⟩]∧cE m M'):=by
 intro j;induction j with
 |zero=>
  intro i D N A M l a3 a5 a6;obtain⟨N,rfl⟩:=sx N;obtain rfl:i=a.length:=Zs
  refine .inl ⟨λt _ _=>Zs,a5,a6,M,?_,l⟩;rw[o7];simp[wS]
 |succ j ih=>
  intro i D N A M l a3 a5 a6;obtain⟨N,rfl⟩:=sx N;have c:i<a.length:=Zs
  obtain⟨id,u,_,w,_⟩:=(E.ext l).at c;obtain⟨M1,x,E1⟩:=C M l a[i] (ql c);by_cases hp:P a[i]=true;refine .inr ⟨i,c,aA _,hp,λt _ _ _=>Zs,M1,?_,l.trans E1⟩;rw[o7];simp[wS,c,u,w,x,hp];have n:P a[i]=false:=by simpa using hp
  have d:∀R:Option (List Out),I9 (λenv m k=>wS cf o none env m k) N (zV v (iN ((i+1))) (iN (a.length)) tV (.func (.func g) [] b) (iN i) fV (iN 0)) M1 []=R->I9 (λenv m k=>wS cf o none env m k) (N+1) (zV v (iN i) (iN (a.length)) a3 (.func (.func g) [] b) a5 a6 (iN 0)) M []=R:=λR B=>by rw[o7,← B];simp[wS,c,u,w,x,n,I4 (i:=i) Zs]
  have y:∀t (ht:t<a.length),i<=t->(i+1<=t->P a[t]=false)->P a[t]=false:=λt ht q s=>by by_cases e:t=i;subst e;exact n;exact s Zs
  rcases ih (i+1) Zs N Zs M1 (l.trans E1) tV (iN i) fV with⟨q,b5,b6,M',g,X⟩|⟨k,hk,q,s,h3,M',g,X⟩;exact .inl ⟨λt ht h=>y t ht h (q t ht),b5,b6,M',d _ g,X⟩;exact .inr ⟨k,hk,Zs,s,λt ht h z=>y t ht h λp=>h3 t ht p z,M',d _ g,X⟩
def XY{m:cD}{b:cN}(l:m.Ok)(e:au m v b)(hb:b.length<=1000)(P:FR->Bool)(g:Nat)(a:cM)(n d:Nat)(j:2000<=d)(i:∀M,cE m M->∀r∈b,∃M',l9 KW d n (.func g) (.agg r.f.cells::a) M=some [⟨.bool (P r),M'⟩]∧cE M M'):
   ((∀t (ht:t<b.length),P b[t]=false)∧∃m',l9 KW d (n+1) (.func 141) [v,.func (.func g) [] a] m=some [⟨iV (.negSucc 0),m'⟩]∧cE m m')∨
   (∃k,∃hk:k<b.length,P b[k]=true∧(∀t (ht:t<b.length),t<k->P b[t]=false)∧∃m',l9 KW d (n+1) (.func 141) [v,.func (.func g) [] a] m=some [⟨(iN k),m'⟩]∧cE m m'):=by
 have c:=e.len;rcases acT e hb P g a (l9 KW d n) d i b.length 0 Zs d Zs m (cE.refl l) uV uV uV with⟨h1,b5,b6,M',g1,X⟩|⟨k,hk,h1,h2,h3,M',g1,X⟩;refine .inl ⟨λt ht=>h1 t ht Zs,M',?_,X⟩;rw[en f141];simp at g1;simp[f141,c,g1];refine .inr ⟨k,hk,h2,λt ht h=>h3 t ht Zs h,M',?_,X⟩;rw[en f141];simp at g1;simp[f141,c,g1]
def ag5{m:cD}(e:m.Ok)(d:m.lim<=m.nx){x r:FR}(j:x.Good)(i:r.Good)(a:q<m.nx)(c:m.get q=some (j6 r.f.cells))(n b:Nat):
   ∃m',l9 KW b (n+2) (.func 142) [.agg x.f.cells,.ptr q 0] m=some [⟨.bool (x.cO r),m'⟩]∧cE m m':=by
 rw[en f142];have E0:=o8 e [j6 x.f.cells];have lim:∀{M:cD},cE m M->M.lim<=M.nx:=λE=>by rw[E.lim];exact dn d E.nx
 obtain⟨k,g,E1⟩:=Gh E0.ok (lim E0) n b x.f;have E01:=E0.trans E1;have o:(ext m [j6 x.f.cells]).get q=some (j6 r.f.cells):=(E0.old _ a).trans c;have p:k.get q=some (j6 r.f.cells):=(E01.old _ a).trans c;obtain⟨l,h,E2⟩:=Gh E01.ok (lim E01) n b r.f;exact⟨l,by simp[f142,ay e d,D8,g,o,p,c,h,FR.cO,j.rf,i.rf],E01.trans E2⟩
def CV(L:cN)(r:FR):Int×Bool:=
 if r.valid=false then(1,false)else match L.find? (λx=>x.cO r)with
  |some x=>if x.same r=true then(0,false)else(9,false)
  |none=>if(aQ L r.f.room:Int)+1<r.f.no then(0,false)else if lF L r=false then(9,false)else if 200<=L.length then(2,false)else(0,true)
def Qv(L:cN)(r:FR):cN:=if(CV L r).2=true then L++[r]else L
def WE{x y r:FR}(h:x.cn=y.cn):x.same r=y.same r:=by rw[acv];unfold FR.same;rw[AB,AB,h]
def XZ(r:FR):∀{L M:cN},L.map FR.cn=M.map FR.cn->(L.find? (λx=>x.cO r)).map FR.cn=(M.find? (λx=>x.cO r)).map FR.cn
 |[],[],_=>rfl
 |[],_ :: _,h=>by cases h
 |_ :: _,[],h=>by cases h
 |x::L,y::M,h=>by
  simp only[afp,avG]at h;have hn:x.cO r=y.cO r:=by unfold FR.cO;rw[(xu h.1).1,(xu h.1).2.1]
  rw[axO,axO,hn];cases y.cO r with
  |true=>simp[h.1]
  |false=>exact XZ r h.2
def acU{L M:cN}(h:L.map FR.cn=M.map FR.cn)(r:FR):CV L r=CV M r:=by
 have a:=XZ r h;unfold CV;rw[AU h,nR h rfl,show L.length=M.length from by simpa using ci List.length h];cases h1:L.find? (λx=>x.cO r)with
 |none=>
  cases h2:M.find? (λx=>x.cO r)with
  |none=>rfl
  |some y=>rw[h1,h2]at a;cases a
 |some x=>
  cases h2:M.find? (λx=>x.cO r)with
  |none=>rw[h1,h2]at a;cases a
  |some y=>rw[h1,h2]at a;simp only[ag8,iE]at a;simp only[WE a]
def aj1{lo:Nat}{m:cD}{cw:Int}{fv:j5}{L:cN}(h:aB lo m p cw lv fv (J4 1 L) L)(B:m.Ok){r:FR}(u:J9 m r)(hs:r.short)(N:Grown L)(P:L.length<=200)(n v:Nat)(ab:50001<=v):
   ∃m' lv' fv' L',l9 KW v (n+12) (.func 68) [.ptr p 0,.agg r.f.cells] m=some [⟨.tuple [.bool (CV L r).2,iV (CV L r).1],m'⟩]∧nT lo m m' p cw lv fv lv' fv' L L'∧L'.map FR.cn=(Qv L r).map FR.cn:=by
 have D:=h.sG;have y:∀{M:cD},cE m M->M.lim<=M.nx:=λE=>by rw[E.lim];exact dn D E.nx
 have hp:=h.at_;have E0:=o8 B [j6 r.f.cells];have R0:=h.ext E0;have R:=u.good hs;have q0:(ext m [j6 r.f.cells]).get m.nx=some (j6 r.f.cells):=by rw[l8 B];rfl
 obtain⟨M1,z,E1⟩:=Vy E0.ok (y E0) ((u.ext E0).sh hs) n v Zs u.ga u.gb;have E01:=E0.trans E1;have C:M1.get m.nx=some (j6 r.f.cells):=(E1.old _ ZZ).trans q0;have n1:m.nx+1<=M1.nx:=by have:=E1.nx;simpa using this
 have R1:=R0.ext E1;rw[en f68];cases hv:fq r.f r.a r.b r.l with
 |false=>rw[hv]at z;have e:CV L r=(1,false):=cg hv;refine⟨M1,lv,fv,L,?_,nT.refl h E01 N P,by unfold Qv;rw[e];rfl⟩;rw[e];simp[f68,ay B D,D8,u.one,z]
 |true=>
  rw[hv]at z;have X:¬ r.valid=false:=by rw[show r.valid=true from hv];decide
  have q:=R1.at_;have a7:=aV R1.facts;have hc:∀M,cE M1 M->∀s∈L,∃M',l9 KW v (n+10) (.func 142) (.agg s.f.cells :: [.ptr m.nx 0]) M=some [⟨.bool (s.cO r),M'⟩]∧cE M M':=λM E s a4=>ag5 E.ok (y (E01.trans E)) (h.good s a4) R (aP Zs E.nx) ((E.old _ Zs).trans C) (n+8) v
  rcases XY E01.ok a7 Zs (λs=>s.cO r) 142 [.ptr m.nx 0] (n+10) v Zs hc with⟨h2,M2,g2,E2⟩|⟨k,hk,h2,h3,M2,g2,E2⟩;have K:L.find? (λx=>x.cO r)=none:=by rw[List.find?_eq_none];intro x hx;obtain⟨t,ht,rfl⟩:=agB hx;simp[h2 t ht]
  have E02:=E01.trans E2;have R2:=R1.ext E2;have G:M2.get m.nx=some (j6 r.f.cells):=(E2.old _ Zs).trans C;have n2:=E2.nx;have g:¬ (0:Int)<=Int.negSucc 0:=ZS
  have d:=R2.at_;obtain⟨M3,H,E3⟩:=Qo E02.ok (y E02) R2.at_ (aV R2.facts) R2.good Zs r.f.room (n+10) v Zs;have E03:=E02.trans E3;have R3:=R2.ext E3;have Y:M3.get m.nx=some (j6 r.f.cells):=(E3.old _ Zs).trans G;have n3:=E3.nx;have ac:=R3.at_;obtain⟨c,a3⟩:∃c,c=aQ L r.f.room+1:=⟨_,rfl⟩;have aa:aQ L r.f.room<=1000:=by have:=aiC (λs:FR=>decide (s.f.room=r.f.room)) L;unfold aQ;omega
  have Z:=Z5 a3 Zs;have a2:(aQ L r.f.room:Int)+1=(c:Int):=Zs
  have e:CV L r=(if(aQ L r.f.room:Int)+1<r.f.no then(0,false)else if lF L r=false then(9,false)else if 200<=L.length then(2,false)else(0,true)):=by unfold CV;rw[aE X,K]
  rw[a2]at e;by_cases h4:(c:Int)<r.f.no;rw[cg h4]at e;refine⟨M3,lv,fv,L,?_,nT.refl h E03 N P,by unfold Qv;rw[e];rfl⟩;rw[e];simp[f68,ay B D,D8,u.one,z,C,q,g2,g,G,d,H,Y,Z,h4,G8];rw[aE h4]at e;obtain⟨M4,g4,E4⟩:=acs E03.ok (y E03) R3.pn R3.at_ (aV R3.facts) R3.good Zs (r:=r) (n+9) v Zs;have E04:=E03.trans E4;have R4:=R3.ext E4;have q4:M4.get m.nx=some (j6 r.f.cells):=(E4.old _ Zs).trans Y;have n4:=E4.nx;have T:=R4.at_;have F:=(aV h.facts).len;by_cases h5:lF L r=false;rw[cg h5]at e;refine⟨M4,lv,fv,L,?_,nT.refl h E04 N P,by unfold Qv;rw[e];rfl⟩;rw[e];simp[f68,ay B D,D8,u.one,z,C,q,g2,g,G,d,H,Y,Z,h4,G8,g4,h5];have I:lF L r=true:=by simpa using h5
  rw[aE h5]at e;by_cases h6:200<=L.length;have J:(200:Int)<=(L.length:Int):=Zs
  rw[cg h6]at e;refine⟨M4,lv,fv,L,?_,nT.refl h E04 N P,by unfold Qv;rw[e];rfl⟩;rw[e];simp[f68,ay B D,D8,u.one,z,C,q,g2,g,G,d,H,Y,Z,h4,G8,g4,I,T,F,J];have J:¬ (200:Int)<=(L.length:Int):=Zs
  rw[aE h6]at e;have a9:=AV L 1 N.valid;obtain⟨M5,a8,a0,r',g5,R5,F5,A,a1,Q⟩:=Ww R4 E04.ok (u.ext E04) hs hv Zs Zs (n+5) v Zs;have a5:=Ab A.cn;rw[← a5,as2 L.length 1,← oP]at R5;have hf:lF L r'=true:=by rw[nR rfl A.cn];exact I
  have a6:r'.valid=true:=by rw[uf A.cn];exact hv
  have n5:=F5.nx;refine⟨M5,a8,a0,L++[r'],?_,⟨⟨Zs,by rw[F5.lim,E04.lim],F5.ok,λi hi a b c=>(F5.old i Zs a b c).trans (E04.old i hi)⟩,R5,.snoc N a6 hf,ZD,λi hi=>?_,λi ⟨o,n,e,he⟩=>.inr (by have:=(U9 Q (.inr he)).1;omega)⟩,by unfold Qv;rw[e];simp[A.cn]⟩;rw[e];simp[f68,ay B D,D8,u.one,z,C,q,g2,g,G,d,H,Y,Z,h4,G8,g4,I,T,F,J,q4,g5];rcases hi with e|⟨o,n,e,he⟩|⟨o,n,e,he⟩;exact .inl (.inl e);exact .inr (by have:=(lT a1 he).1;omega);exact .inr (by have:=(U9 Q (.inl he)).1;omega);have K:L.find? (λx=>x.cO r)=some L[k]:=by rw[axb];exact⟨h2,k,hk,rfl,λj hj=>by simp[h3 j Zs hj]⟩
  have e:CV L r=(if L[k].same r=true then(0,false)else(9,false)):=by unfold CV;rw[aE X,K]
  have E02:=E01.trans E2;have R2:=R1.ext E2;have G:M2.get m.nx=some (j6 r.f.cells):=(E2.old _ Zs).trans C;have n2:=E2.nx;obtain⟨id,c1,_,c2,_⟩:=(aV R2.facts).at hk;have d:=R2.at_;have O:=ql hk;obtain⟨M3,H,E3⟩:∃M3,l9 KW v (n+11) (.func 138) [.agg L[k].f.cells,.agg r.f.cells] M2=some [⟨.bool (L[k].same r),M3⟩]∧cE M2 M3:=⟨_,Xn E02.ok (y E02) ((R2.w _ O).sh (R2.sh _ O)) ((u.ext E02).sh hs) (n+8) v Zs,o8 E02.ok _⟩;refine⟨M3,lv,fv,L,?_,nT.refl h (E02.trans E3) N P,by unfold Qv;rw[e];split<;>rfl⟩
  rw[e];have S:(0:Int)<=(k:Int):=Zs
  have W:=(R2.good _ O).rf;have U:=R.rf;by_cases hss:L[k].same r=true;simp[f68,ay B D,D8,u.one,z,C,q,g2,S,G,d,c1,c2,H,hss,W,U];have V:L[k].same r=false:=by simpa using hss
  simp[f68,ay B D,D8,u.one,z,C,q,g2,S,G,d,c1,c2,H,V,W,U]
def Bl(v:j5)(i:Nat):Prop:=(∃o l c,v=.slice i o l c)∨∃o l e,v=.sliceU i o l e
def au.tQ{m a:cD}{fs:cN}(h:au m v fs)(hn:m.nx<=a.nx)(b:∀i,i<m.nx->Bl v i->a.get i=m.get i):au a v fs:=by rcases h with h|⟨id,h1,h2,h3⟩;exact .inl h;refine .inr ⟨id,h1,aP h2 hn,?_⟩;rw[b id h2 (h1.elim (λ⟨c,h⟩=>.inl ⟨_,_,_,h⟩) λh=>.inr ⟨_,_,_,h⟩)];exact h3
def nT.fs{lo:Nat}{m c:cD}{p:Nat}{cw:Int}{lv fv b a:j5}{L L':cN}(h:nT lo m c p cw lv fv b a L L'){v:j5}{fs:cN}(f:au m v fs)(hb:∀i,Bl v i->¬ Fp p lv fv i):au c v fs:=
 f.tQ h.frr.nx λi e d=>h.old e (hb i d)
def nT.bl{lo:Nat}{m e:cD}{cw:Int}{fv a:j5}{L:cN}(h:nT lo m e p cw lv fv b a L L')(hn:∀i,Bl v i->i<m.nx)(hb:∀i,Bl v i->¬ Fp p lv fv i):∀i,Bl v i->¬ Fp p b a i:=
 λi c d=>(h.fp i d).elim (hb i c) (by have:=hn i c;omega)
def au.bl{m:cD}(h:au m v a):∀i,Bl v i->i<m.nx:=λi b=>by rcases h with⟨rfl,_⟩|⟨id,⟨c,rfl⟩|rfl,h2,_⟩<;>rcases b with⟨_,_,_,e⟩|⟨_,_,_,e⟩<;>cases e<;>exact h2
def takeB:cN->cN->Nat->Int×Nat×cN
 |L,[],n=>(0,n,L)
 |L,r::rs,n=>if(CV L r).1≠0 then((CV L r).1,0,L)else takeB (Qv L r) rs (if(CV L r).2=true then n+1 else n)
def aj2{L:cN}{r:FR}(h:(CV L r).2=true):(CV L r).1=0:=by
 unfold CV at h ⊢;split at h<;>(try cases h)
 rename_i a;rw[aE a];split at h;split at h<;>cases h
 ·repeat' (split at h<;>try cases h)
  rename_i e b c d;rw[aE b,aE c,aE d]
def aj3{L M:cN}(h:L.map FR.cn=M.map FR.cn)(r:FR):(Qv L r).map FR.cn=(Qv M r).map FR.cn:=by unfold Qv;rw[acU h];split;simp[h];exact h
def La:∀(rs:cN) {L M:cN} (n:Nat),L.map FR.cn=M.map FR.cn->(takeB L rs n).1=(takeB M rs n).1∧(takeB L rs n).2.1=(takeB M rs n).2.1∧(takeB L rs n).2.2.map FR.cn=(takeB M rs n).2.2.map FR.cn
 |[],_,_,_,h=>⟨rfl,rfl,h⟩
 |r::rs,L,M,n,h=>by rw[takeB,takeB,acU h];split;exact⟨rfl,rfl,h⟩;exact La rs _ (aj3 h r)
def ag6{lo:Nat}{o:cD}{cw:Int}{e:j5}{w:cN}(H:o.lim<=o.nx)(U:au o v a)(T:∀r∈a,J9 o r)(hs:∀r∈a,r.short)(hb:a.length<=1000)(E:∀i,Bl v i->¬ Fp p e c i)(A:aB lo o p cw e c (J4 1 w) w)(n y:Nat)(F:50001<=y):
   ∀(j i:Nat),i+j=a.length->∀(N:Nat),j<N->∀(M:cD) (lv fv:j5) (L:cN),nT lo o M p cw e c lv fv w L->∀(q:Nat),q<=i->∀(a3 b6 e7 b8 b9 b10:j5),
   ∃x c3 c6 c7 c8 c9 c10 nn r12 r13 M' lv' fv' L',I9 (λenv m k=>Ki (l9 KW y (n+12)) y none env m k) N (aia v (iN i) (iN (a.length)) a3 v (.ptr p 0) b6 e7 b8 b9 b10 (iN q) (iN 0) (iN 0)) M []=some [⟨x,(aia v c6 (iN (a.length)) c3 v (.ptr p 0) c7 c8 c9 c10 r12 (iN nn) (iN 0) (iV r13)),M',[],none⟩]∧nT lo o M' p cw e c lv' fv' w L'∧L'.map FR.cn=(takeB L (a.drop i) q).2.2.map FR.cn∧
    (((takeB L (a.drop i) q).1=0∧x=.exit 0∧r13=0∧nn=(takeB L (a.drop i) q).2.1)∨((takeB L (a.drop i) q).1≠0∧x=.ret∧r13=(takeB L (a.drop i) q).1∧(takeB L (a.drop i) q).2.1=0)):=by
 intro j;induction j with
 |zero=>
  intro i R N Q M lv fv L T0 q S a3 b6 e7 b8 b9 b10;obtain⟨N,rfl⟩:=sx N;obtain rfl:i=a.length:=Zs
  rw[su (aA _)];refine⟨.exit 0,fV,(iN (a.length)),b6,e7,b8,b9,q,b10,0,M,lv,fv,L,?_,T0,rfl,.inl ⟨rfl,rfl,rfl,rfl⟩⟩;rw[o7];simp[Ki]
 |succ j ih=>
  intro i R N Q M lv fv L T0 q S a3 b6 e7 b8 b9 b10;obtain⟨N,rfl⟩:=sx N;have b:i<a.length:=Zs
  have z:=T0.frr.ok;have G:M.lim<=M.nx:=by rw[T0.frr.lim];exact dn H T0.frr.nx
  obtain⟨id,B,_,C,_⟩:=(T0.fs U E).at b;have t:=ql b;have O:=A.XO T0.frr (T _ t);have E0:=o8 z [j6 a[i].f.cells];obtain⟨M1,u,s,L1,D,T1,J⟩:=aj1 (T0.room.ext E0) E0.ok (O.ext E0) (hs _ t) T0.grown T0.len n y F;have T01:=T0.trans ((nT.refl T0.room E0 T0.grown T0.len).trans T1);have I:=O.one;rw[zu b,takeB];by_cases he:(CV L a[i]).1=0;rw[aE (λh=>h he)];have l:=La (a.drop (i+1)) (if(CV L a[i]).2=true then q+1 else q) J;obtain⟨x,c3,c6,c7,c8,c9,c10,nn,r12,r13,M',lv',fv',L',g,T2,P,K⟩:=ih (i+1) Zs N Zs M1 u s L1 T01 (if(CV L a[i]).2=true then q+1 else q) (by split<;>omega) tV (.ptr M.nx 0) iZ fV (.bool (CV L a[i]).2) (.bool (CV L a[i]).2)
  rw[l.1,l.2.1]at K;refine⟨x,c3,c6,c7,c8,c9,c10,nn,r12,r13,M',lv',fv',L',?_,T2,P.trans l.2.2,K⟩;rw[o7,← g];cases d:(CV L a[i]).2 with
  |true=>simp[Ki,ay z G,D8,b,B,C,I,D,he,d,I4 (i:=i) Zs,I4 (i:=q) Zs]
  |false=>simp[Ki,ay z G,D8,b,B,C,I,D,he,d,I4 (i:=i) Zs]
  rw[cg he];refine⟨.ret,tV,(iN i),.ptr M.nx 0,iV (CV L a[i]).1,tV,.bool (CV L a[i]).2,q,b10,(CV L a[i]).1,M1,u,s,L1,?_,T01,?_,.inr ⟨he,rfl,rfl,rfl⟩⟩;rw[o7];simp[Ki,ay z G,D8,b,B,C,I,D,he];rw[J];unfold Qv;split;rename_i d;exfalso;exact he (aj2 d);rfl
def aj4{lo:Nat}{m:cD}{cw:Int}{fv:j5}{L:cN}(h:aB lo m p cw lv fv (J4 1 L) L)(s:m.Ok)(k:au m v a)(t:∀r∈a,J9 m r)(hs:∀r∈a,r.short)(hb:a.length<=1000)(d:∀i,Bl v i->¬ Fp p lv fv i)(q:Grown L)(o:L.length<=200)(n c:Nat)(e:50001<=c):
   ∃m' lv' fv' L',l9 KW c (n+13) (.func 19) [.ptr p 0,v] m=some [⟨.tuple [(iN ((takeB L a 0).2.1)),iV (takeB L a 0).1],m'⟩]∧nT lo m m' p cw lv fv lv' fv' L L'∧L'.map FR.cn=(takeB L a 0).2.2.map FR.cn:=by
 have b:=k.len;obtain⟨x,y,z,A,B,C,l,D,u,w,M',lv',fv',L',g,T2,f,j⟩:=ag6 h.sG k t hs hb d h n c e a.length 0 Zs c Zs m lv fv L (nT.refl h (cE.refl s) q o) 0 (aA _) uV uV uV uV uV uV;rw[W9]at f j;refine⟨M',lv',fv',L',?_,T2,f⟩;rw[en f19];simp at g;rcases j with⟨h4,rfl,rfl,h5⟩|⟨h4,rfl,rfl,h5⟩;rw[h4,← h5];simp[f19,b,g];rw[h5];simp[f19,b,g]
def ag7{r:FR}(D:au M v a)(hb:a.length<=1000)(I:∀x∈a,x.Good)(C:M.get q=some (j6 r.f.cells))(cf:G6)(s:Nat):
   ∀(j i:Nat),i+j=a.length->∀(N:Nat),j<N->∀(a3 a5:j5),
   ((∀t (ht:t<a.length),i<=t->a[t].cO r=false)∧∃b5,I9 (λenv m k=>BD cf s none env m k) N (zV (.agg r.f.cells) (iN i) v a3 (.ptr q 0) a5 (.ptr (q+1) 0) fV) M []=some [⟨.exit 0,(zV (.agg r.f.cells) (iN (a.length)) v fV (.ptr q 0) b5 (.ptr (q+1) 0) fV),M,[],none⟩])∨
   (∃k,∃hk:k<a.length,i<=k∧a[k].cO r=true∧(∀t (ht:t<a.length),i<=t->t<k->a[t].cO r=false)∧∀(M':cD),(∀{β:Type} (K:cD->Option β),storeAt M (q+1) 0 a[k].f.cells K=K M')->I9 (λenv m k=>BD cf s none env m k) N (zV (.agg r.f.cells) (iN i) v a3 (.ptr q 0) a5 (.ptr (q+1) 0) fV) M []=some [⟨.ret,(zV (.agg r.f.cells) (iN k) v tV (.ptr q 0) tV (.ptr (q+1) 0) tV),M',[],none⟩]):=by
 intro j;induction j with
 |zero=>
  intro i J N G a3 a5;obtain⟨N,rfl⟩:=sx N;obtain rfl:i=a.length:=Zs
  refine .inl ⟨λt _ _=>Zs,a5,?_⟩;have b:=D.len;rw[o7];simp[BD,b]
 |succ j ih=>
  intro i J N G a3 a5;obtain⟨N,rfl⟩:=sx N;have c:i<a.length:=Zs
  have b:=D.len;obtain⟨id,u,_,w,y,z,_⟩:=D.at c;have L:=(I _ (ql c)).one;by_cases hp:a[i].cO r=true;have B:a[i].f.room=r.f.room∧a[i].f.no=r.f.no:=by simpa[FR.cO]using hp
  refine .inr ⟨i,c,aA _,hp,λt _ _ _=>Zs,λM' n=>?_⟩;rw[o7];simp[BD,b,c,u,w,y,z,C,B,G8,n,D6.len];have p:a[i].cO r=false:=by simpa using hp
  have d:∀b5:j5,(∀R:Option (List Out),I9 (λenv m k=>BD cf s none env m k) N (zV (.agg r.f.cells) (iN ((i+1))) v tV (.ptr q 0) fV (.ptr (q+1) 0) fV) M []=R->I9 (λenv m k=>BD cf s none env m k) (N+1) (zV (.agg r.f.cells) (iN i) v a3 (.ptr q 0) a5 (.ptr (q+1) 0) fV) M []=R):=λ_ R H=>by
   rw[o7,← H];by_cases l:a[i].f.room=r.f.room;have o:¬ a[i].f.no=r.f.no:=λe=>by simp[FR.cO,l,e]at p
   simp[BD,b,c,u,w,y,z,C,l,o,G8,I4 (i:=i) Zs];simp[BD,b,c,u,w,y,z,C,l,G8,I4 (i:=i) Zs]
  have E:∀t (ht:t<a.length),i<=t->(i+1<=t->a[t].cO r=false)->a[t].cO r=false:=λt ht l o=>by by_cases e:t=i;subst e;exact p;exact o Zs
  rcases ih (i+1) Zs N Zs tV fV with⟨l,b5,g⟩|⟨k,hk,l,o,h3,g⟩;exact .inl ⟨λt ht h=>E t ht h (l t ht),b5,d uV _ g⟩;exact .inr ⟨k,hk,Zs,o,λt ht h F=>E t ht h λA=>h3 t ht A F,λM' n=>d uV _ (g M' n)⟩
def aj5{m:cD}(d:m.Ok)(i:m.lim<=m.nx){r:FR}(e:au m v a)(hb:a.length<=1000)(h:∀x∈a,x.Good)(q:r.Good)(n b:Nat)(o:2000<=b):
   (∃m',(a.find? λx=>x.cO r)=none∧l9 KW b (n+1) (.func 69) [v,.agg r.f.cells] m=some [⟨.tuple [.agg zr,fV],m'⟩]∧cE m m')∨
   (∃x m',x∈a∧(a.find? λx=>x.cO r)=some x∧l9 KW b (n+1) (.func 69) [v,.agg r.f.cells] m=some [⟨.tuple [.agg x.f.cells,tV],m'⟩]∧cE m m'):=by
 have E0:=o8 d [j6 r.f.cells,j6 zr];have u:(ext m [j6 r.f.cells,j6 zr]).get m.nx=some (j6 r.f.cells):=by rw[l8 d];rfl
 have w:(ext m [j6 r.f.cells,j6 zr]).get (m.nx+1)=some (j6 zr):=by rw[r9 d];rfl
 have l:=q.one;rcases ag7 (e.ext E0) hb h u (l9 KW b n) b a.length 0 Zs b Zs uV uV with⟨h1,b5,g⟩|⟨k,hk,h1,h2,h3,g⟩;refine .inl ⟨_,?_,?_,E0⟩;rw[List.find?_eq_none];intro x e;obtain⟨t,s,rfl⟩:=agB e;simp[h1 t s Zs];rw[en f69];simp at g;simp[f69,ay d i,D8,l,g];have c:=ql hk;obtain⟨N,z,y,X⟩:=fU (vs:=a[k].f.cells) E0.ok ZZ ZD w (by rw[D6.len];rfl) (by rw[D6.len];omega) (h _ c).one;have g:=g N z;refine .inr ⟨a[k],N,c,?_,?_,E0.dO X Zs⟩;rw[axb];exact⟨h2,k,hk,rfl,λj p=>by simp[h3 j Zs Zs p]⟩;rw[en f69];simp at g;simp[f69,ay d i,D8,l,g,y]
end Go.Proofs.YtpmfjipaheolgaaGreatDoor.TT
