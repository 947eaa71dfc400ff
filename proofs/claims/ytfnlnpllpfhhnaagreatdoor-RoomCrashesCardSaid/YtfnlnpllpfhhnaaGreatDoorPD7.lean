/- The law RoomCrashes walked: it answers true; conditions: the memory holds what the arguments say. -/
import Derived.Test.YtfnlnpllpfhhnaaGreatDoorPD6
set_option linter.all false
namespace Go.Proofs.YtfnlnpllpfhhnaaGreatDoor.TT
open Go Go.AM
set_option maxRecDepth 100000
set_option maxHeartbeats 8000000
noncomputable section
def z6:T (List d9):=T.rep [iV (.ofNat 0)] 6 .e 0
theorem alH {a b c:Mem}(e:Ext a b)(h:Fr a.nx a.nx b c):Ext a c:=⟨h.ok,zu e.nx h.nx,h.lim.trans e.lim,λi d=>(h.old i d (by omega)).trans (e.old i d)⟩
theorem rJ {lo:Nat}{m:Mem}{v:d9}{l:List By}(h:jD lo m v l):dV m v (strs l):=by
 rcases h with⟨rfl,rfl⟩ | ⟨id,t,c,h1,h2,h3,rfl,h4,h5,h6,h7⟩;exact .inl ⟨rfl,rfl⟩;refine .inr ⟨id,0,.inr (by rw [J3]),h2,.inr ⟨l.length,t,h4,by rw [J3];omega,λi b=>?_⟩⟩;have a:i<l.length:=by rwa [J3] at b
 rw [S9,h7 i a];simp [strs]
theorem alI {lo:Nat}{m:Mem}{v:d9}{D:List By}(u:m.Ok)(I:m.lim<=m.nx)(j:jD lo m v D)(hb:D.length<=50000)(n x:Nat):
  ∃v' m',l8 KW x (n+1) (.func 67) [v] m=some [⟨v',m'⟩]∧Ext m m'∧jD m.nx m' v' D:=by
 rw [enter (sf:=f67) rfl rfl];rcases j with⟨rfl,rfl⟩ | ⟨id,t,c,h1,h2,h3,rfl,h4,h5,h6,h7⟩;refine⟨nS,m,?_,Ext.refl u,.inl ⟨rfl,rfl⟩⟩;have e:bR nS nS=some true:=rfl;simp [f67,w9,x9,D6,e];have j:dV m (.sliceU id 0 D.length 1) (strs D):=rJ (.inr ⟨id,t,c,h1,h2,h3,rfl,h4,h5,h6,h7⟩);have A:∀z h f nid,U4 1 0 z [] h f nid=some (.slice nid 0 0 0,some (.cells 1 0 (T.ofList []))):=λ_ _ _ _=>rfl;have E:=C8 u [.cells 1 0 (T.ofList [])];have w:=j.ext E;have q:=w.lenOf;have r:=w.read;rw [J3] at q r;have J:=acC.2 h3;obtain⟨k,H⟩:∃k,D.length=k+1:=⟨D.length-1,by omega⟩;obtain⟨g,_⟩:=uX (lo:=m.nx) E.ok E.nx (strs D) (xJ D);have B:=JC E.ok h3;have i:∀(s y:OF) (p:H8) (h:List d9) (f:T d9),s h f=.slice m.nx 0 0 0->y h f=.sliceU id 0 D.length 1->sQ 1 16 s y p h f (ext m [.cells 1 0 (T.ofList [])])=grown (ext m [.cells 1 0 (T.ofList [])]) 1 (strs D).length (strs D):=λs y p h f C F=>by show ob (AM.lenOf (y h f)) (λn=>ob (bS _ 1 n (y h f)) λl=>oz _ 1 16 n l (s h f))=_;rw [F,C,q,I7,r,I7];show ji _ 1 16 D.length (strs D) m.nx 0 0 0=_;unfold ji;have G:Nat.add 0 D.length=D.length:=S9 _;rw [G,show Nat.ble D.length 0=false from adj.2 λe=>by have:=M8 e;omega,aJ,FM (by omega) ⟨by omega,by omega⟩,Z6];show ob (some ([]:List d9)) (λo=>grown _ 1 D.length (bU o (strs D)))=_;rw [I7,U9,adl,J3]
 rw [g] at i;refine⟨_,_,?_,E.trans ((Ext.refl E.ok).new _),EX B E.nx⟩;have e:∀a b c d,bR (.sliceU a b c d) nS=some false:=λ_ _ _ _=>rfl;simp only [w9] at i;simp [f67,w9,x9,D6,e,A,i]
theorem JE {lo:Nat}{m:Mem}{p:Nat}{rid:Int}{f c:d9}{D:List By}{L:List FR}(h:bf lo m p rid f c D L)(d:m.Ok)(hb:D.length<=50000)(n a:Nat):∃v' m',l8 KW a (n+2) (.func 27) [.ptr p 0] m=some [⟨v',m'⟩]∧Ext m m'∧jD m.nx m' v' D:=by obtain⟨v',m',g,E,b⟩:=alI d h.wh h.list hb n a;refine⟨v',m',?_,E,b⟩;have e:=h.at_;rw [enter (sf:=f27) rfl rfl];simp [f27,w9,x9,D6,e,g,b.dD]
theorem Uu {lo:Nat}{m:Mem}{p:Nat}{rid:Int}{B s:d9}{D:List By}{L:List FR}(h:bf lo m p rid B s D L)(y:m.Ok)(hb:L.length<=200)(n f:Nat)(x:20000<=f):
  ∃v' m' l' cs,l8 KW f (n+209) (.func 26) [.ptr p 0] m=some [⟨v',m'⟩]∧Ext m m'∧Dd L l'∧fJ m' v' cs∧cs.length=l'.length∧CpP l' cs∧(∀c,c∈cs->V3 m' c)∧l'.length<=200∧(cs≠[]->∃i,v'=.sliceU i 0 cs.length 32):=by
 obtain⟨G,F,l',t,g,o⟩:=alz y h.wh (rH h.facts) h.good hb n f (by omega);have E1:=g.1;have a:l'.length<=200:=by obtain⟨_,⟨_,e⟩ | ⟨_,_,e,_⟩ | ⟨_,_,_,v⟩⟩:=g;rw [e];simp;rw [e];simp;exact v.big
 obtain⟨E,C,cs,u,j,b,k,A⟩:=alA (l:=l') E1.ok (by rw [E1.lim];exact zu h.wh E1.nx) g.fs (λr q=>(h.w r (o.sub r q)).ext E1) (λr q=>h.sh r (o.sub r q)) a (n+205) f (by omega);refine⟨E,C,l',cs,?_,E1.trans j.1,o,j.fs,b,k,A,a,λd=>?_⟩
 rotate_left
 obtain⟨_,⟨_,e⟩ | ⟨_,_,e,_⟩ | ⟨i,_,e,_⟩⟩:=j;exact absurd e d;exact absurd e d;exact⟨i,e⟩;have z:=h.at_;rw [enter (sf:=f26) rfl rfl];simp [f26,w9,x9,D6,z,t,g.fs.dD,u,j.fs.dD]
def acK (k:Int)(h:Int)(r:FR):Bool:=decide (r.f.room=k)&&decide (h<r.f.no)
theorem Xm {x y:d9}{cs us:List FR}(D:cs.length=us.length)(S:cs.length<=1000)(a:∀i (h:i<cs.length)(h':i<us.length),cs[i].same us[i]=true)(E:∀r,r∈cs->r.short)(F:∀r,r∈us->r.short)(B d:Nat)(u:20000<=d)(G:d9):
  ∀(s i:Nat),i+s=cs.length->∀(N:Nat),s<N->∀(M:Mem),M.Ok->fJ M x cs->fJ M y us->(∀r,r∈cs->V3 M r)->(∀r,r∈us->V3 M r)->∀(y4 y5 y6:d9),
   ∃z5 z6 M',T9 (λenv m k=>Qt (l8 KW d (B+3)) d none env m k) N (Vl x y G (iN i) y4 y5 y6 fV) M []=some [⟨.exit 0,(Vl x y G (iN (cs.length)) fV z5 z6 fV),M',[],none⟩]∧Ext M M':=by
 intro s;induction s with
 | zero=>
  intro i P N O M j e w o t y4 y5 y6;obtain⟨N,rfl⟩:∃M,N=M+1:=⟨N-1,by omega⟩;obtain rfl:i=cs.length:=by omega
  have A:=e.len;refine⟨y5,y6,M,?_,Ext.refl j⟩;rw [o9];simp [Qt,A]
 | succ s ih=>
  intro i P N O M j e w o t y4 y5 y6;obtain⟨N,rfl⟩:∃M,N=M+1:=⟨N-1,by omega⟩;have A:=e.len;have b:i<cs.length:=by omega
  have c:i<us.length:=by omega
  obtain⟨p,J,T,K,_⟩:=e.at b;obtain⟨q,H,U,I,_⟩:=w.at c;have l:=M7 b;have n:=M7 c;obtain⟨M1,C,E1⟩:∃M1,l8 KW d (B+3) (.func 13) [.agg cs[i].f.cells,.agg us[i].f.cells] M=some [⟨.bool (cs[i].same us[i]),M1⟩]∧Ext M M1:=⟨_,al4 j ((o _ l).sh (E _ l)) ((t _ n).sh (F _ n)) B d u,C8 j _⟩;rw [a i b c] at C;have Q:=((o _ l).sh (E _ l)).same;have R:=((t _ n).sh (F _ n)).same;obtain⟨z,v⟩:∃z,z=i+1:=⟨_,rfl⟩;have L:=ah v (by omega);obtain⟨z5,z6,M',g,E2⟩:=ih z (by omega) N (by omega) M1 E1.ok (e.ext E1) (w.ext E1) (λr h=>(o r h).ext E1) (λr h=>(t r h).ext E1) tV tV fV;refine⟨z5,z6,M',?_,E1.trans E2⟩;rw [o9,← g];clear ih a;simp [Qt,A,b,J,K,H,I,C,Q,R,L]
theorem acL {m:Mem}{x y:d9}{cs us:List FR}(l:m.Ok)(e:fJ m x cs)(f:fJ m y us)(a:cs.length=us.length)(n:cs.length<=1000)(b:∀i (h:i<cs.length)(h':i<us.length),cs[i].same us[i]=true)(p:∀r,r∈cs->r.short)(q:∀r,r∈us->r.short)
  (s:∀r,r∈cs->V3 m r) (t:∀r,r∈us->V3 m r) (k c:Nat) (d:20000<=c):∃m',l8 KW c (k+4) (.func 28) [x,y] m=some [⟨tV,m'⟩]∧Ext m m':=by
 have o:=e.len;have j:=f.len;rw [← a] at j;obtain⟨u,v,m',g,E⟩:=Xm a n b p q k c d fV cs.length 0 (by omega) c (by omega) m l e f s t uV uV uV;dsimp only [iN] at g;rw [show ((0:Nat):Int)=0 from rfl] at g;refine⟨m',?_,E⟩;rw [enter (sf:=f28) rfl rfl];simp [f28,o,j,g]
theorem Du {α:Type}(lt:α->α->Prop)(irr:∀a,¬ lt a a)(tr:∀a b c,lt a b->lt b c->lt a c):∀(l m:List α),l.Pairwise lt->m.Pairwise lt->(∀x,x∈l↔x∈m)->l=m
 | [],[],_,_,_=>rfl
 | [],b::m,_,_,h=>absurd ((h b).2 (adI ..)) (by simp)
 | a::l,[],_,_,h=>absurd ((h a).1 (adI ..)) (by simp)
 | a::l,b::m,h1,h2,h=>by
  rw [List.pairwise_cons] at h1 h2;have hab:a=b:=by rcases O9.1 ((h a).1 (adI ..)) with e | e;exact e;rcases O9.1 ((h b).2 (adI ..)) with e' | e';exact e'.symm;exact absurd (tr _ _ _ (h1.1 b e') (h2.1 a e)) (irr a)
  subst hab;rw [Du lt irr tr l m h1.2 h2.2 λx=>⟨λhx=>?_,λhx=>?_⟩];rcases O9.1 ((h x).1 (adh _ hx)) with e | e;subst e;exact absurd (h1.1 x hx) (irr x);exact e;rcases O9.1 ((h x).2 (adh _ hx)) with e | e;subst e;exact absurd (h2.1 x hx) (irr x);exact e
def XO (r s:FR):Prop:=r.f.room<s.f.room∨(r.f.room=s.f.room∧r.f.no<s.f.no)
theorem agl (r:FR):¬ XO r r:=by unfold XO;omega
theorem alJ (a b c:FR):XO a b->XO b c->XO a c:=by unfold XO;omega
theorem vH {r:FR}(h:r.valid=true):1<=r.f.room∧r.f.room<=6∧1<=r.f.no∧r.f.no<=60:=by simp only [FR.valid,jm,mg,D5,decide_eq_true_eq] at h;omega
theorem Grown.uniq {L:List FR}(h:Grown L){r s:FR}(n:r∈L)(hs:s∈L)(e:r.f.room=s.f.room)(o:r.f.no=s.f.no):r=s:=by
 have a:r∈L.filter λx=>decide (x.f.room=r.f.room):=by simp [n]
 have b:s∈L.filter λx=>decide (x.f.room=r.f.room):=by simp [hs,e]
 obtain⟨i,l,c⟩:=aeO.1 a;obtain⟨j,m,d⟩:=aeO.1 b;have g:=h.nos r.f.room i l;have k:=h.nos r.f.room j m;rw [c] at g;rw [d] at k;have:i=j:=by omega
 subst this;rw [← c,← d]
theorem Grown.room {L:List FR}(h:Grown L)(k h0:Int):(L.filter (acK k h0)).Pairwise XO:=by
 have a:(L.filter λx=>decide (x.f.room=k)).Pairwise XO:=by
  rw [as2];intro i j b c d;have m:=h.nos k i b;have n:=h.nos k j c;have g:((L.filter λx=>decide (x.f.room=k))[i]).f.room=k:=by have:=M7 b;simp only [ah6,decide_eq_true_eq] at this;exact this.2
  have l:((L.filter λx=>decide (x.f.room=k))[j]).f.room=k:=by have:=M7 c;simp only [ah6,decide_eq_true_eq] at this;exact this.2
  exact .inr ⟨by rw [g,l],by omega⟩
 have e:L.filter (acK k h0)=(L.filter λx=>decide (x.f.room=k)).filter λx=>decide (h0<x.f.no):=by rw [List.filter_filter];apply List.filter_congr;intro x _;unfold acK;exact Bool.and_comm _ _
 rw [e];exact a.sublist List.filter_sublist
theorem Xn {L e:List FR}(h:Grown L)(d:Dd L e):e.Pairwise XO:=by rw [as2];intro i j c b a;have k:=d.st i j a b;rw [jJ c,jJ b] at k;have f:=vH (h.valid _ (d.sub _ (M7 c)));have g:=vH (h.valid _ (d.sub _ (M7 b)));unfold FR.key at k;unfold XO;omega
theorem alK {L f:List FR}(h:Grown L)(d:Dd L f)(r:FR):r∈f↔r∈L:=by refine⟨d.sub r,λa=>?_⟩;obtain⟨s,b,c⟩:=d.cov r a;have g:=vH (h.valid _ a);have i:=vH (h.valid _ (d.sub _ b));have e:r=s:=h.uniq a (d.sub s b) (by unfold FR.key at c;omega) (by unfold FR.key at c;omega);rw [e];exact b
theorem ay8 (n a:Nat)(m:Mem):l8 KW a (n+1) (.func 8) [] m=some [⟨tV,m⟩]:=by rw [kN];have h:KW.fns 8=some {f8 with pure:=true}:=rfl;simp only [h,I7,Z6];rfl
theorem QY.le {L:List FR}{d:List By}{X:List FR}(h:QY L d X):L.length<=200->X.length<=200:=by
 induction h with
 | stop _=>exact id
 | @step L L' d r h _ _ ih=>intro _;exact ih (by have:=h.1;simp;omega)
def FR.named (r:FR)(k no:Int):FR:=⟨{r.f with room:=k,no:=no},r.a,r.b,r.l⟩
theorem V3.named {m:Mem}{r:FR}(h:V3 m r)(k no:Int)(c:Z0 no):V3 m (r.named k no):=⟨h.a,h.b,h.l,h.ga,h.gb,c⟩
theorem bf.other {v:Mem}{lo:Nat}{m:Mem}{p:Nat}{rid:Int}{u d:d9}{D:List By}{L:List FR}(h:bf lo m p rid u d D L){q:Nat}{c:List d9}(X:bP q m v)(l:c.length=32)(s:m.get q=some (l6 c))(j:q≠p)(b:∀o n e,d≠.sliceU q o n e∧d≠.slice q o n e):bf lo v p rid u d D L:=by
 have A:=vD l s X;have y:l6 c=.cells 32 1 (.nd .e c .e):=by show U7.cells (len' c) 1 (.nd .e c .e)=_;rw [K4,l]
 refine⟨(X.old p h.pn (akd j)).trans h.at_,h.lo_,nA h.pn X.nx,by rw [X.lim];exact h.lim,?_,?_,λr z=>(h.w r z).keep A,h.sh⟩;exact EW h.list X.nx λi o n e g a=>X.old i g λf=>by subst f;obtain⟨_,_,k,t,x⟩:=nH h.list a;have:=lN x (s.trans (congrArg some y));omega
 exact EU h.facts X.nx λi g a=>X.old i g λf=>by subst f;rcases a with⟨o,n,e,a⟩ | ⟨o,n,e,a⟩;exact (b o n e).1 a;exact (b o n e).2 a
theorem zJ:∀(L:List FR) (k:Nat),(∀r∈L,r.valid=true)->(J4 k L).length<=9*L.length
 | [],k,_=>by simp [J4]
 | r::L,k,h=>by have h1:=zJ L (k+1) λs hs=>h s (adh _ hs);have h2:=EY _ (D8 r) (aA _);have h3:=fB (h r (adI ..));rw [J4,U1,bW];simp only [adk];omega
theorem alL {lo:Nat}{m:Mem}{p:Nat}{rid:Int}{lv fv:d9}{D:List By}{L:List FR}(h:bf lo m p rid lv fv D L)(K:m.Ok){r:FR}(hr:V3 m r)(hs:r.short)(h0:r.f.room=0)(J:r.f.no=0)(hD:D=J4 1 L)(hg:Grown L)(hL:L.length<=200)(n I:Nat)(au:50001<=I):
  (∃(e:Int) (m':Mem),l8 KW I (n+12) (.func 64) [.ptr p 0,.agg r.f.cells] m=some [⟨.tuple [.agg zr,iV e],m'⟩]∧e≠0∧Ext m m')∨
  (∃r2 m' lv' fv' r',l8 KW I (n+12) (.func 64) [.ptr p 0,.agg r.f.cells] m=some [⟨.tuple [.agg r2.f.cells,i0],m'⟩]∧V3 m' r2∧bf lo m' p rid lv' fv' (J4 1 (L ++ [r'])) (L ++ [r'])∧Grown (L ++ [r'])∧(L ++ [r']).length<=200∧r'.f.room=rid∧FrR m m' p lv fv):=by
 have P:=h.wh;have hp:=h.at_;have a6:∀{M:Mem},Ext m M->M.lim<=M.nx:=λE=>by rw [E.lim];exact zu P E.nx
 have E0:=C8 K [l6 r.f.cells,l6 zr];have ho:=hr.one;have qa:(ext m [l6 r.f.cells,l6 zr]).get m.nx=some (l6 r.f.cells):=by rw [j6 K];rfl
 have qb:(ext m [l6 r.f.cells,l6 zr]).get (m.nx+1)=some (l6 zr):=by rw [l5 K];rfl
 have R0:=h.ext E0;obtain⟨M1,Z,E1⟩:=acA E0.ok R0.wh R0.at_ (rH R0.facts) R0.good (by omega) rid (n+10) I (by omega);have E01:=E0.trans E1;have n1:=E1.nx;have R1:=R0.ext E1;have u:=(rH h.facts).len;have s:∀{M:Mem},Ext m M->m.nx+2<=M.nx->M.get (m.nx+1)=some (l6 zr)->∃N,(∀{β:Type} (k:Mem->Option β),storeAt M (m.nx+1) 0 zr k=k N)∧N.get (m.nx+1)=some (l6 zr)∧Ext m N:=λ{M} E hn hq=>by obtain⟨N,H,q,X⟩:=pz (vs:=zr) E.ok (by omega) (by rw [E.lim];omega) hq rfl (by decide) rfl;exact⟨N,H,q,E.om X (by omega)⟩
 have G:M1.get m.nx=some (l6 r.f.cells):=by rw [E1.old _ (by simp)];exact qa
 have T:M1.get (m.nx+1)=some (l6 zr):=by rw [E1.old _ (by simp)];exact qb
 have a7:m.nx+2<=M1.nx:=by simpa using n1
 have A:=R1.at_;have z:=R0.at_;have aw:(0:Int)=r.f.room:=h0.symm;have r0:r.f.cells[0]?=some i0:=by rw [show r.f.cells[0]?=some (iV r.f.room) from rfl,h0]
 have r1:r.f.cells[1]?=some i0:=by rw [show r.f.cells[1]?=some (iV r.f.no) from rfl,J]
 by_cases hc:60<=ow L rid;have w:(60:Int)<=(ow L rid:Int):=by omega
 obtain⟨N,H,q1,EN⟩:=s E01 a7 T;refine .inl ⟨2,N,?_,by decide,EN⟩;rw [enter (sf:=f64) rfl rfl];simp [f64,eO K P,D6,ho,h0,J,hp,z,A,Z,hc,w,H,q1];have w:¬ (60:Int)<=(ow L rid:Int):=by omega
 by_cases hl2:200<=L.length;have j:(200:Int)<=(L.length:Int):=by omega
 obtain⟨N,H,q1,EN⟩:=s E01 a7 T;refine .inl ⟨2,N,?_,by decide,EN⟩;rw [enter (sf:=f64) rfl rfl];simp [f64,eO K P,D6,ho,h0,J,hp,z,A,Z,hc,w,hl2,j,u,H,q1];have j:¬ (200:Int)<=(L.length:Int):=by omega
 obtain⟨c,M2,g2,E2,R,a2⟩:=Ul (R0.ext E1 |> λ_=>E01.ok) (a6 E01) (hr.ext E01) hs (n+9) I (by omega);have E02:=E01.trans E2;have n2:=E2.nx;have F:M2.get m.nx=some (l6 r.f.cells):=by rw [E2.old _ (by omega)];exact G
 have am:M2.get (m.nx+1)=some (l6 zr):=by rw [E2.old _ (by omega)];exact T
 have S:M2.lim<=m.nx:=by rw [E02.lim];exact P
 obtain⟨N1,H,q3,X1⟩:=pz (vs:=c.f.cells) E02.ok (by omega) S F (by rw [G5.len,G5.len]) (by rw [G5.len];omega) R.one;have k1:=vD (G5.len _) F X1;have R2:=(R1.ext E2).other X1 (G5.len _) F (by have:=h.pn;omega) (λo n e=>⟨λd=>by have:=(dF h.facts (.inl d)).2.1;omega,λd=>by have:=(dF h.facts (.inr d)).2.1;omega⟩);obtain⟨N2,s2,q4,X2⟩:=mV (off:=0) X1.ok (by have:=X1.nx;omega) (by rw [X1.lim];exact S) q3 (by rw [G5.len];omega) (v:=iV rid) rfl;obtain⟨g,a1⟩:∃g,g=ow L rid+1:=⟨_,rfl⟩;have d:=ah a1 (by omega);obtain⟨N3,s3,Y,X3⟩:=mV (off:=1) X2.ok (by have:=X1.nx;have:=X2.nx;omega) (by rw [X2.lim,X1.lim];exact S) q4 (by simp) (v:=iV (g:Int)) rfl;have Y:N3.get m.nx=some (l6 (c.named rid (g:Int)).f.cells):=Y;have X13:=(X1.trans X2).trans X3;have R3:=(R1.ext E2).other X13 (G5.len _) F (by have:=h.pn;omega) (λo n e=>⟨λd=>by have:=(dF h.facts (.inl d)).2.1;omega,λd=>by have:=(dF h.facts (.inr d)).2.1;omega⟩);have ak:=vD (G5.len _) F X13;have y:V3 N3 (c.named rid (g:Int)):=(R.keep ak).named rid _ ⟨by omega,by omega⟩;have a5:(c.named rid (g:Int)).short:=a2.short hs;have E3:Ext m N3:=E02.om X13 (by omega);have n3:=X13.nx;have an:N3.get (m.nx+1)=some (l6 zr):=by rw [X13.old _ (by omega) (by omega)];exact am
 obtain⟨M4,g4,E4⟩:=TI E3.ok (a6 E3) (y.sh a5) n I (by omega) y.ga y.gb;have E04:=E3.trans E4;have n4:=E4.nx;have R4:=R3.ext E4;have U:M4.get m.nx=some (l6 (c.named rid (g:Int)).f.cells):=by rw [E4.old _ (by omega)];exact Y
 have a8:M4.get (m.nx+1)=some (l6 zr):=by rw [E4.old _ (by omega)];exact an
 have af:=(R1.ext E2).at_;have B:N1.get p=some (l6 [lv,iV rid,fv]):=(X1.old p (by have:=h.pn;omega) (by have:=h.pn;omega)).trans af;have a3:=y.one;have Q:=R.one;cases hv:jm (c.named rid (g:Int)).f (c.named rid (g:Int)).a (c.named rid (g:Int)).b (c.named rid (g:Int)).l with
 | false=>rw [hv] at g4;obtain⟨N,s6,q7,EN⟩:=s E04 (by omega) a8;refine .inl ⟨1,N,?_,by decide,EN⟩;rw [enter (sf:=f64) rfl rfl];simp [f64,eO K P,D6,ho,h0,J,hp,z,A,Z,hc,w,hl2,j,u,G,g2,Q,H,B,d,s2,s3,Y,g4,s6,q7,G5.len]
 | true=>
  rw [hv] at g4;obtain⟨M5,g5,E5⟩:=acB E04.ok R4.wh R4.at_ (rH R4.facts) R4.good (by omega) rid (n+10) I (by omega);have E05:=E04.trans E5;have n5:=E5.nx;have R5:=R4.ext E5;have V:M5.get m.nx=some (l6 (c.named rid (g:Int)).f.cells):=by rw [E5.old _ (by omega)];exact U
  have a9:M5.get (m.nx+1)=some (l6 zr):=by rw [E5.old _ (by omega)];exact a8
  have ap:=R3.at_;have a4:=R4.at_;have av:(c.named rid (g:Int)).f.known=r.f.known:=(GD a2.cn).2.2;have C:(c.named rid (g:Int)).f.room=rid:=rfl;have ae:(c.named rid (g:Int)).f.no=(g:Int):=rfl;generalize hx:c.named rid (g:Int)=x at *;by_cases hkl:x.f.known<lastB L rid;obtain⟨N,s6,q8,EN⟩:=s E05 (by omega) a9;refine .inl ⟨4,N,?_,by decide,EN⟩;rw [enter (sf:=f64) rfl rfl];simp [f64,eO K P,D6,ho,h0,J,hp,z,A,Z,hc,w,hl2,j,u,G,g2,Q,H,B,d,s2,s3,Y,g4,a4,g5,U,V,hkl,s6,q8,G5.len,P8];have aq:=zJ L 1 hg.valid;obtain⟨M6,al,aa,r',g6,R6,F6,t,ar,a0⟩:=acJ R5 E05.ok ((y.ext E4).ext E5) a5 hv (by omega) (by rw [hD];omega) (n+5) I (by omega);have ag:=uj t.cn;have ac:D++fT ((L.length+1:Nat):Int) (D8 x)=J4 1 (L ++ [r']):=by rw [hD,vF,ag,an6 1]
  rw [ac] at R6;have ab:=GD t.cn;have hf:uh L r'=true:=by rw [vE rfl t.cn];unfold uh;rw [C,ae,a1];simp;omega
  have ai:r'.valid=true:=by
   have e:r'.cn.valid=x.cn.valid:=by rw [t.cn]
   rw [fK,fK] at e;rw [e];exact hv
  have n6:=F6.nx;have O:∀i,i=m.nx∨i=m.nx+1->M6.get i=M5.get i:=λi hi=>F6.old i (by omega) (by have:=h.pn;omega) (λo n e d=>by have:=(nH h.list d).2.1;omega) (λo n e d=>by have:=(dF h.facts (.inl d)).2.1;omega);have ao:M6.get m.nx=some (l6 x.f.cells):=(O _ (.inl rfl)).trans V;have W:M6.get (m.nx+1)=some (l6 zr):=(O _ (.inr rfl)).trans a9;have aj:V3 M6 x:=R5.fct F6 ((y.ext E4).ext E5);obtain⟨N7,s7,q9,X7⟩:=pz (vs:=x.f.cells) F6.ok (by omega) (by rw [F6.lim,E05.lim];omega) W (by rw [G5.len];rfl) (by rw [G5.len];omega) a3;have R7:=R6.other X7 rfl W (by have:=h.pn;omega) (λo n e=>⟨λd=>by have:=(dF a0 (.inl d)).1;omega,λd=>by have:=(dF a0 (.inr d)).1;omega⟩);refine .inr ⟨x,N7,al,aa,r',?_,aj.keep (vD rfl W X7),R7,.snoc hg ai hf,by simp;omega,ab.1.trans C,⟨by have:=X7.nx;omega,by rw [X7.lim,F6.lim,E05.lim],X7.ok,λi hi ad J h2=>?_⟩⟩;rw [enter (sf:=f64) rfl rfl];simp [f64,eO K P,D6,ho,h0,J,hp,z,A,Z,hc,w,hl2,j,u,G,g2,Q,H,B,d,s2,s3,Y,g4,a4,g5,U,V,hkl,g6,ao,a3,s7,q9,G5.len,P8];rw [X7.old i (by omega) (by omega),F6.old i (by omega) ad J h2];exact E05.old i hi
theorem agm {d:Mem}{rid:Int}{p:Nat}{v:d9}{a:List FR}(a1:d.Ok)(a0:d.lim<=d.nx)(S:fJ d v a)(hw:∀r∈a,V3 d r)(hs:∀r∈a,r.short)(hb:a.length<=100)(n F:Nat)(K:50001<=F):∀(j i:Nat),i+j=a.length->∀(N:Nat),j<N->∀(M:Mem),Ext d M->∀(lv fv:d9) (L:List FR),bf d.nx M p rid lv fv (J4 1 L) L->Grown L->L.length<=200->(∀r∈L,r.f.room=rid)->∀(a6 a7 a8 a9 a10:d9),
  ∃b7 b8 b9 b10 M' lv' fv' L',T9 (λenv m k=>Ll (l8 KW F (n+15)) F none env m k) N (abN (iV rid) i0 (.ptr p 0) fV (iN i) v a6 a7 a8 a9 a10 .nilPtr fV) M []=some [⟨.exit 0,(abN (iV rid) i0 (.ptr p 0) fV (iN (a.length)) v fV b7 b8 b9 b10 .nilPtr fV),M',[],none⟩]∧Ext d M'∧bf d.nx M' p rid lv' fv' (J4 1 L') L'∧Grown L'∧L'.length<=200∧(∀r∈L',r.f.room=rid):=by
 intro j;induction j with
 | zero=>
  intro i Y N W M l lv fv L R H G I a6 a7 a8 a9 a10;obtain⟨N,rfl⟩:∃k,N=k+1:=⟨N-1,by omega⟩;obtain rfl:i=a.length:=by omega
  have b:=(S.ext l).len;refine⟨a7,a8,a9,a10,M,lv,fv,L,?_,l,R,H,G,I⟩;rw [o9];simp [Ll,w9,x9,D6,b]
 | succ j ih=>
  intro i Y N W M l lv fv L R H G I a6 a7 a8 a9 a10;obtain⟨N,rfl⟩:∃k,N=k+1:=⟨N-1,by omega⟩;have t:i<a.length:=by omega
  obtain⟨q,hq⟩:∃q,q=i+1:=⟨_,rfl⟩;have w:=ah hq (by omega);have O:=l.ok;have U:=R.wh;have b:=(S.ext l).len;obtain⟨id,J,_,T,_⟩:=(S.ext l).at t;simp at J;have y:=M7 t;have C:=((hw _ y).ext l);have V:=C.one;have E1:=C8 O [l6 (a[i].named 0 0).f.cells];have R1:=R.ext E1;have B:=(C.ext E1).named 0 0 ⟨by decide,by decide⟩;have A:=B.one;have X:(a[i].f.cells.set 0 i0).set 1 i0=(a[i].named 0 0).f.cells:=rfl;have a3:Sv (some (l6 zr)) 0 a[i].f.cells=some (l6 a[i].f.cells):=by rw [gV (by rw [G5.len];decide) (by decide)];rw [am1,O5 (by rw [G5.len];decide)];simp
  have D:Sv (some (l6 a[i].f.cells)) 0 [i0]=some (l6 (a[i].f.cells.set 0 i0)):=by rw [gV (by simp [G5.len]) (by rw [G5.len];omega)];congr 2
  have E:Sv (some (l6 (a[i].f.cells.set 0 i0))) 1 [i0]=some (l6 (a[i].named 0 0).f.cells):=by rw [gV (by simp [G5.len]) (by simp [G5.len])];congr 2
  have Q:a[i].short:=hs _ y;rcases alL R1 E1.ok B (show (a[i].named 0 0).short from Q) rfl rfl rfl H G (n+3) F K with⟨e,M2,g2,he,E2⟩ | ⟨r2,M2,lv2,fv2,r',g2,hr2,R2,hg2,hL2,hrm,F2⟩;have c:=E2.ok;have E02:=E1.trans E2;have u:=(R1.ext E2).wh;have E3:=C8 c [l6 zr];obtain⟨b7,b8,b9,b10,M',lv',fv',L',g,z⟩:=ih q (by omega) N (by omega) _ ((l.trans E02).trans E3) lv fv L ((R1.ext E2).ext E3) H G I tV (.ptr M.nx 0) (iV e) (.ptr M2.nx 0) fV;refine⟨b7,b8,b9,b10,M',lv',fv',L',?_,z⟩;have a4:Sv (some (l6 zr)) 0 zr=some (l6 zr):=by rw [gV (by decide) (by decide)];rfl
  have a2:I6 zr=true:=rfl;rw [o9,← g];generalize a[i]=x at *;simp [Ll,w9,x9,D6,xS O U,xS c u,b,t,J,T,w,V,A,g2,he,D,E,G5.len];have c:=F2.ok;have u:=R2.wh;have E3:=C8 c [l6 r2.f.cells];have E02:Ext d M2:=alH (l.trans E1) ⟨F2.ok,F2.nx,F2.lim,λk Z _=>F2.old k (nA Z R1.VH) (by have:=R.lo_;omega) (λo n e w=>by have:=(nH R1.list w).1;omega) (λo n e w=>by have:=(dF R1.facts (.inl w)).1;omega)⟩;obtain⟨b7,b8,b9,b10,M',lv',fv',L',g,z⟩:=ih q (by omega) N (by omega) _ (E02.trans E3) lv2 fv2 (L ++ [r']) (R2.ext E3) hg2 hL2 (λs hs=>by
   rcases O4.1 hs with h | h;exact I s h;simp at h;rw [h];exact hrm) tV (.ptr M.nx 0) i0 (.ptr M2.nx 0) fV
  refine⟨b7,b8,b9,b10,M',lv',fv',L',?_,z⟩;have P:=hr2.one;rw [o9,← g];generalize a[i]=x at *;simp [Ll,w9,x9,D6,xS O U,xS c u,b,t,J,T,w,V,A,P,g2,D,E,G5.len]
theorem agn {L X:List FR}(h:QY L [] X):X=L:=by
 cases h with
 | stop _=>rfl
 | step h _ _=>obtain⟨t,e⟩:=h.2.pre;simp [fT] at e
theorem alM {m:Mem}(x:m.Ok)(w:m.lim<=m.nx){v:d9}{a:List FR}(D:fJ m v a)(C:∀r∈a,V3 m r)(hs:∀r∈a,r.short)(hb:a.length<=100)(id:Int)(s:1<=id∧id<=6)(n b:Nat)(q:50001<=b):
  ∃m' lv fv L,l8 KW b (n+16) (.func 25) [iV id,v] m=some [⟨.tuple [.ptr m.nx 0,tV],m'⟩]∧Ext m m'∧bf m.nx m' m.nx id lv fv (J4 1 L) L∧Grown L∧L.length<=200∧(∀r∈L,r.f.room=id):=by
 rcases Ut (ws:=[]) x w (.inl ⟨rfl,.inl (.inl ⟨rfl,rfl⟩)⟩) (λ_=>⟨by simp,λ_ _ _=>.inl (λi o l e h=>by cases h),λL' F t k h=>by
   obtain⟨j,rfl⟩:=t.drop;simp [jT] at h⟩) id n b (by omega) with⟨h1,_⟩ | ⟨_,h1,_⟩ | ⟨_,_,M1,lv,fv,L0,g21,E1,R1,opn,hg0,_⟩
 exact absurd s h1;simp at h1;have d:=agn opn;subst d;have R1':bf m.nx M1 m.nx id lv fv (J4 1 []) []:=R1;obtain⟨G,H,I,y,M',u,c,L',g,E,R,B,A,t⟩:=agm (rid:=id) (p:=m.nx) x w D C hs hb n b q a.length 0 (by omega) b (by omega) M1 E1 lv fv [] R1' .nil (by simp) (by simp) uV uV uV uV uV;refine⟨M',u,c,L',?_,E,R,B,A,t⟩;have z:qL (.ptr m.nx 0) .nilPtr=some false:=rfl;simp at g;rw [enter (sf:=f25) rfl rfl];simp [f25,w9,x9,D6,g21,z,g]
theorem Grown.at {M:List FR}(h:Grown M):∀(A:List FR) (r:FR) (B:List FR),M=A++r::B->Grown A∧uh A r=true∧r.valid=true:=by
 induction h with
 | nil=>intro A r B e;simp at e
 | @snoc L s h hv hf ih=>
  intro A r B e;rcases List.eq_nil_or_concat B with rfl | ⟨B',s',rfl⟩;have a:=List.append_inj' e (by simp);obtain⟨b,c⟩:=a;have c:s=r:=by injection c
  subst b c;exact⟨h,hf,hv⟩;have a:L ++ [s]=(A++r::B') ++ [s']:=by simpa using e
  have b:=(List.append_inj' a (by simp)).1;exact ih A r B' b
theorem acM {A B:List FR}{r:FR}(b:r.valid=true)(a:A.length+1<=200)(rest:List By):Rec (A.length+1) (J4 (A.length+1) (r::B)++rest) r:=
 ⟨a,b,J4 (A.length+1+1) B++rest,by rw [J4,amU]⟩
theorem drop_at {A B:List FR}{r:FR}(rest:List By):(J4 (A.length+1) (r::B)++rest).drop (P6 r)=J4 ((A ++ [r]).length+1) B++rest:=by
 have e:P6 r=(fT ((A.length+1:Nat):Int) (D8 r)).length:=by rw [bW];rfl
 rw [J4,amU,e,List.drop_left];simp
theorem NU:∀(B A:List FR) (rest:List By),Grown (A++B)->(A++B).length<=200->(∀r,Rec ((A++B).length+1) rest r->uh (A++B) r=false)->QY A (J4 (A.length+1) B++rest) (A++B)
 | [],A,rest,_,_,h=>by rw [adB] at h ⊢;exact .stop (by simpa [J4] using h)
 | r::B,A,rest,hg,hl,h=>by
  obtain⟨_,hf,hv⟩:=hg.at A r B rfl;refine .step (acM hv (by simp at hl;omega) rest) hf ?_;rw [drop_at];have e:A++r::B=A ++ [r]++B:=by simp
  rw [e] at hg hl h ⊢;exact NU B (A ++ [r]) rest hg hl h
theorem Xo {L':List FR}{a:List By}{g:List FR}{ws:List By}(k:Reach g ws L' a):∀(B A:List FR) (rest:List By),g.map FR.cn=A.map FR.cn->ws=J4 (A.length+1) B++rest->Grown (A++B)->(A++B).length<=200->(∀r,¬ Rec ((A++B).length+1) rest r)->
  a=rest∨∃C r D,A++B=C++r::D∧a=J4 (C.length+1) (r::D)++rest:=by
 induction k with
 | @refl L ws=>
  intro B A rest f e c d h;cases B with
  | nil=>exact .inl (by rw [e];simp [J4])
  | cons r B=>exact .inr ⟨A,r,B,rfl,e⟩
 | @step L L' ws a s hs hf k ih=>
  intro B A rest f e c d h;have b:L.length=A.length:=by simpa using congrArg List.length f
  cases B with
  | nil=>rw [adB] at h;rw [b,e] at hs;exact absurd (by simpa [J4] using hs) (h s)
  | cons r B=>
   obtain⟨_,_,n⟩:=c.at A r B rfl;have m:=acM (A:=A) (B:=B) n (by simp at d;omega) rest;rw [b,e] at hs;have i:=hs.2.uniq m.2;have l:P6 s=P6 r:=by unfold P6;rw [uj i]
   have j:A++r::B=A ++ [r]++B:=by simp
   rw [j] at c d h ⊢;exact ih B (A ++ [r]) rest (by simp [f,i]) (by rw [e,l,drop_at]) c d h
theorem acN {L:List FR}(a:Grown L)(b:L.length<=200):QY [] (J4 1 L) L:=by
 have:=NU L [] [] a b (λr c=>by
  obtain⟨t,e⟩:=c.2.pre;simp [fT] at e)
 simpa using this
theorem alN {n:Nat}:∀r,¬ Rec n [] r:=λr a=>by obtain⟨t,e⟩:=a.2.pre;simp [fT] at e
theorem Ma:∀(A B:List FR) (k:Nat),J4 k (A++B)=J4 k A++J4 (k+A.length) B
 | [],B,k=>by simp [J4]
 | r::A,B,k=>by rw [adL,J4,J4,Ma A B (k+1),amU,adk,show k+1+A.length=k+(A.length+1) from by omega]
theorem Mc {no:Int}{s r:FR}{u t:List By}(hs:s.valid=true)(c:r.valid=true)(e:fT no (D8 s)++t=G7 bJ [no,((chunks (D8 r)).length:Int),((D8 r).length:Int),(qA (D8 r):Int)]::u):(chunks (D8 s)).length=(chunks (D8 r)).length:=by
 have b:G7 bJ [no,((chunks (D8 s)).length:Int),((D8 s).length:Int),(qA (D8 s):Int)]=G7 bJ [no,((chunks (D8 r)).length:Int),((D8 r).length:Int),(qA (D8 r):Int)]:=by unfold fT at e;exact (ahs e).1
 have a:=congrArg (splitB 32) b;rw [pE,pE] at a;simp only [gX,adU,azU,azT,true_and] at a;have d:=eF _ _ (aA (D8 s).length);have f:=eF _ _ (aA (D8 r).length);have g:=fB hs;have h:=fB c;have:=QV (by unfold Sm;omega) (by unfold Sm;omega) a.1;omega
theorem acO {n:Nat}{r:FR}(d:r.valid=true):∀s,¬ Rec n ((fT (n:Int) (D8 r)).take (P6 r-1)) s:=λs b=>by
 obtain⟨t,e⟩:=b.2.pre;have g:1<=(chunks (D8 r)).length:=vG (zI r);have c:(fT (n:Int) (D8 r)).take (P6 r-1)=G7 bJ [(n:Int),((chunks (D8 r)).length:Int),((D8 r).length:Int),(qA (D8 r):Int)]::(chunks (D8 r)).take (P6 r-2):=by
  have:P6 r-1=P6 r-2+1:=by unfold P6;omega
  rw [this,fT,asc]
 rw [c] at e;have f:=Mc b.2.valid d e.symm;have a:=congrArg List.length e;rw [U1,bW] at a;simp only [adk,akY] at a;unfold P6 at a;omega
theorem Xp {n:Nat}{r:FR}(p:r.valid=true){own b:List By}(d:own.length=P6 r)(o:∀i (h:i<own.length)(h':i<(fT (n:Int) (D8 r)).length),own[i]=[]∨own[i]=(fT (n:Int) (D8 r))[i])(q:[]∈own):∀s,¬ Rec n (own++b) s:=λs g=>by
 obtain⟨t,e⟩:=g.2.pre;have m:(fT (n:Int) (D8 r)).length=P6 r:=by rw [bW];rfl
 have v:1<=(chunks (D8 r)).length:=vG (zI r);have a:0<own.length:=by rw [d];unfold P6;omega
 obtain⟨h,u,rfl⟩:∃h u,own=h::u:=by
  cases own with
  | nil=>simp at a
  | cons h u=>exact⟨h,u,rfl⟩
 have c:=o 0 a (by omega);rw [amS] at c;rcases c with rfl | c;unfold fT G7 at e;have j:=(ahs e).1;simp [bJ] at j;have c:h=G7 bJ [(n:Int),((chunks (D8 r)).length:Int),((D8 r).length:Int),(qA (D8 r):Int)]:=c;rw [c] at e;have k:=Mc g.2.valid p (u:=u++b) (by rw [← e];rfl);have f:(G7 bJ [(n:Int),((chunks (D8 r)).length:Int),((D8 r).length:Int),(qA (D8 r):Int)]::u)=fT (n:Int) (D8 s):=by refine (List.append_inj e ?_).1;rw [bW,k];simp only [adk] at d ⊢;unfold P6 at d;omega
 have l:u=chunks (D8 s):=by unfold fT at f;exact (ahs f).2
 rcases O9.1 q with e5 | e5;rw [c] at e5;unfold G7 at e5;simp [bJ] at e5;rw [l] at e5;exact LX _ (D8 s) (aA _) [] e5 rfl
theorem agp {v:d9}{a:List FR}(hb:a.length<=18)(n y:Nat):
  ∀(j i:Nat),i+j=a.length->∀(N:Nat),j<N->∀(m:Mem),m.Ok->fJ m v a->(∀i (h:i<a.length),V3 m a[i])->∀(a3 a4 a5 a7:d9) (c6 c8:Int),
   ∃x k b3 b4 b5 b7 d6 d8 m',T9 (λenv m k=>FT (l8 KW y (n+1)) y none env m k) N (Jj v fV (iN i) a3 a4 a5 (iV c6) a7 (iV c8) fV) m []=some [⟨x,(Jj v fV (iN k) b3 b4 b5 (iV d6) b7 (iV d8) fV),m',[],none⟩]∧Ext m m'∧((x=.exit 0∧∀t (h:t<a.length),i<=t->a[t].small=true)∨x=.ret):=by
 intro j;induction j with
 | zero=>
  intro i D N C m e s z a3 a4 a5 a7 c6 c8;obtain⟨N,rfl⟩:∃M,N=M+1:=⟨N-1,by omega⟩;refine⟨.exit 0,i,fV,a4,a5,a7,c6,c8,m,?_,Ext.refl e,.inl ⟨rfl,λt h A=>by omega⟩⟩;rw [o9];have h:¬ i<a.length:=by omega
  have q:=s.len;simp [FT,h,q]
 | succ j ih=>
  intro i D N C m e s z a3 a4 a5 a7 c6 c8;obtain⟨N,rfl⟩:∃M,N=M+1:=⟨N-1,by omega⟩;have h:i<a.length:=by omega
  have q:=s.len;obtain⟨p,u,F,w,_,_,B⟩:=s.at h;have E1:=C8 e [l6 a[i].f.cells];have o:=alb e (z i h) n y;have b:ld1 ((ext m [l6 a[i].f.cells]).get p) (i*32+3)=some (iV a[i].f.kind):=by rw [E1.old _ F];exact B
  have g:=s.ext E1;cases hs:a[i].small with
  | false=>rw [hs] at o;refine⟨.ret,i,tV,tV,a5,a7,c6,c8,ext m [l6 a[i].f.cells],?_,E1,.inr rfl⟩;rw [o9];simp [FT,h,q,u,w,o]
  | true=>
   rw [hs] at o;have l:∀t (h:t<a.length),V3 (ext m [l6 a[i].f.cells]) a[t]:=λt h=>(z t h).ext E1;have c:∀{x:bn},((x=.exit 0∧∀t (h:t<a.length),i+1<=t->a[t].small=true)∨x=.ret)->((x=.exit 0∧∀t (h:t<a.length),i<=t->a[t].small=true)∨x=.ret):=by intro x G;rcases G with⟨h1,d⟩ | h1;refine .inl ⟨h1,λt A E=>?_⟩;by_cases hti:t=i;subst hti;exact hs;exact d t A (by omega);exact .inr h1
   by_cases h5:a[i].f.kind=5;obtain⟨x,k,b3,b4,b5,b7,d6,d8,m',r,E2,d⟩:=ih (i+1) (by omega) N (by omega) _ (I9 e _) g l tV fV tV fV (sP (c6+1)) c8;refine⟨x,k,b3,b4,b5,b7,d6,d8,m',?_,E1.trans E2,c d⟩;rw [o9,← r];rw [h5] at b;simp [FT,h,q,u,w,o,b,dZ (i:=i) (by omega)];by_cases h6:a[i].f.kind=6;obtain⟨x,k,b3,b4,b5,b7,d6,d8,m',r,E2,d⟩:=ih (i+1) (by omega) N (by omega) _ (I9 e _) g l tV fV fV tV c6 (sP (c8+1));refine⟨x,k,b3,b4,b5,b7,d6,d8,m',?_,E1.trans E2,c d⟩;rw [o9,← r];rw [h6] at b;simp [FT,h,q,u,w,o,b,dZ (i:=i) (by omega)];obtain⟨x,k,b3,b4,b5,b7,d6,d8,m',r,E2,d⟩:=ih (i+1) (by omega) N (by omega) _ (I9 e _) g l tV fV fV fV c6 c8;refine⟨x,k,b3,b4,b5,b7,d6,d8,m',?_,E1.trans E2,c d⟩;rw [o9,← r];simp [FT,h,q,u,w,o,b,h5,h6,dZ (i:=i) (by omega)]
theorem alO {m:Mem}{v:d9}{b:List FR}(f:m.Ok)(j:fJ m v b)(p:∀i (h:i<b.length),V3 m b[i])(n c:Nat)(o:1000<=c):
  ∃r m',l8 KW c (n+2) (.func 24) [v] m=some [⟨.bool r,m'⟩]∧Ext m m'∧(r=true->b.length<=18∧∀t (h:t<b.length),b[t].small=true):=by
 rw [enter (sf:=f24) rfl rfl];have d:=j.len;by_cases hb:b.length<=18;have a:¬ 18<(b.length:Int):=by omega
 obtain⟨x,k,s,u,w,y,e,l,m',g,E1,q⟩:=agp hb n c b.length 0 (by omega) c (by omega) m f j p uV uV uV uV 0 0;rcases q with⟨rfl,hs⟩ | rfl;refine⟨decide (e<=7)&&decide (l<=2),m',?_,E1,λ_=>⟨hb,λt h=>hs t h (by omega)⟩⟩;simp at g;cases h1:decide (e<=7) with
 | true=>simp [f24,d,a,g,h1]
 | false=>simp [f24,d,a,g,h1]
 refine⟨false,m',?_,E1,by simp⟩;simp at g;simp [f24,d,a,g];have a:18<(b.length:Int):=by omega
 refine⟨false,m,?_,Ext.refl f,by simp⟩;simp [f24,d,a]
theorem Uv {lo id:Nat}{m:Mem}{D:List By}(h:jD lo m (.sliceU id 0 D.length 1) D)(g:m.Ok)(b:m.lim<=id){i:Nat}(hi:i<D.length)(s:By):
  ∃m',(∀{β:Type} (k:Mem->Option β),storeAt m id i [.str s] k=k m')∧jD lo m' (.sliceU id 0 D.length 1) (D.set i s)∧bP id m m':=by
 rcases h with⟨h,_⟩ | ⟨id',t,c,h1,h2,h3,h4,h5,h6,h7,h8⟩;cases h;injection h4 with h4;subst h4;have d:=h8 i hi;have q:aj 1 D.length t i [.str s]=some (t.put i [.str s]):=by have p:Nat.div i 1=i:=Nat.div_one i;have r:Nat.mod i 1=0:=Nat.mod_one i;unfold aj;rw [p,r,show Nat.blt i D.length=true from O6.mpr hi,d];rfl
 refine⟨m.set id (.cells 1 D.length (t.put i [.str s])),λk=>?_,.inr ⟨id,t.put i [.str s],c,h1,by simp;exact h2,by simpa using h3,by simp,by rw [Mem.U6 g h2,if_pos rfl];simp,T.Ok.put h6 i _ (by omega),by simpa using h7,λj l=>?_⟩,⟨Mem.Ok.set g h2 _,by simp,rfl,λj l n=>by rw [Mem.U6 g h2,if_neg n]⟩⟩;have o:I6 [d9.str s]=true:=rfl;rw [aK b o,h5];show ob (ob (aj 1 D.length t i [.str s]) λa=>some (U7.cells 1 D.length a)) _=_;rw [q];rfl;have f:j<D.length:=by simpa using l
 rw [aCG];split;rename_i e;subst e;exact T.Z7 h6 _ _ (by omega);rename_i e;rw [T.aU h6 _ _ _ (by omega) e];exact h8 j f
theorem acP {t:Mem}{rid Qk bits:Int}{p:Nat}{lv0 ag fv9:d9}{cs L:List FR}(a0:t.Ok)(E:t.lim<=t.nx)(hx:fJ t fv9 cs)(hw:∀c∈cs,V3 t c)(hs:∀c∈cs,c.short)(K:cs.map FR.cn=L.map FR.cn)(Q:∀r∈L,r.valid=true)(hL:L.length<=200)(kk:Nat)(hk:kk<=L.length)(n A:Nat)(C:20001<=A):∀(j i:Nat),i+j=kk->∀(N:Nat),j<N->∀(M:Mem),Ext t M->∀(a14 a15 a16 a18:d9),
  ∃b15 b16 b18 M',T9 (λenv m k=>Zh (l8 KW A (n+12)) A none env m k) N (abO lv0 (iV rid) (iV Qk) fV tV fV (.ptr p 0) i0 ag fv9 fV fV (iN i) (iN kk) a14 a15 a16 (iN ((J4 1 (L.take i)).length)) a18 uV uV uV uV uV uV uV (iV bits) uV uV uV uV uV fV) M []=some [⟨.exit 0,(abO lv0 (iV rid) (iV Qk) fV tV fV (.ptr p 0) i0 ag fv9 fV fV (iN kk) (iN kk) fV b15 b16 (iN ((J4 1 (L.take kk)).length)) b18 uV uV uV uV uV uV uV (iV bits) uV uV uV uV uV fV),M',[],none⟩]∧Ext t M':=by
 have W:cs.length=L.length:=by simpa using congrArg List.length K
 intro j;induction j with
 | zero=>
  intro i Y N V M f a14 a15 a16 a18;obtain⟨N,rfl⟩:∃k,N=k+1:=⟨N-1,by omega⟩;obtain rfl:i=kk:=by omega
  refine⟨a15,a16,a18,M,?_,f⟩;rw [o9];simp [Zh]
 | succ j ih=>
  intro i Y N V M f a14 a15 a16 a18;obtain⟨N,rfl⟩:∃k,N=k+1:=⟨N-1,by omega⟩;have o:i<cs.length:=by omega
  have D:i<kk:=by omega
  have l:i<L.length:=by omega
  obtain⟨q,P⟩:∃q,q=i+1:=⟨_,rfl⟩;have S:=ah P (by omega);have hm:=f.ok;have Z:M.lim<=M.nx:=by rw [f.lim];exact zu E f.nx
  obtain⟨id,I,_,R,_⟩:=(hx.ext f).at o;simp at I;have x:=M7 o;obtain⟨s1,s2,s3⟩:=hs _ x;have u:cs[i].cn=L[i].cn:=by
   have e:(cs.map FR.cn)[i]?=(L.map FR.cn)[i]?:=by rw [K]
   rw [adf,adf,aP o,aP l] at e;exact LA e
  have z:cs[i].valid=true:=by
   have e:cs[i].cn.valid=L[i].cn.valid:=by rw [u]
   rw [fK,fK] at e;rw [e];exact Q _ (M7 l)
  obtain⟨v,e,M1,U,E1,G⟩:=acg hm Z ((hw _ x).ext f) s1 s2 s3 (q:Int) n A C;rcases G with⟨_,_,rfl,h4⟩ | ⟨h,_,_⟩;have B:=h4.len;rw [J3] at B;have H:=uj u;have F:(J4 1 (L.take q)).length=(J4 1 (L.take i)).length+(fT (q:Int) (D8 cs[i])).length:=by rw [P,adi l,vF,U1,bW,bW,H]
  obtain⟨J,w⟩:∃d,d=(J4 1 (L.take i)).length:=⟨_,rfl⟩;obtain⟨rl,s⟩:∃d,d=(fT (q:Int) (D8 cs[i])).length:=⟨_,rfl⟩;have X:=zJ (L.take i) 1 λr G=>Q r (adv G);have O:(L.take i).length<=200:=by simp;omega
  have a1:rl<=10000:=by have:=eF _ (D8 cs[i]) (aA _);have:=fB z;rw [s,bW];omega
  obtain⟨b15,b16,b18,M',g,E2⟩:=ih q (by omega) N (by omega) M1 (f.trans E1) tV i0 fV v;refine⟨b15,b16,b18,M',?_,E2⟩;rw [F,← w,← s] at g;obtain⟨nl,y⟩:∃d,d=J+rl:=⟨_,rfl⟩;have T:=bO (a:=J) (b:=rl) y (by omega);rw [← y] at g;rw [← w];rw [← s] at B;have pv:=λ{β:Type} (p:d9->β) q=>h4.dD p q;rw [o9,← g];simp [Zh,w9,x9,D6,D,I,R,S,U,pv,B,T];exact absurd ⟨⟨by omega,by omega⟩,z⟩ h
theorem alP (j:Nat)(h:j<64):iY .u64 ((j:Nat):Int)=((j:Nat):Int):=by show IntKind.u64.wrap _=_;unfold IntKind.wrap;simp [IntKind.bits,IntKind.signed];omega
theorem ay9 (i:Nat):Ap .i64 (i:Int) 20=some (iV ((i%20:Nat):Int)):=rfl
def JF (bits:Int)(i:Nat):Bool:=qK (IntKind.i64.wrap (BitVec.ofInt 64 (bits.fdiv (2^(min (i%20) 64))) &&& BitVec.ofInt 64 1).toNat) 1
theorem Xq (bits:Int)(i:Nat){a:Type}(K:d9->Option a):ob (Ap .i64 (i:Int) 20) (λv=>ob (vT v λx n=>some (d9.int .u64 (iY .u64 n))) λv=>ob (Rt (d9.int .i64 bits) v) λv=>ob (BK GL wz v (d9.int .i64 1)) λv=>ob (BK Dz DF v (d9.int .i64 1)) K)=K (.bool (JF bits i)):=by rw [ay9,I7];show ob (some (d9.int .u64 (iY .u64 ((i%20:Nat):Int)))) _=_;rw [alP _ (by omega),I7];rfl
def iw (bits:Int)(fr:Nat):Nat->List By->List By
 | 0,W=>W
 | j+1,W=>if JF bits j=true then (iw bits fr j W).set (fr+j) [] else iw bits fr j W
def Dv (bits:Int):Nat->Bool
 | 0=>false
 | j+1=>if JF bits j=true then true else Dv bits j
theorem um (bits:Int)(fr:Nat)(W:List By):∀j,(iw bits fr j W).length=W.length
 | 0=>rfl
 | j+1=>by rw [iw];split;rw [List.length_set,um bits fr W j];exact um bits fr W j
theorem uo (bits:Int)(fr:Nat)(W:List By):∀(j t:Nat),(iw bits fr j W)[t]?=if fr<=t∧t<fr+j∧JF bits (t-fr)=true∧t<W.length then some [] else W[t]?
 | 0,t=>by rw [if_neg (by omega)];rfl
 | j+1,t=>by rw [iw];by_cases hb:JF bits j=true;rw [if_pos hb,akX,uo bits fr W j t,um];by_cases ht:fr+j=t;subst ht;by_cases hl:fr+j<W.length;rw [if_pos rfl,if_pos hl,if_pos ⟨by omega,by omega,by rw [show fr+j-fr=j from by omega];exact hb,hl⟩];rw [if_pos rfl,if_neg hl,if_neg (by omega),akp (by omega)];rw [if_neg ht];by_cases h2:fr<=t∧t<fr+j∧JF bits (t-fr)=true∧t<W.length;rw [if_pos h2,if_pos ⟨h2.1,by omega,h2.2.2⟩];rw [if_neg h2,if_neg (by rintro⟨a,b,c⟩;exact h2 ⟨a,by omega,c⟩)];rw [if_neg hb,uo bits fr W j t];by_cases h2:fr<=t∧t<fr+j∧JF bits (t-fr)=true∧t<W.length;rw [if_pos h2,if_pos ⟨h2.1,by omega,h2.2.2⟩];rw [if_neg h2,if_neg];rintro⟨a,b,c⟩;refine h2 ⟨a,?_,c⟩;by_cases e:t=fr+j;subst e;rw [show fr+j-fr=j from by omega] at c;exact absurd c.1 hb;omega
theorem Md (bits:Int):∀j,Dv bits j=true->∃i,i<j∧JF bits i=true
 | 0,h=>by cases h
 | j+1,h=>by rw [Dv] at h;split at h;exact⟨j,by omega,‹_›⟩;obtain⟨i,h1,h2⟩:=Md bits j h;exact⟨i,by omega,h2⟩
theorem JG (bits:Int)(fr:Nat)(W:List By):∀j,Dv bits j=false->iw bits fr j W=W
 | 0,_=>rfl
 | j+1,h=>by rw [Dv] at h;split at h;cases h;rw [iw,if_neg ‹_›,JG bits fr W j h]
theorem acQ {M d:Mem}{o:Nat}{v:d9}{xs:List d9}(h:dV M v xs)(X:bP o M d)(g:(∀f l c,v≠.slice o f l c)∧∀f l c,v≠.sliceU o f l c):dV d v xs:=
 h.keep X.nx λid n i b _ a=>X.old id b λe=>by subst e;rcases a with⟨o,l,c,a⟩ | ⟨o,l,c,a⟩;exact g.1 _ _ _ a;exact g.2 _ _ _ a
theorem acR {lo id n fr p:Nat}{rid Qk bits:Int}{lv0 ag fv9 o a12 a13 a15 a16 a18:d9}{own D:List By}(L:D.length=n)(R:n<=100000)(P:fr+own.length<=n)(z:(∀f l c,o≠.slice id f l c)∧∀f l c,o≠.sliceU id f l c)(cf:H8)(J:Nat):∀(j i:Nat),i+j=own.length->∀(N:Nat),j<N->∀(M:Mem),M.Ok->M.lim<=id->dV M o (strs own)->jD lo M (.sliceU id 0 n 1) (iw bits fr i D)->∀(a25 a27:d9),
  ∃b27 M',T9 (λenv m k=>SI cf J none env m k) N (abO lv0 (iV rid) (iV Qk) fV tV fV (.ptr p 0) i0 ag fv9 fV fV a12 a13 fV a15 a16 (iN fr) a18 i0 fV o (.sliceU id 0 n 1) fV (iN i) a25 (iV bits) a27 (.bool (Dv bits i)) uV uV uV fV) M []=some [⟨.exit 2,(abO lv0 (iV rid) (iV Qk) fV tV fV (.ptr p 0) i0 ag fv9 fV fV a12 a13 fV a15 a16 (iN fr) a18 i0 fV o (.sliceU id 0 n 1) fV (iN (own.length)) fV (iV bits) b27 (.bool (Dv bits own.length)) uV uV uV fV),M',[],none⟩]∧bP id M M'∧jD lo M' (.sliceU id 0 n 1) (iw bits fr own.length D):=by
 intro j;induction j with
 | zero=>
  intro i Q N O M A h y B a25 a27;obtain⟨N,rfl⟩:∃k,N=k+1:=⟨N-1,by omega⟩;obtain rfl:i=own.length:=by omega
  have e:=y.len;rw [J3] at e;refine⟨a27,M,?_,bP.refl A,B⟩;rw [o9];simp [SI,w9,x9,D6,e]
 | succ j ih=>
  intro i Q N O M A h y B a25 a27;obtain⟨N,rfl⟩:∃k,N=k+1:=⟨N-1,by omega⟩;have x:i<own.length:=by omega
  have e:=y.len;rw [J3] at e;obtain⟨q,F⟩:∃q,q=i+1:=⟨_,rfl⟩;have G:=ah F (by omega);have u:=λ{β:Type} (K:d9->Option β)=>Xq bits i K;have E:iw bits fr q D=if JF bits i=true then (iw bits fr i D).set (fr+i) [] else iw bits fr i D:=by rw [F,iw]
  have C:Dv bits q=if JF bits i=true then true else Dv bits i:=by rw [F,Dv]
  cases hb:JF bits i with
  | true=>
   rw [hb,if_pos rfl] at E C;have r:(iw bits fr i D).length=n:=by rw [um];exact L
   obtain⟨M2,H,t,X2⟩:=Uv (id:=id) (by rw [r];exact B) A h (i:=fr+i) (by rw [r];omega) [];rw [r,← E] at t;obtain⟨b27,M',g,X,s⟩:=ih q (by omega) N (by omega) M2 X2.ok (by rw [X2.lim];exact h) (acQ y X2 z) t tV tV;refine⟨b27,M',?_,X2.trans X,s⟩;obtain⟨fi,v⟩:∃d,d=fr+i:=⟨_,rfl⟩;have I:=bO (a:=fr) (b:=i) v (by omega);have w:∀{β:Type} (k:Nat->Option β),idx n (iV (fi:Int)) k=k fi:=λk=>V6 n fi k (by omega);rw [← v] at H;rw [C] at g;rw [o9,← g];simp [SI,w9,x9,D6,x,e,u,hb,G,I,w,H]
  | false=>rw [hb,if_neg (by decide)] at E C;obtain⟨b27,M',g,X,s⟩:=ih q (by omega) N (by omega) M A h y (by rw [E];exact B) tV fV;refine⟨b27,M',?_,X,s⟩;rw [C] at g;rw [o9,← g];simp [SI,w9,x9,D6,x,e,u,hb,G]
def hdB (no:Int)(r:FR):By:=G7 bJ [no,((chunks (D8 r)).length:Int),((D8 r).length:Int),(qA (D8 r):Int)]
theorem VI:∀(n:Nat) (s:By),s.length<=n->∀w∈chunks s,w.length<=64
 | 0,s,h=>by obtain rfl:=acS.1 (show s.length=0 by omega);simp [cK]
 | n+1,s,h=>by by_cases hs:s=[];subst hs;simp [cK];have hp:=acC.2 hs;rw [jo hs];intro w hw;rcases O9.1 hw with rfl | hw;simp;omega;exact VI n (s.drop 64) (by simp;omega) w hw
theorem aEw {no:Nat}{r:FR}(c:r.valid=true)(b:no<=1000):(hdB (no:Int) r).length<=200:=by
 have d:=fB c;have e:=eF _ (D8 r) (aA _);have f:=NK (D8 r);have:=aF bJ [(no:Int),((chunks (D8 r)).length:Int),((D8 r).length:Int),(qA (D8 r):Int)] (by
  intro x a;simp only [O9,akZ,or_false] at a;unfold Sm;rcases a with rfl | rfl | rfl | rfl<;>omega)
 simp [bJ] at this;unfold hdB;simp [bJ];omega
theorem NV:∀(L:List FR) (k:Nat),(∀r∈L,r.valid=true)->k+L.length<=1000->∀w∈J4 k L,w.length<=200
 | [],_,_,_,w,hw=>by simp [J4] at hw
 | r::L,k,h,hk,w,hw=>by rw [J4,O4] at hw;simp only [adk] at hk;rcases hw with hw | hw;rcases O9.1 (show w∈hdB (k:Int) r::chunks (D8 r) from hw) with rfl | hw;exact aEw (h r (adI ..)) (by omega);have:=VI _ (D8 r) (aA _) w hw;omega;exact NV L (k+1) (λs hs=>h s (adh _ hs)) (by omega) w hw
theorem Me {no:Nat}{r:FR}(d:r.valid=true){h:By}{u:List By}(c:h=[]∨h=hdB (no:Int) r){k:Nat}(e:jT (h::u)=some k):1<=k∧k<=8:=by obtain⟨j,l,w,m,n,a,b,_⟩:=Uo e;rcases c with rfl | rfl;simp [splitB] at a;unfold hdB at a;rw [pE] at a;simp only [gX,adU,azU,azT] at a;have f:=EY _ (D8 r) (aA _);have g:=fB d;have i:=vG (zI r);rw [← a.2.2.1,EP (by omega) (by omega)] at b;injection b with b;omega
theorem alQ {ws:List By}(h:∀w∈ws,w.length<=200){k:Nat}(e:k<=8):((ws.drop 1).take k).flatten.length<=16000:=by
 have:=QW (b:=200) (ws:=(ws.drop 1).take k) λw c=>h w (afP (adv c));have a:((ws.drop 1).take k).length<=8:=by simp;omega
 have d:=adb 200 a;omega
theorem aju {B:List FR}{rest:List By}(g:Grown B)(m:B.length<=200)(o:∀w∈rest,w.length<=200)(n:∀r,¬ Rec (B.length+1) rest r)(i:rest=[]∨∃(no:Nat)(r:FR)(h:By)(u:List By),r.valid=true∧rest=h::u∧(h=[]∨h=hdB (no:Int) r))(v:d9):Us v [] (J4 1 B++rest):=by
 have c:∀w∈J4 1 B++rest,w.length<=200:=λw h=>by rcases O4.1 h with h | h;exact NV B 1 g.valid (by omega) w h;exact o w h
 have f:∀L' a,Reach [] (J4 1 B++rest) L' a->∀k,jT a=some k->1<=k∧k<=8:=λL' a d k b=>by
  rcases Xo d B [] rest rfl (by simp) (by simpa using g) (by simpa using m) (by simpa using n) with rfl | ⟨C,r,D,e,rfl⟩;rcases i with rfl | ⟨no,r,h,u,l,rfl,i⟩;simp [jT] at b;exact Me l i b;have l:r.valid=true:=g.valid r (by
   have e:B=C++r::D:=by simpa using e
   rw [e];simp)
  rw [J4] at b;exact Me (no:=C.length+1) l (h:=hdB ((C.length+1:Nat):Int) r) (u:=chunks (D8 r)++J4 (C.length+1+1) D++rest) (.inr rfl) (by
   have:(fT ((C.length+1:Nat):Int) (D8 r)++J4 (C.length+1+1) D)++rest=hdB ((C.length+1:Nat):Int) r::(chunks (D8 r)++J4 (C.length+1+1) D++rest):=by unfold fT hdB;simp
   rw [this] at b;exact b)
 refine⟨λw h=>by have:=c w h;omega,λL' a d=>.inr λk b=>by have:=(f L' a d k b).1;omega,λL' a d k b=>?_⟩;obtain⟨j,rfl⟩:=d.drop;exact alQ (λw h=>c w (afP h)) (f _ _ d k b).2
theorem BD {L l:List FR}{id:Int}(b:Grown L)(c:∀r∈L,r.f.room=id)(d:Dd L l):l=L:=by
 have e:L.filter (λx=>decide (x.f.room=id))=L:=ase.2 λr h=>by simp [c r h]
 have n:L.Pairwise XO:=by rw [as2];intro i j g k m;have a:=b.nos id;simp only [e] at a;exact .inr ⟨by rw [c _ (M7 g),c _ (M7 k)],by rw [a i g,a j k];omega⟩
 exact Du XO agl alJ _ _ (Xn b d) n λx=>alK b d x
theorem acT {l cs:List FR}(c:cs.length=l.length)(h:CpP l cs):cs.map FR.cn=l.map FR.cn:=by apply List.ext_getElem;simp [c];intro i a b;rw [asb,asb];exact (h i (by simpa using a) (by simpa using b)).cn
theorem Ra {L X:List FR}{id:Int}(a:X.map FR.cn=L.map FR.cn)(b:∀r∈L,r.f.room=id):∀r∈X,r.f.room=id:=λr h=>by
 have:r.cn∈L.map FR.cn:=by rw [← a];exact List.mem_map_of_mem h
 obtain⟨s,c,e⟩:=adM.1 this;rw [← (GD e).1];exact b s c
theorem agq {M:Mem}{i:Nat}{a:List FR}(h:fJ M (.sliceU i 0 a.length 32) a)(b:a≠[]){k:Nat}(f:k<=a.length)(nid:Nat):J5 nid 32 (.sliceU i 0 a.length 32) 0 (some k)=some (.sliceU i 0 k 32,none)∧fJ M (.sliceU i 0 k 32) (a.take k):=by
 have g:=acC.2 b;constructor;show bi (Nat.ble 0 k) (bi (Nat.ble k a.length) (bi (Nat.beq 32 32) (bi (Nat.blt 0 a.length) (some (d9.sliceU i (Nat.add 0 (Nat.mul 0 32)) (Nat.sub k 0) 32,(none:Option U7))) _) none) none) none=_;rw [show Nat.ble 0 k=true from wu (adC _),show Nat.ble k a.length=true from wu f,show Nat.blt 0 a.length=true from O6.mpr g];rfl;have e:(a.take k).length=k:=by simp;omega
 rcases h with⟨h,_⟩ | ⟨id,h1,h2,h3⟩;cases h;have d:id=i:=by rcases h1 with⟨c,h1⟩ | h1;cases h1;injection h1 with h1;exact h1.symm
 subst d;refine .inr ⟨id,.inr (by rw [e]),h2,?_⟩;rcases h3 with h3 | ⟨c,rows,h4,h5,h6⟩;exact absurd h3 b;refine .inr ⟨c,rows,h4,by rw [e];omega,λj l=>?_⟩;rw [h6 j (by omega)];simp
set_option maxHeartbeats 16000000
theorem Uw {bits:Int}{D A own a:List By}{fr:Nat}(b:D=A++(own++a))(m:fr=A.length):∃own',iw bits fr own.length D=A++(own'++a)∧own'.length=own.length∧(∀i (h:i<own'.length) (h':i<own.length),own'[i]=[]∨own'[i]=own[i])∧(Dv bits own.length=true->[]∈own'):=by
 have o:(iw bits fr own.length D).length=A.length+(own.length+a.length):=by rw [um,b];simp
 have d:∀t,t<fr->(iw bits fr own.length D)[t]?=A[t]?:=λt j=>by rw [uo,if_neg (by omega),b,ade (by omega)]
 have f:∀t,t<own.length->(iw bits fr own.length D)[fr+t]?=some []∨(iw bits fr own.length D)[fr+t]?=own[t]?:=λt j=>by rw [uo];split;exact .inl rfl;right;rw [b,adq (by omega),show fr+t-A.length=t from by omega,ade j]
 have g:∀t,(iw bits fr own.length D)[fr+(own.length+t)]?=a[t]?:=λt=>by rw [uo,if_neg (by omega),b,adq (by omega),show fr+(own.length+t)-A.length=own.length+t from by omega,adq (by omega),show own.length+t-own.length=t from by omega]
 refine⟨((iw bits fr own.length D).drop fr).take own.length,?_,by simp;omega,λi h h'=>?_,λk=>?_⟩;apply List.ext_getElem?;intro t;by_cases h1:t<fr;rw [d t h1,ade (by omega)];rw [adq (by omega)];by_cases h2:t-A.length<own.length;rw [ade (by simp;omega),alG h2,adQ,show fr+(t-A.length)=t from by omega];rw [adq (by simp;omega)];have c:(((iw bits fr own.length D).drop fr).take own.length).length=own.length:=by simp;omega
 rw [c];have:=g (t-A.length-own.length);rw [show fr+(own.length+(t-A.length-own.length))=t from by omega] at this;exact this;have e:(((iw bits fr own.length D).drop fr).take own.length)[i]?=(iw bits fr own.length D)[fr+i]?:=by rw [alG h',adQ]
 rw [aP h] at e;rcases f i h' with h3 | h3;rw [h3] at e;exact .inl (LA e);rw [h3,aP h'] at e;exact .inr (LA e);obtain⟨i,n,l⟩:=Md bits _ k;have e:(((iw bits fr own.length D).drop fr).take own.length)[i]?=some []:=by rw [alG n,adQ,uo,if_pos ⟨by omega,by omega,by rw [show fr+i-fr=i from by omega];exact l,by rw [b];simp;omega⟩]
 exact O0 e
theorem CP (a b:Nat)(h:0<b):Ap .i64 (a:Int) (b:Int)=some (iV ((a%b:Nat):Int)):=by obtain⟨c,rfl⟩:∃c,b=c+1:=⟨b-1,by omega⟩;rfl
theorem aya {m:Mem}(hm:m.Ok)(hl:m.lim<=m.nx)(bj:base.nx<=m.nx){v:d9}{fs:List FR}(hx:fJ m v fs)(hw:∀r∈fs,V3 m r)(id Qk bits:Int)(dz:Qk<9223372036854775808)(n z:Nat)(dc:50001<=z):
  ∃m',l8 KW z (n+210) (.func 6) [iV id,v,iV Qk,iV bits] m=some [⟨tV,m'⟩]∧Ext m m':=by
 have lim:∀{M:Mem},Ext m M->M.lim<=M.nx:=λE=>by rw [E.lim];exact zu hl E.nx
 have c8:=λm=>ay8 (n+208) z m;obtain⟨rr,m1,U,E1,ax⟩:=alO hm hx (λi h=>hw _ (M7 h)) (n+207) z (by omega);have C:=hx.len;rw [enter (sf:=f6) rfl rfl];cases rr with
 | false=>refine⟨m1,?_,E1⟩;simp [f6,w9,x9,D6,U,c8]
 | true=>
  obtain⟨du,ay⟩:=ax rfl;have hs:∀r∈fs,r.short:=λr hr=>by obtain⟨i,hi,e⟩:=aeO.1 hr;have:=ay i hi;rw [e] at this;simp only [FR.small,D5,decide_eq_true_eq] at this;exact⟨by omega,by omega,by omega⟩
  by_cases h12:12<fs.length;have B:(12:Int)<(fs.length:Int):=by omega
  refine⟨m1,?_,E1⟩;simp [f6,w9,x9,D6,U,c8,C,h12,B];have B:¬ (12:Int)<(fs.length:Int):=by omega
  by_cases hi1:id<1;refine⟨m1,?_,E1⟩;simp [f6,w9,x9,D6,U,c8,C,h12,B,hi1];by_cases hi6:6<id;refine⟨m1,?_,E1⟩;simp [f6,w9,x9,D6,U,c8,C,h12,B,hi1,hi6];by_cases ha0:Qk<0;refine⟨m1,?_,E1⟩;simp [f6,w9,x9,D6,U,c8,C,h12,B,hi1,hi6,ha0];obtain⟨m2,lv,fv,L,bc,E2,R,hg,hL,hr⟩:=alM E1.ok (lim E1) (hx.ext E1) (λr h=>(hw r h).ext E1) hs (by omega) id (by omega) (n+193) z dc;have E02:=E1.trans E2;obtain⟨cw,m3,l',cs,bd,E3,hd,fx,cc,ch,av,_,dl⟩:=Uu R E2.ok hL n z (by omega);have el:=BD hg hr hd;subst el;have au:=acT cc ch;have E03:=E02.trans E3;have R3:=R.ext E3;have dx:=zJ l' 1 hg.valid;obtain⟨cx,m4,be,E4,c7⟩:=JE R3 E3.ok (by omega) (n+207) z;have E04:=E03.trans E4;have G:∀{M:Mem} {lo:Nat} {w:d9} {W:List By},jD lo M w W->base.nx<=lo->Dsk M.nx M w W:=λ{M lo w W} h hb=>by rcases h with⟨rfl,rfl⟩ | ⟨i,t,c,h1,h2,h3,rfl,h4,h5,h6,h7⟩;exact .inl ⟨rfl,.inl (.inl ⟨rfl,rfl⟩)⟩;exact .inr ⟨.inr ⟨i,0,zu hb h1,.inr rfl,h2,W,t,h4,h7,by omega,by simp⟩,⟨λi' o l c e=>(by cases e),λi' o l c e=>(by injection e with e;rw [← e];exact h2)⟩⟩
  have b2:∀w,Us w [] (J4 1 l'):=λw=>by
   have:=aju (rest:=[]) hg hL (by simp) (λr h=>alN r h) (.inl rfl) w
   rwa [adB] at this
  obtain⟨m5,b0,ap,X,bb,E5,R5,dp,dd⟩:∃m5 b0 ap X,l8 KW z (n+209) (.func 21) [iV id,cx] m4=some [⟨.tuple [.ptr m4.nx 0,i0],m5⟩]∧Ext m4 m5∧bf m4.nx m5 m4.nx id b0 ap (J4 1 X) X∧QY [] (J4 1 l') X∧Grown X:=by rcases Ut E04.ok (lim E04) (G c7 (zu bj E03.nx)) (λ_=>b2 cx) id (n+194) z (by omega) with⟨h,_⟩ | ⟨_,h,_⟩ | ⟨_,_,m5,b0,ap,X,g,h1,h2,h3,h4,_⟩;exact absurd ⟨by omega,by omega⟩ h;omega;exact⟨m5,b0,ap,X,g,h1,h2,h3,h4⟩
  have ar:=(acN hg hL).uniq rfl dp;have bi:J4 1 X=J4 1 l':=(acz ar 1).symm;have dy:X.length=l'.length:=by simpa using (congrArg List.length ar).symm
  have E05:=E04.trans E5;have R35:=(R3.ext E4).ext E5;obtain⟨va,m6,aa,E6',c9⟩:=JE R5 E5.ok (by rw [bi];omega) (n+207) z;have E06:=E05.trans E6';obtain⟨vb,m7,ab,E7,ca⟩:=JE (R35.ext E6') E06.ok (by omega) (n+207) z;have E07:=E06.trans E7;have aq:=als (rJ (c9.ext E7)) (rJ ca) (by rw [bi];omega) (n+208) z (by omega);rw [decide_eq_true bi] at aq;have R57:=(R5.ext E6').ext E7;obtain⟨vc,m8,lX,bw,a9,E8,d8,c0,cd,b6,ci,_,_⟩:=Uu R57 E07.ok (by omega) n z (by omega);have d2:=BD dd (Ra ar.symm hr) d8;subst d2;have cf:=acT cd b6;have E08:=E07.trans E8;have E38:Ext m3 m8:=((((E4.trans E5).trans E6').trans E7).trans E8);have I:∀c∈cs,c.short:=λc h=>by obtain⟨i,hi,e⟩:=aeO.1 h;rw [← e];exact (ch i hi (by omega)).short (R.sh _ (M7 (by omega)))
  have a4:∀c∈bw,c.short:=λc h=>by obtain⟨i,hi,e⟩:=aeO.1 h;rw [← e];exact (b6 i hi (by omega)).short (R5.sh _ (M7 (by omega)))
  have s:∀{a b:List FR},a.map FR.cn=b.map FR.cn->∀i (h1:i<a.length) (h2:i<b.length),a[i].same b[i]=true:=λ{a b} e i h1 h2=>by
   have e2:(a.map FR.cn)[i]?=(b.map FR.cn)[i]?:=by rw [e]
   rw [adf,adf,aP h1,aP h2] at e2;exact Vw.2 (LA e2)
  obtain⟨m9,bg,E9⟩:=acL (cs:=bw) (us:=cs) E08.ok c0 (fx.ext E38) (by omega) (by omega) (s (by rw [cf,au,ar])) a4 I ci (λr h=>(av r h).ext E38) (n+205) z (by omega);have E09:=E08.trans E9;have E39:=E38.trans E9;have A:=(fx.ext E39).len;have R9:=R3.ext E39;have d4:∀k:Nat,n+k+(209-k)=n+k+(209-k):=λ_=>rfl;clear d4;have bt:=λ{β:Type} (p:d9->β) q=>(rJ c7).dD p q;have pa:=λ{β:Type} (p:d9->β) q=>(rJ c9).dD p q;have pb:=λ{β:Type} (p:d9->β) q=>(rJ ca).dD p q;have pc:=λ{β:Type} (p:d9->β) q=>c0.dD p q;have bs:=λ{β:Type} (p:d9->β) q=>fx.dD p q;by_cases hcs0:cs=[];have df:l'=[]:=acS.1 (by rw [← cc,hcs0];rfl);obtain⟨vd,b1,c3,E10,cb⟩:=JE R9 E09.ok (by omega) (n+207) z;have bl:=(rJ cb).len;rw [J3,df] at bl;rw [hcs0] at A;have pd:=λ{β:Type} (p:d9->β) q=>(rJ cb).dD p q;refine⟨b1,?_,E09.trans E10⟩;clear s G b2 lim ay ax;simp [J4] at bl;simp at A;simp [f6,w9,x9,D6,U,c8,C,h12,B,hi1,hi6,ha0,bc,bd,bs,be,bt,bb,aa,pa,ab,pb,aq,a9,pc,bg,A,c3,pd,bl];have b5:=acC.2 hcs0;obtain⟨an,rfl⟩:∃an:Nat,Qk=(an:Int):=⟨Qk.toNat,by omega⟩;obtain⟨kk,cp⟩:∃kk,kk=an%cs.length:=⟨_,rfl⟩;have aw:kk<cs.length:=by rw [cp];exact ah5 _ b5
  have aj:=CP an cs.length b5;rw [← cp] at aj;have b9:¬ (cs.length:Int)=0:=by omega
  obtain⟨cy,cz,d0,b1,ac,E10⟩:=acP (rid:=id) (Qk:=(an:Int)) (bits:=bits) (p:=m1.nx) (lv0:=v) (ag:=.ptr m4.nx 0) E09.ok (lim E09) (fx.ext E39) (λr h=>(av r h).ext E39) I au hg.valid hL kk (by omega) (n+197) z (by omega) kk 0 (by omega) z (by omega) m9 (Ext.refl E09.ok) uV uV uV uV;have E010:=E09.trans E10;have E310:=E39.trans E10;have co:=M7 aw;have af:kk<l'.length:=by omega
  obtain⟨w1,w2,w3⟩:=I _ co;obtain⟨q,hq⟩:∃q,q=kk+1:=⟨_,rfl⟩;have e1:=ah hq (by omega);obtain⟨dt,f1,_,f2,_⟩:=(fx.ext E310).at aw;simp at f1;have bz:cs[kk].cn=l'[kk].cn:=by
   have e:(cs.map FR.cn)[kk]?=(l'.map FR.cn)[kk]?:=by rw [au]
   rw [adf,adf,aP aw,aP af] at e;exact LA e
  have ak:l'[kk].valid=true:=hg.valid _ (M7 af);have dn:cs[kk].valid=true:=by
   have e:cs[kk].cn.valid=l'[kk].cn.valid:=by rw [bz]
   rw [fK,fK] at e;rw [e];exact ak
  have dm:=uj bz;obtain⟨a5,Q,c2,E11,a2⟩:∃a5 Q,l8 KW z (n+209) (.func 10) [iV (q:Int),.agg cs[kk].f.cells] b1=some [⟨.tuple [a5,i0],Q⟩]∧Ext b1 Q∧dV Q a5 (strs (fT (q:Int) (D8 l'[kk]))):=by obtain⟨a5,e,Q,g,E,h⟩:=acg E010.ok (lim E010) ((av _ co).ext E310) w1 w2 w3 (q:Int) (n+197) z (by omega);rcases h with⟨_,_,rfl,h4⟩ | ⟨h,_,_⟩;rw [dm] at h4;exact⟨a5,Q,g,E,h4⟩;exact absurd ⟨⟨by omega,by omega⟩,dn⟩ h
  have E011:=E010.trans E11;have E311:=E310.trans E11;obtain⟨dr,cv,b3,E12,b4⟩:=JE (R3.ext E311) E011.ok (by omega) (n+207) z;have E012:=E011.trans E12;have ba:l'=l'.take kk++l'[kk]::l'.drop q:=by rw [hq,← Q6 af,amV]
  have cu:(l'.take kk).length=kk:=by simp;omega
  obtain⟨fr,a8⟩:∃d,d=(J4 1 (l'.take kk)).length:=⟨_,rfl⟩;obtain⟨own,H⟩:∃d,d=fT (q:Int) (D8 l'[kk]):=⟨_,rfl⟩;obtain⟨J,bo⟩:∃d,d=J4 (q+1) (l'.drop q):=⟨_,rfl⟩;have hD:J4 1 l'=J4 1 (l'.take kk)++(own++J):=by have e:J4 1 l'=J4 1 (l'.take kk++l'[kk]::l'.drop q):=congrArg (J4 1) ba;rw [e,Ma,J4,cu,an6 1 kk,← hq,H,bo]
  have ct:own.length=P6 l'[kk]:=by rw [H,bW];rfl
  have P:2<=own.length:=by rw [ct];have:=vG (zI l'[kk]);unfold P6;omega
  obtain⟨N,hN⟩:∃N,N=(J4 1 l').length:=⟨_,rfl⟩;have d5:N=fr+own.length+J.length:=by rw [hN,hD,U1,U1,a8];omega
  obtain⟨idd,rfl,b8⟩:∃idd,dr=.sliceU idd 0 N 1∧Q.nx<=idd:=by rcases b4 with⟨_,e⟩ | ⟨i,t,c,h1,h2,h3,rfl,_⟩;rw [e] at hN;simp at hN;omega;exact⟨i,by rw [hN],h1⟩
  rw [← H] at a2;have az:=alr a2;have bh:(∀f l c,a5≠.slice idd f l c)∧∀f l c,a5≠.sliceU idd f l c:=⟨λf l c e=>by have:=az idd f l c (.inl e);omega,λf l c e=>by have:=az idd f l c (.inr e);omega⟩;have bq:cv.lim<=idd:=by rw [E012.lim];exact zu (zu hl E011.nx) b8
  obtain⟨ds,m13,a7,X13,Z⟩:=acR (lo:=Q.nx) (id:=idd) (n:=N) (fr:=fr) (p:=m1.nx) (rid:=id) (Qk:=(an:Int)) (bits:=bits) (lv0:=v) (ag:=.ptr m4.nx 0) (fv9:=cw) (a12:=iV (kk:Int)) (a13:=iV (kk:Int)) (a15:=cy) (a16:=cz) (a18:=d0) (own:=own) (D:=J4 1 l') hN.symm (by omega) (by omega) bh (l8 KW z (n+209)) z own.length 0 (by omega) z (by omega) cv E012.ok bq (a2.ext E12) b4 uV uV;have E1113:Ext Q m13:=E12.om X13 b8;have E013:=E011.trans E1113;have E313:=E311.trans E1113;have a3:=a2.len;rw [J3] at a3;have po:=λ{β:Type} (p:d9->β) q=>a2.dD p q;have cm:Grown (l'.take kk):=by have h:=hg;rw [ba] at h;exact (h.at _ _ _ rfl).1
  have hA:(l'.take kk).length<=200:=by omega
  have bp:=NV l' 1 hg.valid (by omega);have ao:∀(dv:d9) (rest:List By),Dsk m13.nx m13 dv (J4 1 (l'.take kk)++rest)->(∀w∈rest,w.length<=200)->(∀r,¬ Rec ((l'.take kk).length+1) rest r)->(rest=[]∨∃(no:Nat) (r:FR) (h:By) (u:List By),r.valid=true∧rest=h::u∧(h=[]∨h=hdB (no:Int) r))->(J4 1 (l'.take kk)++rest).length<=4000->
    ∃y p3 v3 m15 v9 m16,l8 KW z (n+209) (.func 21) [iV id,dv] m13=some [⟨.tuple [.ptr p3 0,i0],y⟩]∧Ext m13 y∧y.Ok∧y.lim<=y.nx∧l8 KW z (n+209) (.func 26) [.ptr p3 0] (ext y [.void])=some [⟨v3,m15⟩]∧Ext (ext y [.void]) m15∧(∀{β:Type} (p:d9->β) (q:β),fD v3 p q=q)∧(∀(x a:OF) (ls:List d9) (K:T d9),x ls K=cw->a ls K=(iN kk)->Rn 32 x none (some a) ls K y.nx=some (v9,none))∧l8 KW z (n+209) (.func 28) [v3,v9] m15=some [⟨tV,m16⟩]∧Ext m15 m16:=λdv rest a6 dj cr bn dg=>by
   rcases Ut E013.ok (lim E013) a6 (λ_=>aju cm hA dj cr bn dv) id (n+194) z (by omega) with⟨h,_⟩ | ⟨_,h,_⟩ | ⟨_,_,y,lv3,fv3,X3,S,E14,R14,opn3,hg3,_⟩;exact absurd ⟨by omega,by omega⟩ h;omega;have op:=NU (l'.take kk) [] rest (by simpa using cm) (by simpa using hA) (λr h=>absurd (by simpa using h) (cr r));have bk:(l'.take kk).map FR.cn=X3.map FR.cn:=(show QY [] (J4 1 (l'.take kk)++rest) (l'.take kk) from by simpa using op).uniq rfl opn3;have dw:X3.length=kk:=by have:=congrArg List.length bk;simp at this;omega
   have E014:=E013.trans E14;have Ev:=C8 E014.ok [U7.void];obtain⟨v3,m15,l3,bx,V,E15,da,c1,ce,b7,cj,_,_⟩:=Uu (R14.ext Ev) Ev.ok (by omega) n z (by omega);have di:∀r∈l'.take kk,r.f.room=id:=λr h=>hr r (adv h);have d3:=BD hg3 (Ra bk.symm di) da;subst d3;have cg:=acT ce b7;obtain⟨i0,rfl⟩:=dl hcs0;have E315:Ext m3 m15:=((E313.trans E14).trans Ev).trans E15;have ft:=agq (fx.ext E315) hcs0 (agI aw) y.nx;have dq:∀c∈bx,c.short:=λc h=>by obtain⟨i,hi,e⟩:=aeO.1 h;rw [← e];exact (b7 i hi (by omega)).short (R14.sh _ (M7 (by omega)))
   obtain⟨m16,Y,E16⟩:=acL (cs:=bx) (us:=cs.take kk) E15.ok c1 ft.2 (by simp;omega) (by omega) (s (by rw [cg,← bk,amO,amO,au])) dq (λc h=>I c (adv h)) cj (λr h=>(av r (adv h)).ext E315) (n+205) z (by omega);refine⟨y,_,v3,m15,_,m16,S,E14,E014.ok,lim E014,V,E15,λp q=>c1.dD p q,λx a ls K hx ha=>?_,Y,E16⟩;show iR (a ls K) (λh=>J5 y.nx 32 (x ls K) 0 (some h))=_;rw [ha,nu,jN,hx];exact ft.1
  obtain⟨am,hT,ae,ad,d6⟩:=Uw (bits:=bits) hD a8;have c4:(l'.take kk).length+1=q:=by rw [cu,hq]
  have al:∀w∈own++J,w.length<=200:=λw h=>bp w (by rw [hD];exact adO _ h);have O:∀h u,own=h::u->h=hdB (q:Int) l'[kk]:=λh u e=>by rw [H] at e;unfold fT at e;exact (ahs e).1.symm
  obtain⟨a1,d7⟩:∃a,a=fr+own.length:=⟨_,rfl⟩;have ea:=bO (a:=fr) (b:=own.length) d7 (by omega);have c5:¬ (N:Int)<(a1:Int):=by omega
  have c6:¬ N<a1:=by omega
  have e0:=Z;have z0:(J4 1 (l'.take 0)).length=0:=rfl;rw [z0] at ac;rw [← a8] at ac;simp at ac A;cases hany:Dv bits own.length with
  | true=>
   have a6:=G Z (zu bj E011.nx);rw [hT] at a6;have a0:Dv bits 0=false:=rfl;rw [a0,hany] at a7;obtain⟨y,p3,v3,m15,v9,m16,S,E14,F,ai,V,E15,bu,br,Y,E16⟩:=ao (.sliceU idd 0 N 1) (am++J) a6 (λw h=>by
     rcases O4.1 h with h | h;obtain⟨i,hi,e⟩:=aeO.1 h;rcases ad i hi (by omega) with h3 | h3;rw [← e,h3];simp;rw [← e,h3];exact al _ (adK _ (M7 _));exact al w (adO _ h)) (by
     rw [c4];exact Xp ak (by rw [ae,ct]) (λi h h'=>by
      have:=ad i h (by rw [← ae];exact h);simp only [H] at this;exact this) (d6 hany)) (.inr (by
     cases ho':am with
     | nil=>rw [ho'] at ae;simp at ae;omega
     | cons h u=>
      refine⟨q,l'[kk],h,u++J,ak,rfl,?_⟩;have h0:=ad 0 (by rw [ho'];simp) (by omega);simp only [ho',amS] at h0;rcases h0 with h0 | h0;exact .inl h0;right;cases ho2:own with
      | nil=>rw [ho2] at P;simp at P
      | cons h2 u2=>
       simp only [ho2,amS] at h0;rw [h0];exact O h2 u2 ho2)) (by
     have:(J4 1 (l'.take kk)++(am++J)).length=N:=(by rw [U1,U1,ae,← a8,d5];omega);rw [this];omega)
   refine⟨m16,?_,(((E013.trans E14).trans (C8 F [U7.void])).trans E15).trans E16⟩;have bv:m15.get y.nx=some .void:=by rw [E15.old _ (by simp),j6 F];rfl
   clear ao s G b2 lim ay ax ad al bp O I a4 az bh;simp at a7;simp [f6,w9,x9,D6,xS F ai,U,c8,C,h12,B,hi1,hi6,ha0,bc,bd,bs,be,bt,bb,aa,pa,ab,pb,aq,a9,pc,bg,A,b9,hcs0,aj,ac,f1,f2,e1,c2,po,b3,a3,ea,c5,c6,a7,S,V,bu,br,bv,uf,Y]
  | false=>
   have a0:Dv bits 0=false:=rfl;rw [a0,hany] at a7;rw [JG bits fr (J4 1 l') own.length hany] at Z;obtain⟨hi,de⟩:∃h,h+1=a1:=⟨a1-1,by omega⟩;have eb:=rC de (by omega);have cq:J4 1 l'≠[]:=λe=>by rw [e] at hN;simp at hN;omega
   have db:=((G Z (zu bj E011.nx)).e).dk cq;obtain⟨dv,cl,ck,_,dh⟩:=NT db 0 hi cq (by omega) (.inr (by omega)) m13.nx;have bm:Um m13.nx dv:=dh _ ⟨λi o l c e=>(by cases e),λi o l c e=>(by
    injection e with e;rw [← e];exact (nH Z rfl).2.1)⟩
   have d1:=λ(x b:OF) (ls:List d9) (K:T d9) (hx:x ls K=.sliceU idd 0 N 1) (hb:b ls K=(iN hi))=>(Un hx hb m13.nx).trans (cl (some hi) (.inl (by rw [S9])));have hW:((J4 1 l').drop 0).take hi=J4 1 (l'.take kk)++own.take (P6 l'[kk]-1):=by rw [adx,hD,List.take_append,← a8,adt (by omega),List.take_append,show hi-fr=P6 l'[kk]-1 from by omega,show P6 l'[kk]-1-own.length=0 from by omega,am1,adB]
   rw [hW] at ck;obtain⟨y,p3,v3,m15,v9,m16,S,E14,F,ai,V,E15,bu,br,Y,E16⟩:=ao dv (own.take (P6 l'[kk]-1)) (.inr ⟨ck,bm⟩) (λw h=>al w (adK _ (adv h))) (by
     rw [c4,H];exact acO ak) (.inr (by
     cases ho':own with
     | nil=>rw [ho'] at P;simp at P
     | cons h u=>
      obtain⟨j,hj⟩:∃j,P6 l'[kk]-1=j+1:=⟨P6 l'[kk]-2,by omega⟩;exact⟨q,l'[kk],h,u.take j,ak,by rw [hj,asc],.inr (O h u ho')⟩)) (by
     rw [U1,akY,← a8];omega)
   refine⟨m16,?_,(((E013.trans E14).trans (C8 F [U7.void])).trans E15).trans E16⟩;have bv:m15.get y.nx=some .void:=by rw [E15.old _ (by simp),j6 F];rfl
   clear ao s G b2 lim ay ax ad al bp O I a4 az bh;simp at a7;simp [f6,w9,x9,D6,xS F ai,U,c8,C,h12,B,hi1,hi6,ha0,bc,bd,bs,be,bt,bb,aa,pa,ab,pb,aq,a9,pc,bg,A,b9,hcs0,aj,ac,f1,f2,e1,c2,po,b3,a3,ea,c5,c6,a7,eb,d1,S,V,bu,br,bv,uf,Y]
end
end Go.Proofs.YtfnlnpllpfhhnaaGreatDoor.TT
