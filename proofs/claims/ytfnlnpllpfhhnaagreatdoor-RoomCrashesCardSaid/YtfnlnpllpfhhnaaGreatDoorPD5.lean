/- Functions of the program and of the specification, walked; conditions: the memory holds what the arguments say. -/
import Derived.Test.YtfnlnpllpfhhnaaGreatDoorPD4
set_option linter.all false
namespace Go.Proofs.YtfnlnpllpfhhnaaGreatDoor.TT
open Go Go.AM
set_option maxRecDepth 100000
set_option maxHeartbeats 2000000
structure FR.Good (r:FR):Prop where
 rf:bM 100 (.agg r.f.cells) (.agg r.f.cells)=true
 one:I6 r.f.cells=true
 no:Z0 r.f.no
theorem V3.good {m:Mem}{r:FR}(h:V3 m r)(hs:r.short):r.Good:=⟨(h.sh hs).same,h.one,h.nb⟩
theorem NP {m:Mem}(b:m.Ok)(c:m.lim<=m.nx)(n a:Nat)(f:G5):∃m',l8 KW a (n+1) (.func 51) [.agg f.cells] m=some [⟨.agg [iV f.room,iV f.no],m'⟩]∧Ext m m':=
 ⟨_,NG n a f m b c,C8 b _⟩
theorem Gy {m:Mem}(c:m.Ok)(h:m.lim<=m.nx)(n a:Nat)(b:1000<=a){x y:FR}(i:x.Good)(j:y.Good):
  ∃m',l8 KW a (n+4) (.func 105) [.agg x.f.cells,.agg y.f.cells] m=some [⟨iV (x.ord y),m'⟩]∧Ext m m':=by
 rw [enter (sf:=f105) rfl rfl];have E0:=C8 c [l6 x.f.cells,l6 y.f.cells];have lim:∀{M:Mem},Ext m M->M.lim<=M.nx:=λE=>by rw [E.lim];have:=E.nx;omega
 obtain⟨k,d,E1⟩:=NP E0.ok (lim E0) (n+2) a x.f;have E01:=E0.trans E1;have o:k.get (m.nx+1)=some (l6 y.f.cells):=by rw [E1.old _ (by simp),l5 c];rfl
 obtain⟨p,e,E2⟩:=NP E01.ok (lim E01) (n+2) a y.f;have E02:=E01.trans E2;obtain⟨l,g,E3⟩:=afZ E02.ok (lim E02) n a b x.f.room x.f.no y.f.room y.f.no;exact⟨l,by simp [f105,eO c h,D6,d,o,e,g,FR.ord,i.rf,j.rf],E02.trans E3⟩
theorem VD {m:Mem}(b:m.Ok)(e:m.lim<=m.nx)(n a:Nat){x y:FR}(g:x.Good)(h:y.Good):
  ∃m',l8 KW a (n+4) (.func 108) [.agg x.f.cells,.agg y.f.cells] m=some [⟨.bool (x.Js y),m'⟩]∧Ext m m':=by
 rw [enter (sf:=f108) rfl rfl];have E0:=C8 b [l6 x.f.cells,l6 y.f.cells];have lim:∀{M:Mem},Ext m M->M.lim<=M.nx:=λE=>by rw [E.lim];have:=E.nx;omega
 obtain⟨i,c,E1⟩:=NP E0.ok (lim E0) (n+2) a x.f;have E01:=E0.trans E1;have k:i.get (m.nx+1)=some (l6 y.f.cells):=by rw [E1.old _ (by simp),l5 b];rfl
 obtain⟨j,d,E2⟩:=NP E01.ok (lim E01) (n+2) a y.f;exact⟨j,by simp [f108,eO b e,D6,c,k,d,FR.Js,g.rf,h.rf],E01.trans E2⟩
def FR.before (x y:FR):Bool:=decide (x.f.room<y.f.room)||(decide (x.f.room=y.f.room)&&decide (x.f.no<y.f.no))
def FA (m:Mem)(id:Nat)(l:List FR):Prop:=Ey m id 32 (l.map λr=>r.f.cells)
theorem FA.ld {m:Mem}{id:Nat}{l:List FR}(h:FA m id l){i:Nat}(hi:i<l.length):YR (m.get id) (i*32) 32=some (.agg l[i].f.cells):=by have:=Ey.YR h (i:=i) (by simpa using hi);simpa using this
theorem FA.store {m:Mem}{id:Nat}{l:List FR}(h:FA m id l)(j:m.Ok)(b:id<m.nx)(a:m.lim<=id){i:Nat}(hi:i<l.length){r:FR}(g:r.Good):
  ∃m',(∀{β:Type} (k:Mem->Option β),storeAt m id (i*32) r.f.cells k=k m')∧FA m' id (l.set i r)∧bP id m m':=by
 obtain⟨m',c,d,e⟩:=Ey.store h j b a (i:=i) (by simpa using hi) (G5.len r.f) g.one;refine⟨m',c,?_,e⟩;unfold FA;rw [List.map_set];exact d
structure Ar (m:Mem)(id:Nat)(l:List FR):Prop where
 ok:m.Ok
 fa:FA m id l
 lt:id<m.nx
 lim:m.lim<=id
 good:∀r,r∈l->r.Good
 big:l.length<=200
theorem Ar.ext {m a:Mem}{id:Nat}{l:List FR}(h:Ar m id l)(e:Ext m a):Ar a id l:=
 ⟨e.ok,Ey.ext h.fa h.lt e,nA h.lt e.nx,by rw [e.lim];exact h.lim,h.good,h.big⟩
theorem Ar.lm {m:Mem}{id:Nat}{l:List FR}(h:Ar m id l):m.lim<=m.nx:=zu h.lim (agI h.lt)
structure mh (id:Nat)(m:Mem)(l:List FR)(m':Mem)(l':List FR):Prop where
 ext:bP id m m'
 ar:Ar m' id l'
 len:l'.length=l.length
 sub:∀r,r∈l'->r∈l
theorem mh.refl {id:Nat}{m:Mem}{l:List FR}(h:Ar m id l):mh id m l m l:=⟨bP.refl h.ok,h,rfl,λ_ h=>h⟩
theorem mh.trans {id:Nat}{a b c:Mem}{l d l'':List FR}(h:mh id a l b d)(k:mh id b d c l''):mh id a l c l'':=
 ⟨h.ext.trans k.ext,k.ar,k.len.trans h.len,λr e=>h.sub r (k.sub r e)⟩
theorem mh.of {id:Nat}{m a:Mem}{l:List FR}(h:Ar m id l)(e:Ext m a):mh id m l a l:=⟨e.toB,h.ext e,rfl,λ_ h=>h⟩
theorem Ar.get {m:Mem}{id:Nat}{l:List FR}(h:Ar m id l){i:Nat}(hi:i<l.length):l[i].Good:=h.good _ (M7 hi)
theorem Ar.store {m:Mem}{id:Nat}{l:List FR}(h:Ar m id l){i:Nat}(hi:i<l.length){r:FR}(b:r.Good):
  ∃m',(∀{β:Type} (k:Mem->Option β),storeAt m id (i*32) r.f.cells k=k m')∧Ar m' id (l.set i r)∧bP id m m':=by
 obtain⟨m',c,d,a⟩:=h.fa.store h.ok h.lt h.lim hi b;exact⟨m',c,⟨a.ok,d,nA h.lt a.nx,by rw [a.lim];exact h.lim,λx e=>by
  rcases ahv e with h' | rfl;exact h.good _ h';exact b,by simpa using h.big⟩,a⟩
def swp (l:List FR)(i j:Nat)(hi:i<l.length)(hj:j<l.length):List FR:=(l.set i l[j]).set j l[i]
theorem swp_get {l:List FR}{i j:Nat}(hi:i<l.length)(a:j<l.length)(k:Nat):(swp l i j hi a)[k]?=if k=j then l[i]? else if k=i then l[j]? else l[k]?:=by unfold swp;rw [akX,akX];by_cases h1:j=k;subst h1;simp [hi,a];by_cases h2:i=k;subst h2;simp [h1,hi,a,akd h1];simp [h1,h2,akd h1,akd h2]
theorem Ar.swap {m:Mem}{id:Nat}{l:List FR}(h:Ar m id l){i j:Nat}(hi:i<l.length)(b:j<l.length):
  ∃m1 m2,(∀{β:Type} (k:Mem->Option β),storeAt m id (i*32) l[j].f.cells k=k m1)∧(∀{β:Type} (k:Mem->Option β),storeAt m1 id (j*32) l[i].f.cells k=k m2)∧mh id m l m2 (swp l i j hi b):=by
 obtain⟨m1,c,d,e⟩:=h.store hi (h.get b);obtain⟨m2,g,n,o⟩:=d.store (i:=j) (by simpa using b) (h.get hi);refine⟨m1,m2,c,g,e.trans o,n,by simp [swp],λr a=>?_⟩;rcases ahv a with a | rfl;rcases ahv a with a | rfl;exact a;exact M7 b;exact M7 hi
theorem bO {a b p:Nat}(h:p=a+b)(hp:p<4611686018427387904):sP ((a:Int)+(b:Int))=(p:Int):=by rw [dM (by omega) (by omega)];omega
theorem aZ {a b p:Nat}(h:p+b=a)(hp:a<4611686018427387904):sP ((a:Int)-(b:Int))=(p:Int):=by rw [dM (by omega) (by omega)];omega
theorem ah {a p:Nat}(h:p=a+1)(hp:p<4611686018427387904):sP ((a:Int)+1)=(p:Int):=by rw [dM (by omega) (by omega)];omega
theorem rC {a p:Nat}(h:p+1=a)(hp:a<4611686018427387904):sP ((a:Int)-1)=(p:Int):=by rw [dM (by omega) (by omega)];omega
def SwR (a b i c:Nat)(l l':List FR):Prop:=∀k,l'[k]?=if a+i<=k∧k<a+c then l[k+(b-a)]? else if b+i<=k∧k<b+c then l[k-(b-a)]? else l[k]?
theorem SwR.step {a b i c:Nat}{l l':List FR}(d:a+c<=b)(e:i<c)(hi:a+i<l.length)(f:b+i<l.length)(h:SwR a b (i+1) c (swp l (a+i) (b+i) hi f) l'):SwR a b i c l l':=by intro k;rw [h k];simp only [swp_get];by_cases h1:k=a+i;subst h1;rw [if_neg (by omega),if_neg (by omega),if_neg (by omega),if_pos rfl,if_pos (by omega)];congr 1;omega;by_cases h2:k=b+i;subst h2;rw [if_neg (by omega),if_neg (by omega),if_pos rfl,if_neg (by omega),if_pos (by omega)];congr 1;omega;by_cases h3:a+i<=k∧k<a+c;rw [if_pos (by omega),if_pos h3,if_neg (by omega),if_neg (by omega)];by_cases h4:b+i<=k∧k<b+c;rw [if_neg (by omega),if_pos (by omega),if_neg h3,if_pos h4,if_neg (by omega),if_neg (by omega)];rw [if_neg (by omega),if_neg (by omega),if_neg h3,if_neg h4,if_neg h2,if_neg h1]
theorem acp (Q u id a b c n:Nat)(r:a+c<=b)(K:b+c<=n)(R:n<=200):
  ∀(j i:Nat),i+j=c->∀(N:Nat),j<N->∀(m:Mem) (l:List FR),Ar m id l->l.length=n->∀(x2:d9),
   ∃m' l',T9 (λenv m k=>Jh (l8 KW u Q) u none env m k) N (nV6 (iN i) (iN c) x2 (.sliceU id 0 n 32) (iN a) (iN b)) m []=some [⟨.exit 0,(nV6 (iN c) (iN c) fV (.sliceU id 0 n 32) (iN a) (iN b)),m',[],none⟩]∧mh id m l m' l'∧SwR a b i c l l':=by
 intro j;induction j with
 | zero=>
  intro i t N J m l h v x2;obtain⟨N,rfl⟩:∃M,N=M+1:=⟨N-1,by omega⟩;obtain rfl:i=c:=by omega
  refine⟨m,l,?_,mh.refl h,λk=>?_⟩;rw [o9];simp [Jh];rw [if_neg (by omega),if_neg (by omega)]
 | succ j ih=>
  intro i t N J m l h v x2;obtain⟨N,rfl⟩:∃M,N=M+1:=⟨N-1,by omega⟩;have f:a+i<l.length:=by omega
  have o:b+i<l.length:=by omega
  obtain⟨S,P,D,E,e⟩:=h.swap f o;obtain⟨m',l',g,d,A⟩:=ih (i+1) (by omega) N (by omega) P _ e.ar (e.len.trans v) tV;refine⟨m',l',?_,e.trans d,SwR.step r (by omega) f o A⟩;rw [o9,← g];have B:=h.fa.ld f;have C:=h.fa.ld o;have H:=(h.get f).rf;have I:=(h.get o).rf;generalize hx:l[a+i]=x at *;generalize hy:l[b+i]=y at *;clear A d ih e g;obtain⟨p,w⟩:∃p,p=a+i:=⟨_,rfl⟩;obtain⟨q,z⟩:∃q,q=b+i:=⟨_,rfl⟩;rw [← w] at B D;rw [← z] at C E;have F:=bO w (by omega);have G:=bO z (by omega);have L:∀{β:Type} (k:Nat->Option β),idx n (iV (p:Int)) k=k p:=λk=>V6 _ _ k (by omega);have O:∀{β:Type} (k:Nat->Option β),idx n (iV (q:Int)) k=k q:=λk=>V6 _ _ k (by omega);have s:i<c:=by omega
  simp [Jh,s,F,G,L,O,B,C,D,E,H,I,G5.len,dZ (i:=i) (by omega)]
theorem NQ {m:Mem}{id:Nat}{l:List FR}(h:Ar m id l)(i d:Nat)(n:1000<=d)(a b c:Nat)(e:a+c<=b)(f:b+c<=l.length)(w:d9):
  ∃m' l',l8 KW d (i+1) (.func 426) [.sliceU id 0 l.length 32,iN a,iN b,iN c,w] m=some [⟨.tuple [],m'⟩]∧mh id m l m' l'∧SwR a b 0 c l l':=by
 have j:=h.big;obtain⟨m',l',g,k,o⟩:=acp i d id a b c l.length e f j c 0 (by omega) d (by omega) m l h rfl uV;refine⟨m',l',?_,k,o⟩;rw [enter (sf:=akk) rfl rfl];simp at g;simp [akk,g]
def zH (a m b:Nat)(l l':List FR):Prop:=∀k,l'[k]?=if a<=k∧k<a+(b-m) then l[k+(m-a)]? else if a+(b-m)<=k∧k<b then l[k-(b-m)]? else l[k]?
theorem zH.left {m i j:Nat}{l b l2:List FR}(e:i<=m)(d:j<i)(a:SwR (m-i) m 0 j l b)(c:zH (m-(i-j)) m (m+j) b l2):zH (m-i) m (m+j) l l2:=by
 intro k;rw [c k];split
 ·rw [a];repeat' split
  all_goals first | omega | rfl | (congr 1;omega)
 ·split
  ·rw [a];repeat' split
   all_goals first | omega | rfl | (congr 1;omega)
  ·rw [a];repeat' split
   all_goals first | omega | rfl | (congr 1;omega)
theorem zH.right {m i j:Nat}{l b l2:List FR}(e:i<=m)(d:i<j)(a:SwR (m-i) (m+j-i) 0 i l b)(c:zH (m-i) m (m+(j-i)) b l2):zH (m-i) m (m+j) l l2:=by
 intro k;rw [c k];split
 ·rw [a];repeat' split
  all_goals first | omega | rfl | (congr 1;omega)
 ·split
  ·rw [a];repeat' split
   all_goals first | omega | rfl | (congr 1;omega)
  ·rw [a];repeat' split
   all_goals first | omega | rfl | (congr 1;omega)
theorem zH.last {m g:Nat}{l l2:List FR}(a:g<=m)(h:SwR (m-g) m 0 g l l2):zH (m-g) m (m+g) l l2:=by
 intro k;rw [h k];repeat' split
 all_goals first | omega | rfl | (congr 1;omega)
theorem acr (O v:Nat)(A:1000<=v)(id a m b n:Nat)(X:n<=200)(w:d9):
  ∀(s i j:Nat),i+j<=s->0<i->0<j->i<=m->m+j<=n->∀(N:Nat),s<N->∀(M:Mem) (l:List FR),Ar M id l->l.length=n->∀(x5 x6:d9),
   ∃g M' l' b6,T9 (λenv m k=>EJ (l8 KW v (O+1)) v none env m k) N (QB (iN m) (iN a) (iN b) (iN i) (iN j) x5 x6 (.sliceU id 0 n 32) w) M []=some [⟨.exit 0,(QB (iN m) (iN a) (iN b) (iN g) (iN g) fV b6 (.sliceU id 0 n 32) w),M',[],none⟩]∧mh id M l M' l'∧0<g∧g<=m∧m+g<=n∧
    ∀l2,SwR (m-g) m 0 g l' l2->zH (m-i) m (m+j) l l2:=by
 intro s;induction s with
 | zero=>intro i j U H;omega
 | succ s ih=>
  intro i j U H S c B N W M l h E x5 x6;obtain⟨N,rfl⟩:∃M,N=M+1:=⟨N-1,by omega⟩;by_cases hij:i=j;subst hij;refine⟨i,M,l,x6,?_,mh.refl h,H,c,B,λl2 z=>zH.last c z⟩;rw [o9];simp [EJ];have C:¬ (i:Int)=(j:Int):=by omega
  obtain⟨p,T⟩:∃p,p+i=m:=⟨m-i,by omega⟩;have P:=aZ T (by omega);have D:m-i=p:=by omega
  by_cases hlt:j<i;obtain⟨M1,L,x,d,u⟩:=NQ h O v A p m j (by omega) (by omega) w;obtain⟨g,M',l',b6,y,e,G,f,o,J⟩:=ih (i-j) j (by omega) (by omega) S (by omega) B N (by omega) M1 L d.ar (d.len.trans E) tV tV;refine⟨g,M',l',b6,?_,d.trans e,G,f,o,λl2 z=>zH.left c hlt (by rw [D];exact u) (J l2 z)⟩;obtain⟨q,I⟩:∃q,q+j=i:=⟨i-j,by omega⟩;rw [show i-j=q from by omega] at y;have F:=aZ I (by omega);rw [E] at x;rw [o9,← y];simp [EJ,C,hlt,P,F,x];obtain⟨q,I⟩:∃q,q=m+j:=⟨_,rfl⟩;obtain⟨r,K⟩:∃r,r+i=q:=⟨q-i,by omega⟩;have F:=bO I (by omega);have Q:=aZ K (by omega);obtain⟨M1,L,x,d,u⟩:=NQ h O v A p r i (by omega) (by omega) w;obtain⟨g,M',l',b6,y,e,G,f,o,J⟩:=ih i (j-i) (by omega) H (by omega) c (by omega) N (by omega) M1 L d.ar (d.len.trans E) tV fV;refine⟨g,M',l',b6,?_,d.trans e,G,f,o,λl2 z=>zH.right c (by omega) (by rw [D,show m+j-i=r from by omega];exact u) (J l2 z)⟩;obtain⟨t,V⟩:∃t,t+i=j:=⟨j-i,by omega⟩;rw [show j-i=t from by omega] at y;have R:=aZ V (by omega);rw [E] at x;rw [o9,← y];simp [EJ,C,hlt,P,F,Q,R,x]
theorem ag0 {M:Mem}{id:Nat}{l:List FR}(h:Ar M id l)(n c:Nat)(e:1000<=c)(a m b:Nat)(v:a<m)(B:m<b)(hb:b<=l.length)(w:d9):
  ∃M' l',l8 KW c (n+2) (.func 334) [.sliceU id 0 l.length 32,iN a,iN m,iN b,w] M=some [⟨.tuple [],M'⟩]∧mh id M l M' l'∧zH a m b l l':=by
 have d:=h.big;obtain⟨i,z⟩:∃i,i+a=m:=⟨m-a,by omega⟩;obtain⟨j,A⟩:∃j,j+m=b:=⟨b-m,by omega⟩;obtain⟨g,M1,H,F,u,f,G,x,y,D⟩:=acr n c e id a m b l.length d w (i+j) i j (aA _) (by omega) (by omega) (by omega) (by omega) c (by omega) M l h rfl uV uV;obtain⟨p,C⟩:∃p,p+g=m:=⟨m-g,by omega⟩;obtain⟨M2,q,o,k,E⟩:=NQ f.ar n c e p m g (by omega) (by rw [f.len];omega) w;refine⟨M2,q,?_,f.trans k,?_⟩;rw [enter (sf:=f334) rfl rfl];have r:=aZ z (by omega);have s:=aZ A (by omega);have t:=aZ C (by omega);rw [f.len] at o;simp [f334,r,s,t,u,o];have:=D q (by rw [show m-g=p from by omega];exact E)
 rwa [show m-i=a from by omega,show m+j=b from by omega] at this
theorem ag1 {p:Nat}(h:p<4611686018427387904):iY .u64 (p:Int)=(p:Int):=by show IntKind.u64.wrap (p:Int)=_;simp only [IntKind.wrap,IntKind.signed,IntKind.bits];simp;omega
theorem ag2 {p:Nat}(h:p<4611686018427387904):iY .i64 (p:Int)=(p:Int):=by show sP (p:Int)=_;exact dM (by omega) (by omega)
theorem ag3 {p q:Nat}(h:q=p / 2):Rt (.int .u64 (p:Int)) (.int .u64 1)=some (.int .u64 (q:Int)):=by
 subst h;show some (d9.int .u64 ((p:Int).fdiv (2^(min 1 IntKind.u64.bits))))=_;have:(2:Int)^(min 1 IntKind.u64.bits)=2:=by decide
 rw [this];congr 2;rw [Int.fdiv_eq_ediv_of_nonneg _ (by omega)];omega
def FR.key (r:FR):Int:=r.f.room*18446744073709551616+r.f.no
theorem alu {x y:FR}(a:x.Good)(b:y.Good):(x.ord y<0)↔x.key<y.key:=by
 have c:-9223372036854775808<=x.f.no∧x.f.no<9223372036854775808:=a.no;have d:-9223372036854775808<=y.f.no∧y.f.no<9223372036854775808:=b.no;unfold FR.ord afY Dq FR.key;repeat' split
 all_goals omega
def bD (l:List FR)(i:Nat):Int:=(l[i]?.map FR.key).getD 0
theorem jJ {l:List FR}{i:Nat}(h:i<l.length):bD l i=l[i].key:=by simp [bD,h]
theorem iX {l a:List FR}{i j:Nat}(h:a[i]?=l[j]?):bD a i=bD l j:=by unfold bD;rw [h]
def oZ (l:List FR)(a b:Nat):Prop:=∀i j,a<=i->i<j->j<b->bD l i<=bD l j
structure Mv (a b:Nat)(l l':List FR):Prop where
 out:∀k,k<a∨b<=k->l'[k]?=l[k]?
 inn:∀k,a<=k->k<b->∃j,a<=j∧j<b∧l'[k]?=l[j]?
 bak:∀j,a<=j->j<b->∃k,a<=k∧k<b∧l'[k]?=l[j]?
theorem Mv.refl (a b:Nat)(l:List FR):Mv a b l l:=⟨λ_ _=>rfl,λk c d=>⟨k,c,d,rfl⟩,λk c d=>⟨k,c,d,rfl⟩⟩
theorem Mv.trans {a b:Nat}{l q l'':List FR}(h:Mv a b l q)(k:Mv a b q l''):Mv a b l l'':=
 ⟨λi p=>(k.out i p).trans (h.out i p),λi c d=>by
  obtain⟨j,e,f,g⟩:=k.inn i c d;obtain⟨t,m,n,o⟩:=h.inn j e f;exact⟨t,m,n,g.trans o⟩,λi c d=>by
  obtain⟨j,e,f,g⟩:=h.bak i c d;obtain⟨t,m,n,o⟩:=k.bak j e f;exact⟨t,m,n,o.trans g⟩⟩
theorem Mv.mono {a b g b':Nat}{l l':List FR}(h:Mv a b l l')(n:g<=a)(hb:b<=b'):Mv g b' l l':=
 ⟨λk c=>h.out k (by omega),λk d e=>by
  by_cases c:a<=k∧k<b;obtain⟨j,i,m,f⟩:=h.inn k c.1 c.2;exact⟨j,by omega,by omega,f⟩;exact⟨k,d,e,h.out k (by omega)⟩,λk d e=>by
  by_cases c:a<=k∧k<b;obtain⟨j,i,m,f⟩:=h.bak k c.1 c.2;exact⟨j,by omega,by omega,f⟩;exact⟨k,d,e,h.out k (by omega)⟩⟩
theorem zH.mv {a m b:Nat}{l l':List FR}(h:zH a m b l l')(f:a<=m)(g:m<=b):Mv a b l l':=by refine⟨λk c=>?_,λk d e=>?_,λk d e=>?_⟩;rw [h k,if_neg (by omega),if_neg (by omega)];by_cases c:k<a+(b-m);exact⟨k+(m-a),by omega,by omega,by rw [h k,if_pos (by omega)]⟩;exact⟨k-(b-m),by omega,by omega,by rw [h k,if_neg (by omega),if_pos (by omega)]⟩;by_cases c:k<m;exact⟨k+(b-m),by omega,by omega,by rw [h,if_neg (by omega),if_pos (by omega)];congr 1;omega⟩;exact⟨k-(m-a),by omega,by omega,by rw [h,if_pos (by omega)];congr 1;omega⟩
theorem Mv.kIn {a b:Nat}{l c:List FR}(h:Mv a b l c){k:Nat}(d:a<=k)(e:k<b):∃j,a<=j∧j<b∧bD c k=bD l j:=by obtain⟨j,f,g,i⟩:=h.inn k d e;exact⟨j,f,g,iX i⟩
theorem Mv.QK {a b:Nat}{l c:List FR}(h:Mv a b l c){k:Nat}(d:k<a∨b<=k):bD c k=bD l k:=iX (h.out k d)
theorem zH.k1 {a m b:Nat}{l c:List FR}(h:zH a m b l c){k:Nat}(d:a<=k)(e:k<a+(b-m)):bD c k=bD l (k+(m-a)):=iX (by rw [h k,if_pos ⟨d,e⟩])
theorem zH.k2 {a m b:Nat}{l c:List FR}(h:zH a m b l c){k:Nat}(d:a+(b-m)<=k)(e:k<b):bD c k=bD l (k-(b-m)):=iX (by rw [h k,if_neg (by omega),if_pos ⟨d,e⟩])
theorem zH.k0 {a m b:Nat}{l c:List FR}(h:zH a m b l c){k:Nat}(d:k<a∨b<=k)(e:a<=m)(hb:m<=b):bD c k=bD l k:=iX (by rw [h k,if_neg (by omega),if_neg (by omega)])
theorem oZ.out {a b c d:Nat}{l e:List FR}(h:Mv a b l e)(hs:oZ l c d)(n:d<=a∨b<=c):oZ e c d:=λi j f g m=>by rw [h.QK (k:=i) (by omega),h.QK (k:=j) (by omega)];exact hs i j f g m
theorem oZ.join {a m b:Nat}{l:List FR}(f:oZ l a m)(g:oZ l m b)(h:∀i j,a<=i->i<m->m<=j->j<b->bD l i<=bD l j):oZ l a b:=λi j d c e=>by by_cases hm:j<m;exact f i j d c hm;by_cases hi':i<m;exact h i j d hi' (by omega) e;exact g i j (by omega) c e
theorem Xf {a t b:Nat}{l f:List FR}(n:a+1<=t)(s:t<=b)(hs:oZ l (a+1) b)(g:∀k,a+1<=k->k<t->bD l k<bD l a)(m:∀k,t<=k->k<b->bD l a<=bD l k)(h:zH a (a+1) t l f):oZ f a b:=by
 have d:∀k,a<=k->k<b->(k+1<t∧bD f k=bD l (k+1))∨(k+1=t∧bD f k=bD l a)∨(t<=k∧bD f k=bD l k):=λk r u=>by by_cases c1:k+1<t;exact .inl ⟨c1,by rw [h.k1 r (by omega)];congr 1;omega⟩;by_cases c2:k+1=t;exact .inr (.inl ⟨c2,by rw [h.k2 (by omega) (by omega)];congr 1;omega⟩);exact .inr (.inr ⟨by omega,h.k0 (by omega) (by omega) (by omega)⟩)
 intro i j o p q;rcases d i o (by omega) with⟨c,e⟩ | ⟨c,e⟩ | ⟨c,e⟩<;>rcases d j (by omega) q with⟨c',e'⟩ | ⟨c',e'⟩ | ⟨c',e'⟩<;>rw [e,e']
 exact hs _ _ (by omega) (by omega) (by omega);exact aA7 (g _ (by omega) (by omega));exact hs _ _ (by omega) (by omega) (by omega);omega;omega;exact m _ (by omega) (by omega);omega;omega;exact hs _ _ (by omega) (by omega) (by omega)
theorem QL {a t m:Nat}{l d:List FR}(n:a<=t)(r:t<=m)(hs:oZ l a m)(f:∀k,a<=k->k<t->bD l k<=bD l m)(g:∀k,t<=k->k<m->bD l m<bD l k)(h:zH t m (m+1) l d):oZ d a (m+1):=by
 have b:∀k,a<=k->k<m+1->(k<t∧bD d k=bD l k)∨(k=t∧bD d k=bD l m)∨(t<k∧bD d k=bD l (k-1)):=λk u s=>by by_cases c1:k<t;exact .inl ⟨c1,h.k0 (by omega) (by omega) (by omega)⟩;by_cases c2:k=t;exact .inr (.inl ⟨c2,by rw [h.k1 (by omega) (by omega)];congr 1;omega⟩);exact .inr (.inr ⟨by omega,by rw [h.k2 (by omega) (by omega)];congr 1;omega⟩)
 intro i j o p q;rcases b i o (by omega) with⟨c,e⟩ | ⟨c,e⟩ | ⟨c,e⟩<;>rcases b j (by omega) q with⟨c',e'⟩ | ⟨c',e'⟩ | ⟨c',e'⟩<;>rw [e,e']
 exact hs _ _ (by omega) (by omega) (by omega);exact f _ (by omega) (by omega);exact hs _ _ (by omega) (by omega) (by omega);omega;omega;exact aA7 (g _ (by omega) (by omega));omega;omega;exact hs _ _ (by omega) (by omega) (by omega)
theorem Xg {a s m e b d:Nat}{l n:List FR}(E:a<=s)(hs:s<=m)(w:m<=e)(hb:e<=b)(G:d+m=s+e)(F:s<=m)(A:oZ l a m)(B:oZ l m b)
  (C:a<s->e<b->bD l (s-1)<=bD l e) (D:s<m->m<e->bD l (e-1)<bD l s) (h:zH s m e l n):
  (∀i j,a<=i->i<d->d<=j->j<b->bD n i<=bD n j)∧oZ n a s∧oZ n s d∧oZ n d e∧oZ n e b:=by
 have p:∀i j,a<=i->i<=j->j<m->bD l i<=bD l j:=λi j f c g=>by rcases aAf c with h | rfl;exact A i j f h g;exact aCJ _
 have q:∀i j,m<=i->i<=j->j<b->bD l i<=bD l j:=λi j f c g=>by rcases aAf c with h | rfl;exact B i j f h g;exact aCJ _
 have y:∀k,a<=k->k<s->bD n k=bD l k:=λk _ t=>h.k0 (by omega) hs w;have z:∀k,s<=k->k<d->bD n k=bD l (k+(m-s)):=λk t r=>h.k1 t (by omega);have u:∀k,d<=k->k<e->bD n k=bD l (k-(e-m)):=λk t r=>h.k2 (by omega) r;have v:∀k,e<=k->k<b->bD n k=bD l k:=λk t _=>h.k0 (by omega) hs w;refine⟨λi j f x g o=>?_,λi j f c g=>?_,λi j f c g=>?_,λi j f c g=>?_,λi j f c g=>?_⟩;by_cases his:i<s;rw [y i f his];by_cases hje:j<e;rw [u j g hje];exact p _ _ f (by omega) (by omega);rw [v j (by omega) o];exact azP (p i (s-1) f (by omega) (by omega)) (azP (C (by omega) (by omega)) (q e j w (by omega) o));rw [z i (by omega) x];by_cases hje:j<e;rw [u j g hje];exact azP (q _ (e-1) (by omega) (by omega) (by omega)) (azP (aA7 (D (by omega) (by omega))) (p s _ E (by omega) (by omega)));rw [v j (by omega) o];exact q _ _ (by omega) (by omega) o;rw [y i f (by omega),y j (by omega) g];exact A _ _ f c (by omega);rw [z i f (by omega),z j (by omega) g];exact B _ _ (by omega) (by omega) (by omega);rw [u i f (by omega),u j (by omega) g];exact A _ _ (by omega) (by omega) (by omega);rw [v i f (by omega),v j (by omega) g];exact B _ _ (by omega) c g
theorem halves {a d b:Nat}{l g h:List FR}(n:a<=d)(o:d<=b)(r:∀i j,a<=i->i<d->d<=j->j<b->bD l i<=bD l j)(m:Mv a d l g)(c:Mv d b g h)(s:oZ g a d)(v:oZ h d b):oZ h a b:=by refine oZ.join (oZ.out c s (.inl (aA _))) v λi j p e q f=>?_;rw [c.QK (k:=i) (by omega)];obtain⟨t,w,x,y⟩:=c.kIn q f;obtain⟨u,z,A,B⟩:=m.kIn p e;rw [y,m.QK (k:=t) (by omega),B];exact r u t z A w x
theorem Gz {x y:FR}(a:x.Good)(b:y.Good):decide (x.ord y<0)=decide (x.key<y.key):=decide_eq_decide.2 (alu a b)
theorem Dr {i j h:Nat}(b:h=(i+j) / 2)(a:i+j<4611686018427387904):
  ∃p:Nat,sP ((i:Int)+(j:Int))=(p:Int)∧iY .u64 (p:Int)=(p:Int)∧Rt (.int .u64 (p:Int)) (.int .u64 1)=some (.int .u64 (h:Int))∧iY .i64 (h:Int)=(h:Int):=
 ⟨i+j,bO rfl a,ag1 a,ag3 b,ag2 (by omega)⟩
theorem TV (n0 fu:Nat)(a2:1000<=fu)(id a m b n lo hi:Nat)(hn:n<=200)(l:List FR)(hl:l.length=n)(q:Nat->Bool)(a7:hi<=n)(a4:a<n)
  (hq:∀h,lo<=h->h<hi->q h=decide (bD l h<bD l a))
  (d:∀u v,lo<=u->u<=v->v<hi->q v=true->q u=true) (y2 D E F G H I J K L O P Q R S T U V W X Y Z a0 a1:d9):
  ∀(s i j:Nat),j-i<=s->i<=j->lo<=i->j<=hi->(∀k,lo<=k->k<i->q k=true)->(∀k,j<=k->k<hi->q k=false)->∀(N:Nat),s<N->∀(M:Mem),Ar M id l->∀(xc xh xr:d9),
   ∃t M' zh zr,T9 (λenv m k=>Bl (l8 KW fu (n0+4)) fu none env m k) N (EL (iN m) (iN a) y2 (iN b) (iN i) (iN j) xc (.func (.func 105) [] []) (.sliceU id 0 n 32) xh xr D E F G H I J K L O P Q R S T U V W X Y Z a0 a1) M []=some [⟨.exit 0,(EL (iN m) (iN a) y2 (iN b) (iN t) (iN t) fV (.func (.func 105) [] []) (.sliceU id 0 n 32) zh zr D E F G H I J K L O P Q R S T U V W X Y Z a0 a1),M',[],none⟩]∧Ext M M'∧i<=t∧t<=j∧
    (∀k,lo<=k->k<t->q k=true)∧(∀k,t<=k->k<hi->q k=false):=by
 intro s;induction s with
 | zero=>
  intro i j hs a3 A f o p N hN M h xc xh xr;obtain⟨N,rfl⟩:∃M,N=M+1:=⟨N-1,by omega⟩;obtain rfl:i=j:=by omega
  refine⟨i,M,xh,xr,?_,Ext.refl h.ok,aA _,aA _,o,p⟩;rw [o9];simp [Bl]
 | succ s ih=>
  intro i j hs a3 A f o p N hN M h xc xh xr;obtain⟨N,rfl⟩:∃M,N=M+1:=⟨N-1,by omega⟩;by_cases hlt:i<j;obtain⟨c,hc⟩:∃c,c=(i+j) / 2:=⟨_,rfl⟩;obtain⟨w,w1,w2,w3,w4⟩:=Dr hc (by omega);have a5:i<=c:=by omega
  have a6:c<j:=by omega
  have B:c<l.length:=by omega
  have C:a<l.length:=by omega
  obtain⟨M1,g1,E1⟩:=Gy h.ok h.lm n0 fu a2 (h.get B) (h.get C);have r1:=h.fa.ld B;have r2:=h.fa.ld C;have z1:=(h.get B).rf;have z2:=(h.get C).rf;have i1:∀{β:Type} (k:Nat->Option β),idx n (iV (c:Int)) k=k c:=λk=>V6 _ _ k (by omega);have i2:∀{β:Type} (k:Nat->Option β),idx n (iV (a:Int)) k=k a:=λk=>V6 _ _ k (by omega);have e:=hq c (by omega) (by omega);have hd:=Gz (h.get B) (h.get C);rw [← jJ B,← jJ C] at hd;generalize l[c]=x at *;generalize l[a]=y at *;cases hb:q c with
  | true=>
   obtain⟨t,M',zh,zr,g2,E2,t1,t2,t3,t4⟩:=ih (c+1) j (by omega) (by omega) (by omega) f (λk hk z=>by
    by_cases hkc:k<=c;exact d k c hk hkc (by omega) hb;omega) p N (by omega) M1 (h.ext E1) tV (iN c) tV
   refine⟨t,M',zh,zr,?_,E1.trans E2,by omega,t2,t3,t4⟩;obtain⟨c1,r⟩:∃c1,c1=c+1:=⟨_,rfl⟩;have ec:=ah r (by omega);rw [← r] at g2;have g:decide (x.ord y<0)=true:=by rw [hd];rw [hb] at e;simpa [decide_eq_true_eq] using e.symm
   clear ih o p d hq;rw [o9,← g2];simp [Bl,hlt,w1,w2,w3,w4,r1,r2,z1,z2,i1,i2,g1,g,ec]
  | false=>
   obtain⟨t,M',zh,zr,g2,E2,t1,t2,t3,t4⟩:=ih i c (by omega) (by omega) A (by omega) o (λk hk z=>by
    cases hqk:q k with
    | false=>rfl
    | true=>rw [d c k (by omega) hk z hqk] at hb;cases hb) N (by omega) M1 (h.ext E1) tV (iN c) fV
   refine⟨t,M',zh,zr,?_,E1.trans E2,t1,by omega,t3,t4⟩;have g:decide (x.ord y<0)=false:=by rw [hd];rw [hb] at e;simpa [decide_eq_true_eq] using e.symm
   clear ih o p d hq;rw [o9,← g2];simp [Bl,hlt,w1,w2,w3,w4,r1,r2,z1,z2,i1,i2,g1,g]
  obtain rfl:i=j:=by omega
  refine⟨i,M,xh,xr,?_,Ext.refl h.ok,aA _,aA _,o,p⟩;rw [o9];simp [Bl]
theorem TW (n0 Y:Nat)(a0:1000<=Y)(id a m b n lo hi:Nat)(hn:n<=200)(l:List FR)(hl:l.length=n)(q:Nat->Bool)(a4:hi<=n)(a5:m<n)
  (hq:∀h,lo<=h->h<hi->q h=!decide (bD l m<bD l h))
  (d:∀u v,lo<=u->u<=v->v<hi->q v=true->q u=true) (y2 y4 y5 y6 y9 D E F G H I J K L O P Q R S T U V W X:d9):
  ∀(s i j:Nat),j-i<=s->i<=j->lo<=i->j<=hi->(∀k,lo<=k->k<i->q k=true)->(∀k,j<=k->k<hi->q k=false)->∀(N:Nat),s<N->∀(M:Mem),Ar M id l->∀(xc xh xr:d9),
   ∃t M' zh zr,T9 (λenv m k=>vg (l8 KW Y (n0+4)) Y none env m k) N (EL (iN m) (iN a) y2 (iN b) y4 y5 y6 (.func (.func 105) [] []) (.sliceU id 0 n 32) y9 D E F G (iN i) (iN j) xc xh xr H I J K L O P Q R S T U V W X) M []=some [⟨.exit 4,(EL (iN m) (iN a) y2 (iN b) y4 y5 y6 (.func (.func 105) [] []) (.sliceU id 0 n 32) y9 D E F G (iN t) (iN t) fV zh zr H I J K L O P Q R S T U V W X),M',[],none⟩]∧Ext M M'∧i<=t∧t<=j∧
    (∀k,lo<=k->k<t->q k=true)∧(∀k,t<=k->k<hi->q k=false):=by
 intro s;induction s with
 | zero=>
  intro i j hs a1 A f o p N hN M h xc xh xr;obtain⟨N,rfl⟩:∃M,N=M+1:=⟨N-1,by omega⟩;obtain rfl:i=j:=by omega
  refine⟨i,M,xh,xr,?_,Ext.refl h.ok,aA _,aA _,o,p⟩;rw [o9];simp [vg]
 | succ s ih=>
  intro i j hs a1 A f o p N hN M h xc xh xr;obtain⟨N,rfl⟩:∃M,N=M+1:=⟨N-1,by omega⟩;by_cases hlt:i<j;obtain⟨c,hc⟩:∃c,c=(i+j) / 2:=⟨_,rfl⟩;obtain⟨w,w1,w2,w3,w4⟩:=Dr hc (by omega);have a2:i<=c:=by omega
  have a3:c<j:=by omega
  have B:m<l.length:=by omega
  have C:c<l.length:=by omega
  obtain⟨M1,g1,E1⟩:=Gy h.ok h.lm n0 Y a0 (h.get B) (h.get C);have r1:=h.fa.ld B;have r2:=h.fa.ld C;have z1:=(h.get B).rf;have z2:=(h.get C).rf;have i1:∀{β:Type} (k:Nat->Option β),idx n (iV (m:Int)) k=k m:=λk=>V6 _ _ k (by omega);have i2:∀{β:Type} (k:Nat->Option β),idx n (iV (c:Int)) k=k c:=λk=>V6 _ _ k (by omega);have e:=hq c (by omega) (by omega);have hd:=Gz (h.get B) (h.get C);rw [← jJ B,← jJ C] at hd;generalize l[m]=x at *;generalize l[c]=y at *;cases hb:q c with
  | true=>
   obtain⟨t,M',zh,zr,Z,E2,t1,t2,t3,t4⟩:=ih (c+1) j (by omega) (by omega) (by omega) f (λk hk z=>by
    by_cases hkc:k<=c;exact d k c hk hkc (by omega) hb;omega) p N (by omega) M1 (h.ext E1) tV (iN c) tV
   refine⟨t,M',zh,zr,?_,E1.trans E2,by omega,t2,t3,t4⟩;obtain⟨c1,r⟩:∃c1,c1=c+1:=⟨_,rfl⟩;have ec:=ah r (by omega);rw [← r] at Z;have g:decide (x.ord y<0)=false:=by rw [hd];rw [hb] at e;simpa [decide_eq_true_eq] using e.symm
   clear ih o p d hq;rw [o9,← Z];simp [vg,hlt,w1,w2,w3,w4,r1,r2,z1,z2,i1,i2,g1,g,ec]
  | false=>
   obtain⟨t,M',zh,zr,Z,E2,t1,t2,t3,t4⟩:=ih i c (by omega) (by omega) A (by omega) o (λk hk z=>by
    cases hqk:q k with
    | false=>rfl
    | true=>rw [d c k (by omega) hk z hqk] at hb;cases hb) N (by omega) M1 (h.ext E1) tV (iN c) fV
   refine⟨t,M',zh,zr,?_,E1.trans E2,t1,by omega,t3,t4⟩;have g:decide (x.ord y<0)=true:=by rw [hd];rw [hb] at e;simpa [decide_eq_true_eq] using e.symm
   clear ih o p d hq;rw [o9,← Z];simp [vg,hlt,w1,w2,w3,w4,r1,r2,z1,z2,i1,i2,g1,g]
  obtain rfl:i=j:=by omega
  refine⟨i,M,xh,xr,?_,Ext.refl h.ok,aA _,aA _,o,p⟩;rw [o9];simp [vg]
theorem TY (n0 Z:Nat)(a0:1000<=Z)(id a m b n lo hi:Nat)(p:Nat)(hn:n<=200)(l:List FR)(hl:l.length=n)(q:Nat->Bool)(a6:hi<=n)(hp:∀h,lo<=h->h<hi->h<=p∧p-h<n)
  (hq:∀h,lo<=h->h<hi->q h=!decide (bD l (p-h)<bD l h))
  (d:∀u v,lo<=u->u<=v->v<hi->q v=true->q u=true) (y2 y4 y5 y6 y9 F G H I J K L O P Q R S T U V W X Y:d9):
  ∀(s i j:Nat),j-i<=s->i<=j->lo<=i->j<=hi->(∀k,lo<=k->k<i->q k=true)->(∀k,j<=k->k<hi->q k=false)->∀(N:Nat),s<N->∀(M:Mem),Ar M id l->∀(xc xh xr:d9),
   ∃t M' zh zr,T9 (λenv m k=>oo (l8 KW Z (n0+4)) Z none env m k) N (EL (iN m) (iN a) y2 (iN b) y4 y5 y6 (.func (.func 105) [] []) (.sliceU id 0 n 32) y9 F G H I J K L O P Q R S T U (iN i) (iN j) xc (iN p) xh xr V W X Y) M []=some [⟨.exit 8,(EL (iN m) (iN a) y2 (iN b) y4 y5 y6 (.func (.func 105) [] []) (.sliceU id 0 n 32) y9 F G H I J K L O P Q R S T U (iN t) (iN t) fV (iN p) zh zr V W X Y),M',[],none⟩]∧Ext M M'∧i<=t∧t<=j∧
    (∀k,lo<=k->k<t->q k=true)∧(∀k,t<=k->k<hi->q k=false):=by
 intro s;induction s with
 | zero=>
  intro i j hs a1 C f r z N hN M h xc xh xr;obtain⟨N,rfl⟩:∃M,N=M+1:=⟨N-1,by omega⟩;obtain rfl:i=j:=by omega
  refine⟨i,M,xh,xr,?_,Ext.refl h.ok,aA _,aA _,r,z⟩;rw [o9];simp [oo]
 | succ s ih=>
  intro i j hs a1 C f r z N hN M h xc xh xr;obtain⟨N,rfl⟩:∃M,N=M+1:=⟨N-1,by omega⟩;by_cases hlt:i<j;obtain⟨c,hc⟩:∃c,c=(i+j) / 2:=⟨_,rfl⟩;obtain⟨w,w1,w2,w3,w4⟩:=Dr hc (by omega);have a4:i<=c:=by omega
  have a5:c<j:=by omega
  obtain⟨a7,a2⟩:=hp c (by omega) (by omega);obtain⟨u,a3⟩:∃u,u+c=p:=⟨p-c,by omega⟩;have eu:=aZ a3 (by omega);have g:p-c=u:=by omega
  rw [g] at a2;have D:u<l.length:=by omega
  have E:c<l.length:=by omega
  obtain⟨M1,g1,E1⟩:=Gy h.ok h.lm n0 Z a0 (h.get D) (h.get E);have r1:=h.fa.ld D;have r2:=h.fa.ld E;have z1:=(h.get D).rf;have z2:=(h.get E).rf;have i1:∀{β:Type} (k:Nat->Option β),idx n (iV (u:Int)) k=k u:=λk=>V6 _ _ k (by omega);have i2:∀{β:Type} (k:Nat->Option β),idx n (iV (c:Int)) k=k c:=λk=>V6 _ _ k (by omega);have e:=hq c (by omega) (by omega);have hd:=Gz (h.get D) (h.get E);rw [← jJ D,← jJ E] at hd;generalize l[u]=x at *;generalize l[c]=y at *;cases hb:q c with
  | true=>
   obtain⟨t,M',zh,zr,g2,E2,t1,t2,t3,t4⟩:=ih (c+1) j (by omega) (by omega) (by omega) f (λk hk B=>by
    by_cases hkc:k<=c;exact d k c hk hkc (by omega) hb;omega) z N (by omega) M1 (h.ext E1) tV (iN c) tV
   refine⟨t,M',zh,zr,?_,E1.trans E2,by omega,t2,t3,t4⟩;obtain⟨c1,A⟩:∃c1,c1=c+1:=⟨_,rfl⟩;have ec:=ah A (by omega);rw [← A] at g2;have o:decide (x.ord y<0)=false:=by rw [hd];rw [hb] at e;simpa [decide_eq_true_eq,g] using e.symm
   clear ih r z d hq;rw [o9,← g2];simp [oo,hlt,w1,w2,w3,w4,r1,r2,z1,z2,i1,i2,g1,o,ec,eu]
  | false=>
   obtain⟨t,M',zh,zr,g2,E2,t1,t2,t3,t4⟩:=ih i c (by omega) (by omega) C (by omega) r (λk hk B=>by
    cases hqk:q k with
    | false=>rfl
    | true=>rw [d c k (by omega) hk B hqk] at hb;cases hb) N (by omega) M1 (h.ext E1) tV (iN c) fV
   refine⟨t,M',zh,zr,?_,E1.trans E2,t1,by omega,t3,t4⟩;have o:decide (x.ord y<0)=true:=by rw [hd];rw [hb] at e;simpa [decide_eq_true_eq,g] using e.symm
   clear ih r z d hq;rw [o9,← g2];simp [oo,hlt,w1,w2,w3,w4,r1,r2,z1,z2,i1,i2,g1,o,eu]
  obtain rfl:i=j:=by omega
  refine⟨i,M,xh,xr,?_,Ext.refl h.ok,aA _,aA _,r,z⟩;rw [o9];simp [oo]
set_option maxHeartbeats 4000000
theorem alv {k t:Nat}{l a l2:List FR}(e:k+1<t)(hi:k<l.length)(d:k+1<l.length)(b:a=swp l k (k+1) hi d)(c:zH (k+1) (k+1+1) t a l2):zH k (k+1) t l l2:=by
 intro x;rw [c x,b];simp only [swp_get];repeat' split
 all_goals first | omega | rfl | (congr 1;omega)
theorem QM {k t:Nat}{l a l2:List FR}(e:t<k)(hi:k<l.length)(d:k-1<l.length)(b:a=swp l k (k-1) hi d)(c:zH t (k-1) k a l2):zH t k (k+1) l l2:=by
 intro x;rw [c x,b];simp only [swp_get];repeat' split
 all_goals first | omega | rfl | (congr 1;omega)
theorem GA {a b:Nat}{l:List FR}(h:a<=b):zH a a b l l:=by
 intro x;repeat' split
 all_goals first | omega | rfl | (congr 1;omega)
theorem VE {a b:Nat}{l:List FR}(h:a<=b):zH a b b l l:=by
 intro x;repeat' split
 all_goals first | omega | rfl | (congr 1;omega)
theorem Ua (n0 V id a m b n t:Nat)(hn:n<=200)(a0:t<=n)(ht:0<t)(y2 y5 y6 y9 d e i j o p r v w z A B C D E F G H I J K L:d9):
  ∀(s k:Nat),k+s+1=t->∀(N:Nat),s<N->∀(M:Mem) (l:List FR),Ar M id l->l.length=n->∀(xc:d9),
   ∃M' l',T9 (λenv m k=>EH (l8 KW V (n0+4)) V none env m k) N (EL (iN m) (iN a) y2 (iN b) (iN t) y5 y6 (.func (.func 105) [] []) (.sliceU id 0 n 32) y9 d (iN k) xc e i j o p r v w z A B C D E F G H I J K L) M []=some [⟨.exit 2,(EL (iN m) (iN a) y2 (iN b) (iN t) y5 y6 (.func (.func 105) [] []) (.sliceU id 0 n 32) y9 d (iN (t-1)) fV e i j o p r v w z A B C D E F G H I J K L),M',[],none⟩]∧mh id M l M' l'∧zH k (k+1) t l l':=by
 obtain⟨u,Y⟩:∃u,u+1=t:=⟨t-1,by omega⟩;have U:=rC Y (by omega);have T:t-1=u:=by omega
 rw [T];intro s;induction s with
 | zero=>
  intro k hk N hN M l h W xc;obtain⟨N,rfl⟩:∃M,N=M+1:=⟨N-1,by omega⟩;obtain rfl:k=u:=by omega
  refine⟨M,l,?_,mh.refl h,by rw [← Y];exact VE (by omega)⟩;rw [o9];simp [EH,U]
 | succ s ih=>
  intro k hk N hN M l h W xc;obtain⟨N,rfl⟩:∃M,N=M+1:=⟨N-1,by omega⟩;have P:k<l.length:=by omega
  have Q:k+1<l.length:=by omega
  obtain⟨m1,m2,s1,s2,O⟩:=h.swap P Q;obtain⟨M',l',g,c,X⟩:=ih (k+1) (by omega) N (by omega) m2 _ O.ar (O.len.trans W) tV;refine⟨M',l',?_,O.trans c,alv (by omega) P Q rfl X⟩;rw [o9,← g];have r1:=h.fa.ld P;have Z:=h.fa.ld Q;have g1:=(h.get P).rf;have g2:=(h.get Q).rf;generalize hx:l[k]=x at *;generalize hy:l[k+1]=y at *;clear X c ih O g;obtain⟨q,S⟩:∃q,q=k+1:=⟨_,rfl⟩;rw [← S] at Z s2;have e2:=ah S (by omega);have i1:∀{β:Type} (f:Nat->Option β),idx n (iV (k:Int)) f=f k:=λf=>V6 _ _ f (by omega);have i2:∀{β:Type} (f:Nat->Option β),idx n (iV (q:Int)) f=f q:=λf=>V6 _ _ f (by omega);have R:k<u:=by omega
  rw [← S];simp [EH,U,R,e2,i1,i2,r1,Z,s1,s2,g1,g2,G5.len]
theorem Ub (n0 S id a m b n t:Nat)(hn:n<=200)(W X Y Z y9 d e i j o p r u v w z A B C D E F G H I J:d9):
  ∀(s k:Nat),t+s=k->k<n->∀(N:Nat),s<N->∀(M:Mem) (l:List FR),Ar M id l->l.length=n->∀(xc:d9),
   ∃M' l',T9 (λenv m k=>xP (l8 KW S (n0+4)) S none env m k) N (EL (iN m) (iN a) W (iN b) X Y Z (.func (.func 105) [] []) (.sliceU id 0 n 32) y9 d e i j (iN t) o p r u (iN k) xc v w z A B C D E F G H I J) M []=some [⟨.exit 6,(EL (iN m) (iN a) W (iN b) X Y Z (.func (.func 105) [] []) (.sliceU id 0 n 32) y9 d e i j (iN t) o p r u (iN t) fV v w z A B C D E F G H I J),M',[],none⟩]∧mh id M l M' l'∧zH t k (k+1) l l':=by
 intro s;induction s with
 | zero=>
  intro k hk P N hN M l h T xc;obtain⟨N,rfl⟩:∃M,N=M+1:=⟨N-1,by omega⟩;obtain rfl:t=k:=by omega
  refine⟨M,l,?_,mh.refl h,GA (by omega)⟩;rw [o9];simp [xP]
 | succ s ih=>
  intro k hk P N hN M l h T xc;obtain⟨N,rfl⟩:∃M,N=M+1:=⟨N-1,by omega⟩;have L:k<l.length:=by omega
  have O:k-1<l.length:=by omega
  obtain⟨m1,m2,s1,V,K⟩:=h.swap L O;obtain⟨M',l',g,c,Q⟩:=ih (k-1) (by omega) (by omega) N (by omega) m2 _ K.ar (K.len.trans T) tV;rw [show k-1+1=k from by omega] at Q;refine⟨M',l',?_,K.trans c,QM (by omega) L O rfl Q⟩;rw [o9,← g];have r1:=h.fa.ld L;have U:=h.fa.ld O;have g1:=(h.get L).rf;have g2:=(h.get O).rf;generalize hx:l[k]=x at *;generalize hy:l[k-1]=y at *;clear Q c ih K g;obtain⟨q,hq⟩:∃q,q+1=k:=⟨k-1,by omega⟩;rw [show k-1=q from by omega] at U V ⊢;have e2:=rC hq (by omega);have i1:∀{β:Type} (f:Nat->Option β),idx n (iV (k:Int)) f=f k:=λf=>V6 _ _ f (by omega);have i2:∀{β:Type} (f:Nat->Option β),idx n (iV (q:Int)) f=f q:=λf=>V6 _ _ f (by omega);have R:t<k:=by omega
  simp [xP,R,e2,i1,i2,r1,U,s1,V,g1,g2,G5.len]
set_option maxHeartbeats 8000000
theorem Jt {l:List FR}{a b:Nat}(h:oZ l a b){i j:Nat}(c:a<=i)(d:i<=j)(e:j<b):bD l i<=bD l j:=by rcases aAf d with h' | rfl;exact h i j c h' e;exact aCJ _
theorem acs {M:Mem}{id:Nat}{l:List FR}(h:Ar M id l)(n d:Nat)(i:1000<=d)(a m b:Nat)(g:m=a+1)(A:m<b)(hb:b<=l.length)(p:oZ l m b):
  ∃M' l',l8 KW d (n+5) (.func 266) [.sliceU id 0 l.length 32,(iN a),(iN m),(iN b),(.func (.func 105) [] [])] M=some [⟨.tuple [],M'⟩]∧mh id M l M' l'∧Mv a b l l'∧oZ l' a b:=by
 have c:=h.big;obtain⟨t,M1,F,G,s,E1,H,q,D,E⟩:=TV n d i id a m b l.length m b c l rfl (λx=>decide (bD l x<bD l a)) hb (by omega) (λ_ _ _=>rfl)
  (λu v B j C z=>by
   have:=Jt p B j C;simp only [decide_eq_true_eq] at z ⊢;omega) tV uV uV uV uV uV uV uV uV uV uV uV uV uV uV uV uV uV uV uV uV uV uV uV (b-m) m b (aA _) (by omega) (aA _) (aA _) (λk f e=>by omega) (λk f e=>by omega) d (by omega) M h uV uV uV
 obtain⟨M2,l',w,y,o⟩:=Ua n d id a m b l.length t c (by omega) (by omega) tV (iN t) fV F G uV uV uV uV uV uV uV uV uV uV uV uV uV uV uV uV uV uV uV uV uV (t-m) a (by omega) d (by omega) M1 l (h.ext E1) rfl uV;refine⟨M2,l',?_,(mh.of h E1).trans y,(o.mv (by omega) (by omega)).mono (aA _) q,Xf (by omega) q (g▸p) (λk f e=>by simpa using D k (by omega) e) (λk f e=>by simpa using E k f e) o⟩;rw [enter (sf:=f266) rfl rfl];have r:sP ((m:Int)-(a:Int))=1:=by rw [dM (by omega) (by omega)];omega
 simp [f266,r,s,w]
theorem Xh {M:Mem}{id:Nat}{l:List FR}(h:Ar M id l)(q d:Nat)(i:1000<=d)(a m b:Nat)(D:a+1<m)(j:b=m+1)(hb:b<=l.length)(z:oZ l a m):
  ∃M' l',l8 KW d (q+5) (.func 266) [.sliceU id 0 l.length 32,(iN a),(iN m),(iN b),(.func (.func 105) [] [])] M=some [⟨.tuple [],M'⟩]∧mh id M l M' l'∧Mv a b l l'∧oZ l' a b:=by
 have c:=h.big;obtain⟨t,M1,O,P,r,E1,A,K,L,N⟩:=TW q d i id a m b l.length a m c l rfl (λx=>!decide (bD l m<bD l x)) (by omega) (by omega) (λ_ _ _=>rfl)
  (λu v H o I F=>by
   have:=Jt z H o I;simp only [azF,decide_eq_false_iff_not] at F ⊢;omega) fV uV uV uV uV uV uV uV tV uV uV uV uV uV uV uV uV uV uV uV uV uV uV uV (m-a) a m (aA _) (by omega) (aA _) (aA _) (λk e f=>by omega) (λk e f=>by omega) d (by omega) M h uV uV uV
 obtain⟨M2,l',s,E,y⟩:=Ub q d id a m b l.length t c fV uV uV uV uV uV uV uV tV (iN t) fV O P uV uV uV uV uV uV uV uV uV uV uV uV uV (m-t) m (by omega) (by omega) d (by omega) M1 l (h.ext E1) rfl uV;subst j;refine⟨M2,l',?_,(mh.of h E1).trans E,(y.mv (by omega) (by omega)).mono A (aA _),QL A K z (λk e f=>by have:=L k e f;simp at this;omega) (λk e f=>by have:=N k e f;simp at this;omega) y⟩;rw [enter (sf:=f266) rfl rfl];obtain⟨p,G⟩:∃p,p+a=m:=⟨m-a,by omega⟩;have B:=aZ G (by omega);have n:¬ p=1:=by omega
 have g:¬ (p:Int)=1:=by omega
 obtain⟨w,J⟩:∃w,w=m+1:=⟨_,rfl⟩;rw [← J] at r s ⊢;have C:sP ((w:Int)-(m:Int))=1:=by rw [dM (by omega) (by omega)];omega
 simp [f266,B,n,g,C,r,s]
set_option maxHeartbeats 16000000
theorem Uc {M:Mem}{id:Nat}{l:List FR}(h:Ar M id l)(C q:Nat)(w:1000<=q)(a m b d c p lo hi:Nat)(I:a+1<m)(O:m+1<b)(hb:b<=l.length)(Z:d=(a+b) / 2)(Q:c=d+m)(hp:p+1=c)
  (g:lo=if d<m then c-b else a) (f:hi=if d<m then d else m) (T:oZ l a m) (U:oZ l m b) (o:d9):
  ∃t M1 zh zr,T9 (λenv m k=>oo (l8 KW q (C+4)) q none env m k) q (EL (iN m) (iN a) fV (iN b) uV uV uV (.func (.func 105) [] []) (.sliceU id 0 l.length 32) uV uV uV uV fV uV uV uV uV uV uV uV (iN d) o (iN c) (iN lo) (iN hi) uV (iN p) uV uV uV uV uV uV) M [] =
     some [⟨.exit 8,(EL (iN m) (iN a) fV (iN b) uV uV uV (.func (.func 105) [] []) (.sliceU id 0 l.length 32) uV uV uV uV fV uV uV uV uV uV uV uV (iN d) o (iN c) (iN t) (iN t) fV (iN p) zh zr uV uV uV uV),M1,[],none⟩]∧Ext M M1∧
   ∃e,t+e=c∧a<=t∧t<=m∧t<=d∧m<=e∧e<=b∧d<=e∧(a<t->e<b->bD l (t-1)<=bD l e)∧(t<m->m<e->bD l (e-1)<bD l t):=by
 have r:=h.big;have B:a<=lo:=by rw [g];split<;>omega
 have z:lo<=hi:=by rw [g,f];split<;>omega
 have N:hi<=m:=by rw [f];split<;>omega
 have L:hi<=d:=by rw [f];split<;>omega
 have y:c<=lo+b:=by rw [g];split<;>omega
 obtain⟨t,M1,zh,zr,F,E1,D,E,V,W⟩:=TY C q w id a m b l.length lo hi p r l rfl (λx=>!decide (bD l (p-x)<bD l x)) (by omega) (λx hx S=>⟨by omega,by omega⟩) (λ_ _ _=>rfl)
  (λu v hu A hv s=>by
   have X:=Jt T (i:=u) (j:=v) (by omega) A (by omega);have Y:=Jt U (i:=p-v) (j:=p-u) (by omega) (by omega) (by omega);simp only [azF,decide_eq_false_iff_not] at s ⊢;omega) fV uV uV uV uV uV uV uV fV uV uV uV uV uV uV uV (iN d) o (iN c) uV uV uV uV (hi-lo) lo hi (aA _) z (aA _) (aA _) (λk G H=>by omega) (λk G H=>by omega) q (by omega) M h uV uV uV
 refine⟨t,M1,zh,zr,F,E1,c-t,by omega,by omega,by omega,by omega,by omega,by omega,by omega,λJ K=>?_,λR P=>?_⟩;have n:lo<=t-1:=by rw [g] at D y ⊢;split at D<;>split<;>omega
 have:=V (t-1) n (by omega);simp only [azF,decide_eq_false_iff_not] at this;rw [show p-(t-1)=c-t from by omega] at this;omega;have n:t<hi:=by rw [f] at E ⊢;split at E<;>split<;>omega
 have:=W t (aA _) n;simp only [Bool.not_eq_false',decide_eq_true_eq] at this;rw [show p-t=c-t-1 from by omega] at this;exact this
theorem VF (k:Nat)(B:1000<=k)(id:Nat):∀(s:Nat) (M:Mem) (l:List FR),Ar M id l->∀(n0 a m b:Nat),b-a<=s->a<m->m<b->b<=l.length->oZ l a m->oZ l m b->
  ∃M' l',l8 KW k (n0+s+5) (.func 266) [.sliceU id 0 l.length 32,(iN a),(iN m),(iN b),(.func (.func 105) [] [])] M=some [⟨.tuple [],M'⟩]∧mh id M l M' l'∧Mv a b l l'∧oZ l' a b:=by
 intro s;induction s with
 | zero=>intro M l h n0 a m b hs Y N;omega
 | succ s ih=>
  intro M l h n0 a m b hs Y N Z W X;by_cases c1:m=a+1;exact acs h (n0+(s+1)) k B a m b c1 N Z X;by_cases c2:b=m+1;exact Xh h (n0+(s+1)) k B a m b (by omega) c2 Z W;have a6:=h.big;obtain⟨d,U⟩:∃d,d=(a+b) / 2:=⟨_,rfl⟩;obtain⟨nn,C⟩:∃nn,nn=d+m:=⟨_,rfl⟩;obtain⟨p,V⟩:∃p,p+1=nn:=⟨nn-1,by omega⟩;obtain⟨lo,j⟩:∃lo,lo=if d<m then nn-b else a:=⟨_,rfl⟩
  obtain⟨hi,i⟩:∃hi,hi=if d<m then d else m:=⟨_,rfl⟩
  obtain⟨t,M1,zh,zr,D,E1,e,te,I,tm,td,me,eb,de,k1,k2⟩:=Uc h (n0+(s+1)) k B a m b d nn p lo hi (by omega) (by omega) Z U C V j i W X (.bool (decide (d<m)));have a1:=h.ext E1;obtain⟨M2,l2,y,n,O⟩:∃M2 l2,((t<m∧m<e∧l8 KW k (n0+s+5) (.func 334) [.sliceU id 0 l.length 32,(iN t),(iN m),(iN e),(.func (.func 105) [] [])] M1=some [⟨.tuple [],M2⟩])∨(¬ (t<m∧m<e)∧M2=M1))∧mh id M1 l M2 l2∧zH t m e l l2:=by
   by_cases c:t<m∧m<e;obtain⟨M2,l2,g,J,O⟩:=ag0 a1 (n0+s+3) k B t m e c.1 c.2 (by omega) (.func (.func 105) [] []);exact⟨M2,l2,.inl ⟨c.1,c.2,g⟩,J,O⟩;refine⟨M1,l,.inr ⟨c,rfl⟩,mh.refl a1,?_⟩;by_cases ct:t<m;obtain rfl:e=m:=by omega
   exact VE (by omega);obtain rfl:t=m:=by omega
   exact GA (by omega)
  have P:(t<m∧m<e∧l8 KW k (n0+s+5) (.func 334) [.sliceU id 0 l.length 32,(iN t),(iN m),(iN e),(.func (.func 105) [] [])] M1=some [⟨.tuple [],M2⟩])∨(t<m∧¬ m<e∧M2=M1)∨(¬ t<m∧M2=M1):=by rcases y with y | ⟨r,y⟩;exact .inl y;by_cases c:t<m;exact .inr (.inl ⟨c,λh=>r ⟨c,h⟩,y⟩);exact .inr (.inr ⟨c,y⟩)
  obtain⟨hx,q1,q2,q3,q4⟩:=Xg (d:=d) I tm me eb (by omega) tm W X k1 k2 O;have L:=n.len;obtain⟨M3,v,z,o,u,w1⟩:∃M3 v,((a<t∧t<d∧l8 KW k (n0+s+5) (.func 266) [.sliceU id 0 l.length 32,(iN a),(iN t),(iN d),(.func (.func 105) [] [])] M2=some [⟨.tuple [],M3⟩])∨(¬ (a<t∧t<d)∧M3=M2))∧mh id M2 l2 M3 v∧Mv a d l2 v∧oZ v a d:=by
   by_cases c:a<t∧t<d;obtain⟨M3,v,g,J,hm,a4⟩:=ih M2 l2 n.ar n0 a t d (by omega) c.1 c.2 (by omega) q1 q2;rw [L] at g;exact⟨M3,v,.inl ⟨c.1,c.2,g⟩,J,hm,a4⟩;refine⟨M2,l2,.inr ⟨c,rfl⟩,mh.refl n.ar,Mv.refl _ _ _,?_⟩;by_cases ct:a<t;obtain rfl:t=d:=by omega
   exact q1;obtain rfl:a=t:=by omega
   exact q2
  have a0:=o.len.trans L;have Q:(a<t∧t<d∧l8 KW k (n0+s+5) (.func 266) [.sliceU id 0 l.length 32,(iN a),(iN t),(iN d),(.func (.func 105) [] [])] M2=some [⟨.tuple [],M3⟩])∨(a<t∧¬ t<d∧M3=M2)∨(¬ a<t∧M3=M2):=by rcases z with z | ⟨r,z⟩;exact .inl z;by_cases c:a<t;exact .inr (.inl ⟨c,λh=>r ⟨c,h⟩,z⟩);exact .inr (.inr ⟨c,z⟩)
  obtain⟨M4,H,A,K,G,w2⟩:∃M4 H,((d<e∧e<b∧l8 KW k (n0+s+5) (.func 266) [.sliceU id 0 l.length 32,(iN d),(iN e),(iN b),(.func (.func 105) [] [])] M3=some [⟨.tuple [],M4⟩])∨(¬ (d<e∧e<b)∧M4=M3))∧mh id M3 v M4 H∧Mv d b v H∧oZ H d b:=by
   have u1:=oZ.out u q3 (.inr (aA _));have u2:=oZ.out u q4 (.inr de);by_cases c:d<e∧e<b;obtain⟨M4,H,g,J,hm,a5⟩:=ih M3 v o.ar n0 d e b (by omega) c.1 c.2 (by omega) u1 u2;rw [a0] at g;exact⟨M4,H,.inl ⟨c.1,c.2,g⟩,J,hm,a5⟩;refine⟨M3,v,.inr ⟨c,rfl⟩,mh.refl o.ar,Mv.refl _ _ _,?_⟩;by_cases ct:d<e;obtain rfl:e=b:=by omega
   exact u1;obtain rfl:d=e:=by omega
   exact u2
  have R:(d<e∧e<b∧l8 KW k (n0+s+5) (.func 266) [.sliceU id 0 l.length 32,(iN d),(iN e),(iN b),(.func (.func 105) [] [])] M3=some [⟨.tuple [],M4⟩])∨(d<e∧¬ e<b∧M4=M3)∨(¬ d<e∧M4=M3):=by rcases A with A | ⟨r,A⟩;exact .inl A;by_cases c:d<e;exact .inr (.inl ⟨c,λh=>r ⟨c,h⟩,A⟩);exact .inr (.inr ⟨c,A⟩)
  refine⟨M4,H,?_,(((mh.of h E1).trans n).trans o).trans K,(((O.mv tm me).mono I eb).trans (u.mono (aA _) (by omega))).trans (G.mono (by omega) (aA _)),halves (by omega) (by omega) hx u G w1 w2⟩;clear ih hx O u G w1 w2 q1 q2 q3 q4 k1 k2 W X n o K y z A;rw [enter (sf:=f266) rfl rfl];obtain⟨p1,a2⟩:∃x,x+a=m:=⟨m-a,by omega⟩;have x0:=aZ a2 (by omega);have S:¬ (p1:Int)=1:=by omega
  have E:¬ p1=1:=by omega
  obtain⟨p2,a3⟩:∃x,x+m=b:=⟨b-m,by omega⟩;have x1:=aZ a3 (by omega);have T:¬ (p2:Int)=1:=by omega
  have F:¬ p2=1:=by omega
  obtain⟨w,v1,v2,v3,v4⟩:=Dr U (by omega);have x2:=bO C (by omega);have x3:=rC V (by omega);have x5:sP ((nn:Int)-(t:Int))=(e:Int):=aZ (by omega) (by omega);have f:n0+(s+1)+4=n0+s+5:=by omega
  rw [f] at D ⊢;by_cases cdm:d<m;rw [if_pos cdm] at j i;rw [j,i] at D;obtain⟨q,hq⟩:∃q,q+b=nn:=⟨nn-b,by omega⟩;have x4:=aZ hq (by omega);rw [show nn-b=q from by omega] at D;simp only [cdm,decide_true] at D;clear U C V j i te f;rcases P with⟨r1,r2,y⟩ | ⟨r1,r2,rfl⟩ | ⟨r1,rfl⟩<;>rcases Q with⟨r3,r4,z⟩ | ⟨r3,r4,rfl⟩ | ⟨r3,rfl⟩<;>rcases R with⟨r5,r6,A⟩ | ⟨r5,r6,rfl⟩ | ⟨r5,rfl⟩<;>simp [f266,x0,S,E,x1,T,F,v1,v2,v3,v4,x2,x3,x4,x5,cdm,D, *]
  rw [if_neg cdm] at j i;rw [j,i] at D;simp only [cdm,decide_false] at D;clear U C V j i te f;rcases P with⟨r1,r2,y⟩ | ⟨r1,r2,rfl⟩ | ⟨r1,rfl⟩<;>rcases Q with⟨r3,r4,z⟩ | ⟨r3,r4,rfl⟩ | ⟨r3,rfl⟩<;>rcases R with⟨r5,r6,A⟩ | ⟨r5,r6,rfl⟩ | ⟨r5,rfl⟩<;>simp [f266,x0,S,E,x1,T,F,v1,v2,v3,v4,x2,x3,x5,cdm,D, *]
theorem Ud (R u:Nat)(D:1000<=u)(id a b n O:Nat)(hn:n<=200)(V:d9):
  ∀(s j:Nat),a+s=j->j<n->∀(N:Nat),s<N->∀(M:Mem) (l:List FR),Ar M id l->l.length=n->∀(xd:d9),
   ∃t M' l',T9 (λenv m k=>Bj (l8 KW u (R+4)) u none env m k) N (Vl (iN a) (iN O) (iN b) V (iN j) (.func (.func 105) [] []) (.sliceU id 0 n 32) xd) M []=some [⟨.exit 2,(Vl (iN a) (iN O) (iN b) V (iN t) (.func (.func 105) [] []) (.sliceU id 0 n 32) fV),M',[],none⟩]∧mh id M l M' l'∧zH t j (j+1) l l'∧a<=t∧t<=j∧
    (∀k,t<=k->k<j->bD l j<bD l k)∧(a<t->bD l (t-1)<=bD l j):=by
 intro s;induction s with
 | zero=>
  intro j Z E N Y M l h L xd;obtain⟨N,rfl⟩:∃M,N=M+1:=⟨N-1,by omega⟩;obtain rfl:a=j:=by omega
  refine⟨a,M,l,?_,mh.refl h,GA (by omega),aA _,aA _,λk A K=>by omega,λh=>by omega⟩;rw [o9];simp [Bj]
 | succ s ih=>
  intro j Z E N Y M l h L xd;obtain⟨N,rfl⟩:∃M,N=M+1:=⟨N-1,by omega⟩;have c:j<l.length:=by omega
  have d:j-1<l.length:=by omega
  have i:a<j:=by omega
  obtain⟨M1,J,E1⟩:=Gy h.ok h.lm R u D (h.get c) (h.get d);have B:=h.ext E1;have w:=h.fa.ld c;have z:=h.fa.ld d;have G:=B.fa.ld c;have H:=B.fa.ld d;have W:=(h.get c).rf;have X:=(h.get d).rf;have e:=Gz (h.get c) (h.get d);rw [← jJ c,← jJ d] at e;have P:∀{β:Type} (f:Nat->Option β),idx n (iV (j:Int)) f=f j:=λf=>V6 _ _ f (by omega);obtain⟨q,hq⟩:∃q,q+1=j:=⟨j-1,by omega⟩;have p:j-1=q:=by omega
  have Q:∀{β:Type} (f:Nat->Option β),idx n (iV (q:Int)) f=f q:=λf=>V6 _ _ f (by omega);have I:=rC hq (by omega);cases hb:decide (bD l j<bD l (j-1)) with
  | false=>rw [hb] at e;refine⟨j,M1,l,?_,mh.of h E1,GA (by omega),by omega,aA _,λk A K=>by omega,λ_=>by simp at hb;exact hb⟩;generalize hx:l[j]=x at *;generalize hy:l[j-1]=y at *;simp only [p] at w z G H e;clear ih;rw [o9];simp [Bj,i,I,P,Q,w,z,W,X,J,e]
  | true=>
   rw [hb] at e;obtain⟨m1,m2,s1,S,v⟩:=B.swap c d;obtain⟨t,M',l',g,o,F,t1,t2,T,U⟩:=ih (j-1) (by omega) (by omega) N (by omega) m2 _ v.ar (v.len.trans L) tV;rw [show j-1+1=j from by omega] at F;have r:∀k,bD (swp l j (j-1) c d) k=if k=j-1 then bD l j else if k=j then bD l (j-1) else bD l k:=λk=>by by_cases c1:k=j-1;rw [if_pos c1];exact iX (by rw [swp_get,if_pos c1]);by_cases c2:k=j;rw [if_neg c1,if_pos c2];exact iX (by rw [swp_get,if_neg c1,if_pos c2]);rw [if_neg c1,if_neg c2];exact iX (by rw [swp_get,if_neg c1,if_neg c2])
   refine⟨t,M',l',?_,((mh.of h E1).trans v).trans o,QM (by omega) c d rfl F,t1,by omega,λk A K=>?_,λC=>?_⟩;rw [o9,← g];generalize hx:l[j]=x at *;generalize hy:l[j-1]=y at *;simp only [p] at w z G H S e ⊢;clear ih F v o T U g r hb;simp [Bj,i,I,P,Q,w,z,G,H,W,X,J,e,s1,S,G5.len];by_cases hk:k=j-1;subst hk;simpa using hb;have:=T k A (by omega);rw [r,r,if_pos rfl,if_neg (by omega),if_neg (by omega)] at this;exact this;have:=U C;rw [r,r,if_pos rfl,if_neg (by omega),if_neg (by omega)] at this;exact this
theorem Ue (B e:Nat)(o:1000<=e)(id a b n:Nat)(I:n<=200)(hb:b<=n):
  ∀(s i:Nat),i+s=b->a<i->∀(N:Nat),s<N->∀(M:Mem) (l:List FR),Ar M id l->l.length=n->oZ l a i->∀(y3 y4 y7:d9),
   ∃z4 z7 M' l',T9 (λenv m k=>EG (l8 KW e (B+4)) e none env m k) N (Vl (iN a) (iN i) (iN b) y3 y4 (.func (.func 105) [] []) (.sliceU id 0 n 32) y7) M []=some [⟨.exit 0,(Vl (iN a) (iN b) (iN b) fV z4 (.func (.func 105) [] []) (.sliceU id 0 n 32) z7),M',[],none⟩]∧mh id M l M' l'∧Mv a b l l'∧oZ l' a b:=by
 intro s;induction s with
 | zero=>
  intro i H g N G M l h r f y3 y4 y7;obtain⟨N,rfl⟩:∃M,N=M+1:=⟨N-1,by omega⟩;obtain rfl:i=b:=by omega
  refine⟨y4,y7,M,l,?_,mh.refl h,Mv.refl _ _ _,f⟩;rw [o9];simp [EG]
 | succ s ih=>
  intro i H g N G M l h r f y3 y4 y7;obtain⟨N,rfl⟩:∃M,N=M+1:=⟨N-1,by omega⟩;obtain⟨t,M1,A,E,d,z,C,K,L,O⟩:=Ud B e o id a b n i I tV (i-a) i (by omega) (by omega) e (by omega) M l h r y7;have v:oZ A a (i+1):=QL C K f (λk F P=>by
   have c:=O (by omega);exact azP (Jt f F (by omega:k<=t-1) (by omega)) c) L z
  obtain⟨z4,z7,M2,J,x,j,u,w⟩:=ih (i+1) (by omega) (by omega) N (by omega) M1 A d.ar (d.len.trans r) v tV (iN t) fV;refine⟨z4,z7,M2,J,?_,d.trans j,((z.mv (by omega) (by omega)).mono C (by omega)).trans u,w⟩;obtain⟨q,y⟩:∃q,q=i+1:=⟨_,rfl⟩;rw [← y] at x;have D:=ah y (by omega);have p:i<b:=by omega
  rw [o9,← x];simp [EG,p,E,D]
theorem VG {M:Mem}{id:Nat}{l:List FR}(h:Ar M id l)(k d:Nat)(e:1000<=d)(a b:Nat)(n:a<b)(hb:b<=l.length):
  ∃M' l',l8 KW d (k+5) (.func 265) [.sliceU id 0 l.length 32,(iN a),(iN b),(.func (.func 105) [] [])] M=some [⟨.tuple [],M'⟩]∧mh id M l M' l'∧Mv a b l l'∧oZ l' a b:=by
 have c:=h.big;obtain⟨v,w,M',l',g,o,p,r⟩:=Ue k d e id a b l.length c hb (b-(a+1)) (a+1) (by omega) (by omega) d (by omega) M l h rfl (λi j s t u=>by omega) uV uV uV;refine⟨M',l',?_,o,p,r⟩;rw [enter (sf:=f265) rfl rfl];obtain⟨q,f⟩:∃q,q=a+1:=⟨_,rfl⟩;rw [← f] at g;have m:=ah f (by omega);simp [f265,m,g]
theorem LW (M:Mem)(i c:Nat)(g:1000<=c)(v w:d9)(a b:Nat)(f:b<=a+1)(j:a<1000):l8 KW c (i+1) (.func 265) [v,(iN a),(iN b),w] M=some [⟨.tuple [],M⟩]:=by
 rw [enter (sf:=f265) rfl rfl];obtain⟨c,rfl⟩:∃k,c=k+1:=⟨c-1,by omega⟩;obtain⟨q,h⟩:∃q,q=a+1:=⟨_,rfl⟩;have e:=ah h (by omega);have d:¬ q<b:=by omega
 simp [f265,EG,o9,e,d]
theorem acu (M:Mem)(c a:Nat)(b:1000<=a)(v w:d9):l8 KW a (c+2) (.func 184) [v,i0,w] M=some [⟨.tuple [],M⟩]:=by rw [enter (sf:=f184) rfl rfl];have g:=LW M c a b v w 0 0 (by omega) (by omega);simp at g;obtain⟨a,rfl⟩:∃k,a=k+1:=⟨a-1,by omega⟩;simp [f184,Bh,qw,o9,g]
theorem ay0 {b q:Nat}(h:q=2*b)(a:q<4611686018427387904):sP (2*(b:Int))=(q:Int):=by rw [dM (by omega) (by omega)];omega
theorem ay1 {b q:Nat}(h:q=2*b)(a:q<4611686018427387904):sP ((b:Int)*2)=(q:Int):=by rw [dM (by omega) (by omega)];omega
def SB (l:List FR)(bs lo hi:Nat):Prop:=∀i j,lo<=i->i<j->j<hi->i / bs=j / bs->bD l i<=bD l j
theorem SB.out {l e:List FR}{a b c lo hi:Nat}(h:SB l c lo hi)(d:Mv a b l e)(o:hi<=a∨b<=lo):SB e c lo hi:=λi j f g m n=>by rw [d.QK (k:=i) (by omega),d.QK (k:=j) (by omega)];exact h i j f g m n
theorem Uf (B g:Nat)(t:1000<=g)(id n:Nat)(Q:n<=200):
  ∀(k a:Nat),n-a<=k->a<=n->a%20=0->∀(N:Nat),k<N->∀(M:Mem) (l:List FR),Ar M id l->l.length=n->SB l 20 0 a->∀(b:Nat),b=a+20->∀(c3 c7 c8 m9 c10:d9),
   ∃a' b' M' l',T9 (λenv m k=>Bh (l8 KW g (B+205)) g none env m k) N (zQ (iV 20) (iN b) (iN n) c3 (.sliceU id 0 n 32) (iN a) (.func (.func 105) [] []) c7 c8 m9 c10) M []=some [⟨.exit 0,(zQ (iV 20) (iN b') (iN n) fV (.sliceU id 0 n 32) (iN a') (.func (.func 105) [] []) c7 c8 m9 c10),M',[],none⟩]∧
    a'<=n∧n<a'+20∧a'%20=0∧mh id M l M' l'∧Mv 0 n l l'∧SB l' 20 0 a':=by
 intro k;induction k with
 | zero=>
  intro a I d r N G M l h u o b H c3 c7 c8 m9 c10;obtain⟨N,rfl⟩:∃M,N=M+1:=⟨N-1,by omega⟩;refine⟨a,b,M,l,?_,d,by omega,r,mh.refl h,Mv.refl _ _ _,o⟩;have c:¬ b<=n:=by omega
  rw [o9];simp [Bh,c]
 | succ k ih=>
  intro a I d r N G M l h u o b H c3 c7 c8 m9 c10;obtain⟨N,rfl⟩:∃M,N=M+1:=⟨N-1,by omega⟩;by_cases c:b<=n;obtain⟨M1,J,p,e,f,w⟩:=VG h (B+200) g t a b (by omega) (by omega);rw [u] at p;obtain⟨q,A⟩:∃q,q=b+20:=⟨_,rfl⟩;have y:=bO (a:=b) (b:=20) A (by omega);obtain⟨a',b',M2,K,C,L,O,P,s,v,x⟩:=ih b (by omega) c (by omega) N (by omega) M1 J e.ar (e.len.trans u) (λi j D z E F=>by
   by_cases hj:j<a;exact (o.out f (.inl (aA _))) i j D z hj F;exact w i j (by omega) z E) q A tV c7 c8 m9 c10
  refine⟨a',b',M2,K,?_,L,O,P,e.trans s,(f.mono (adC _) c).trans v,x⟩;rw [o9,← C];try simp at p
  try simp at y
  simp [Bh,c,p,y];refine⟨a,b,M,l,?_,d,by omega,r,mh.refl h,Mv.refl _ _ _,o⟩;rw [o9];simp [Bh,c]
def Pw (bs:Nat):Prop:=bs=20∨bs=40∨bs=80∨bs=160
theorem Ug (L v:Nat)(B:1000<=v)(id n bs:Nat)(hn:n<=200)(e:Pw bs):
  ∀(k a:Nat),n-a<=k->a<=n->a%(2*bs)=0->∀(N:Nat),k<N->∀(M:Mem) (l:List FR),Ar M id l->l.length=n->SB l (2*bs) 0 a->SB l bs a n->∀(b:Nat),b=a+2*bs->∀(c3 c7 c8 m9 c10:d9),
   ∃a' b' M' l',T9 (λenv m k=>xO (l8 KW v (L+205)) v none env m k) N (zQ (iN bs) (iN b) (iN n) c3 (.sliceU id 0 n 32) (iN a) (.func (.func 105) [] []) c7 c8 m9 c10) M []=some [⟨.exit 4,(zQ (iN bs) (iN b') (iN n) c3 (.sliceU id 0 n 32) (iN a') (.func (.func 105) [] []) c7 fV m9 c10),M',[],none⟩]∧
    a'<=n∧n<a'+2*bs∧a'%(2*bs)=0∧mh id M l M' l'∧Mv 0 n l l'∧SB l' (2*bs) 0 a'∧SB l' bs a' n:=by
 have R:0<bs:=by rcases e with rfl | rfl | rfl | rfl<;>omega
 intro k;induction k with
 | zero=>
  intro a T r z N P M l h C x f b Q c3 c7 c8 m9 c10;obtain⟨N,rfl⟩:∃M,N=M+1:=⟨N-1,by omega⟩;refine⟨a,b,M,l,?_,r,by omega,z,mh.refl h,Mv.refl _ _ _,x,f⟩;have c:¬ b<=n:=by omega
  rw [o9];simp [xO,c]
 | succ k ih=>
  intro a T r z N P M l h C x f b Q c3 c7 c8 m9 c10;obtain⟨N,rfl⟩:∃M,N=M+1:=⟨N-1,by omega⟩;by_cases c:b<=n;obtain⟨M1,V,w,s,g,E⟩:=VF v B id 200 M l h L a (a+bs) b (by omega) (by omega) (by omega) (by omega)
   (λi j t o u=>f i j t o (by omega) (by rcases e with rfl | rfl | rfl | rfl<;>omega)) (λi j t o u=>f i j (by omega) o (by omega) (by rcases e with rfl | rfl | rfl | rfl<;>omega))
  rw [C] at w;obtain⟨p,K⟩:∃p,p=a+bs:=⟨_,rfl⟩;rw [← K] at w;obtain⟨d,S⟩:∃d,d=2*bs:=⟨_,rfl⟩;obtain⟨q,U⟩:∃q,q=b+d:=⟨_,rfl⟩;have bb:bs<=160:=by rcases e with rfl | rfl | rfl | rfl<;>omega
  have H:=bO (a:=a) (b:=bs) K (by omega);have I:=ay0 (b:=bs) S (by omega);have J:=bO (a:=b) (b:=d) U (by omega);obtain⟨a',b',M2,W,O,X,Y,Z,A,D,F,G⟩:=ih b (by omega) c (by rcases e with rfl | rfl | rfl | rfl<;>omega) N (by omega) M1 V s.ar (s.len.trans C) (λi j t o u y=>by
   by_cases hj:j<a;exact (x.out g (.inl (aA _))) i j t o hj y;exact E i j (by rcases e with rfl | rfl | rfl | rfl<;>omega) o u) (λi j t o u y=>by
   rw [g.QK (k:=i) (by omega),g.QK (k:=j) (by omega)];exact f i j (by omega) o u y) q (by omega) c3 c7 tV m9 c10
  refine⟨a',b',M2,W,?_,X,Y,Z,s.trans A,(g.mono (adC _) c).trans D,F,G⟩;rw [o9,← O];try simp at w
  try simp at H
  try simp at I
  try simp at J
  simp [xO,c,w,H,I,J];refine⟨a,b,M,l,?_,r,by omega,z,mh.refl h,Mv.refl _ _ _,x,f⟩;rw [o9];simp [xO,c]
theorem NR (D o:Nat)(v:1000<=o)(id n bs:Nat)(S:n<=200)(c:Pw bs)(w:bs<n){M:Mem}{l:List FR}(h:Ar M id l)(L:l.length=n)(hs:SB l bs 0 n)(N:Nat)(X E Y Q K P u:d9):
  ∃y1 y5 y7 y8 y9 y10 M' l',T9 (λenv m k=>qw (l8 KW o (D+205)) o none env m k) (N+1) (zQ (iN bs) X (iN n) E (.sliceU id 0 n 32) Y (.func (.func 105) [] []) Q K P u) M []=T9 (λenv m k=>qw (l8 KW o (D+205)) o none env m k) N (zQ (iN ((2*bs))) y1 (iN n) E (.sliceU id 0 n 32) y5 (.func (.func 105) [] []) y7 y8 y9 y10) M' []∧
   mh id M l M' l'∧Mv 0 n l l'∧SB l' (2*bs) 0 n:=by
 have Z:bs<=160:=by rcases c with rfl | rfl | rfl | rfl<;>omega
 have R:0<bs:=by rcases c with rfl | rfl | rfl | rfl<;>omega
 obtain⟨d,q⟩:∃d,d=2*bs:=⟨_,rfl⟩;obtain⟨a,b,M1,O,C,r1,V,W,g,x,s,e⟩:=Ug D o v id n bs S c n 0 (by omega) (by omega) (Nat.zero_mod _) o (by omega) M l h L (λi j r f t=>by omega) hs d (by omega) E tV K P u;rw [← q] at V W s ⊢;have A:=ay0 (b:=bs) q (by omega);have B:=ay1 (b:=bs) q (by omega);obtain⟨p,T⟩:∃p,p=a+bs:=⟨_,rfl⟩;have z:=bO (a:=a) (b:=bs) T (by omega);have I:=g.len.trans L;by_cases hm:p<n
 ·obtain⟨M2,U,F,H,y,J⟩:=VF o v id 200 M1 O g.ar D a p n (by omega) (by omega) (by omega) (by omega)
    (λi j r f t=>e i j r f (by omega) (by rcases c with rfl | rfl | rfl | rfl<;>(subst q;omega))) (λi j r f t=>e i j (by omega) f (by omega) (by rcases c with rfl | rfl | rfl | rfl<;>(subst q;omega)))
  rw [I] at F;refine⟨(iN b),(iN a),tV,fV,(iN p),tV,M2,U,?_,g.trans H,x.trans (y.mono (adC _) (aA _)),λi j r f t G=>?_⟩
  rotate_left
  by_cases hj:j<a;exact (s.out y (.inl (aA _))) i j r f hj G;exact J i j (by rcases c with rfl | rfl | rfl | rfl<;>(subst q;omega)) f t
  rw [o9];try simp at C
  try simp at F
  try simp at z
  try simp at A
  try simp at B
  simp [qw,w,C,A,z,hm,F,B]
 ·refine⟨(iN b),(iN a),tV,fV,(iN p),fV,M1,O,?_,g,x,λi j r f t G=>?_⟩
  rotate_left
  by_cases hj:j<a;exact s i j r f hj G;exact e i j (by rcases c with rfl | rfl | rfl | rfl<;>(subst q;omega)) f t (by rcases c with rfl | rfl | rfl | rfl<;>(subst q;omega))
  rw [o9];try simp at C
  try simp at z
  try simp at A
  try simp at B
  simp [qw,w,C,A,z,hm,B]
theorem Ju (w g:Nat)(id n a:Nat)(v:n<=a){M:Mem}{l:List FR}(h:Ar M id l)(hs:SB l a 0 n)(N:Nat)(p d q r f o b:d9):
  ∃e M' l',T9 (λenv m k=>qw (l8 KW g (w+205)) g none env m k) (N+1) (zQ (iN a) p (iN n) d (.sliceU id 0 n 32) q (.func (.func 105) [] []) r f o b) M []=some [⟨.exit 2,e,M',[],none⟩]∧mh id M l M' l'∧Mv 0 n l l'∧oZ l' 0 n:=by
 refine⟨(zQ (iN a) p (iN n) d (.sliceU id 0 n 32) q (.func (.func 105) [] []) fV f o b),M,l,?_,mh.refl h,Mv.refl _ _ _,λi j s t u=>hs i j s t u ?_⟩
 rotate_left
 rw [aq4 (by omega),aq4 (by omega)];rw [o9];have c:¬ a<n:=by omega
 simp [qw,c]
theorem Uh (g b:Nat)(j:1000<=b)(id n:Nat)(z:n<=200):∀(t bs:Nat),bs*2^t=320->20<=bs->∀{M:Mem} {l:List FR},Ar M id l->l.length=n->SB l bs 0 n->∀(N:Nat),t<N->∀(x1 c3 x5 c7 c8 m9 c10:d9),
  ∃e M' l',T9 (λenv m k=>qw (l8 KW b (g+205)) b none env m k) N (zQ (iN bs) x1 (iN n) c3 (.sliceU id 0 n 32) x5 (.func (.func 105) [] []) c7 c8 m9 c10) M []=some [⟨.exit 2,e,M',[],none⟩]∧mh id M l M' l'∧Mv 0 n l l'∧oZ l' 0 n:=by
 intro t;induction t with
 | zero=>intro bs d c M l h o f N y x1 c3 x5 c7 c8 m9 c10;obtain⟨N,rfl⟩:∃M,N=M+1:=⟨N-1,by omega⟩;exact Ju g b id n bs (by omega) h f N x1 c3 x5 c7 c8 m9 c10
 | succ t ih=>
  intro bs d c M l h o f N y x1 c3 x5 c7 c8 m9 c10;obtain⟨N,rfl⟩:∃M,N=M+1:=⟨N-1,by omega⟩;by_cases hlt:bs<n;have r:Pw bs:=by
   rw [azz] at d;have A:t<=3:=by apply aA4;intro I;have:=Nat.pow_le_pow_right (n:=2) (by decide) (show 4<=t by omega);have H:20*(2^4*2)<=bs*(2^t*2):=azY c (adb _ this);omega
   unfold Pw;match t,A with
   | 0,_=>omega
   | 1,_=>omega
   | 2,_=>omega
   | 3,_=>omega
  obtain⟨C,D,E,F,G,v,M1,J,w,a,p,s⟩:=NR g b j id n bs z r hlt h o f N x1 c3 x5 c7 c8 m9 c10;obtain⟨e,M2,B,x,i,q,u⟩:=ih (2*bs) (by rw [azz] at d;rw [← d];rw [adS 2 bs,Nat.mul_assoc,adS 2]) (by omega) a.ar (a.len.trans o) s N (by omega) C c3 D E F G v;exact⟨e,M2,B,w.trans x,a.trans i,p.trans q,u⟩;exact Ju g b id n bs (by omega) h f N x1 c3 x5 c7 c8 m9 c10
theorem ag4 {M:Mem}{id:Nat}{l:List FR}(h:Ar M id l)(q f:Nat)(k:1000<=f)(h0:0<l.length):
  ∃M' l',l8 KW f (q+206) (.func 184) [.sliceU id 0 l.length 32,(iN (l.length)),(.func (.func 105) [] [])] M=some [⟨.tuple [],M'⟩]∧mh id M l M' l'∧Mv 0 l.length l l'∧oZ l' 0 l.length:=by
 have c:=h.big;obtain⟨n,A⟩:∃n,n=l.length:=⟨_,rfl⟩;rw [← A] at h0 c ⊢;obtain⟨a,b,M1,E,F,J,K,L,g,y,B⟩:=Uf q f k id n c n 0 (by omega) (by omega) rfl f (by omega) M l h A.symm (λi j v u w=>by omega) 20 rfl uV uV uV uV uV;have t:=g.len.trans A.symm;have s:∃M2 p,l8 KW f (q+205) (.func 265) [.sliceU id 0 n 32,(iN a),(iN n),(.func (.func 105) [] [])] M1=some [⟨.tuple [],M2⟩]∧mh id M1 E M2 p∧Mv a n E p∧oZ p a n:=by by_cases han:a<n;obtain⟨M2,p,r,d,m,o⟩:=VG g.ar (q+200) f k a n han (by omega);rw [t] at r;exact⟨M2,p,r,d,m,o⟩;exact⟨M1,E,LW M1 (q+204) f k _ _ a n (by omega) (by omega),mh.refl g.ar,Mv.refl _ _ _,λi j v u w=>by omega⟩
 obtain⟨M2,p,r,d,m,o⟩:=s;have D:SB p 20 0 n:=λi j v u w H=>by by_cases hj:j<a;exact (B.out m (.inl (aA _))) i j v u hj H;exact o i j (by omega) u w
 obtain⟨e,M3,I,G,x,z,C⟩:=Uh q f k id n c 4 20 (by decide) (aA _) d.ar (d.len.trans t) D f (by omega) (iN b) fV (iN a) uV uV uV uV;refine⟨M3,I,?_,(g.trans d).trans x,(y.trans (m.mono (adC _) (aA _))).trans z,C⟩;rw [enter (sf:=f184) rfl rfl];simp at F r G;simp [f184,F,r,G]
theorem fJ.lenOf {m:Mem}{v:d9}{a:List FR}(h:fJ m v a):AM.lenOf v=some a.length:=by rcases h with⟨rfl,rfl⟩ | ⟨id,⟨c,rfl⟩ | rfl,_⟩<;>rfl
def cellsOf (fs:List FR):List (List d9):=fs.map λr=>r.f.cells
theorem rD (a:List FR):∀r,r∈cellsOf a->r.length=32:=λr b=>by obtain⟨x,_,rfl⟩:=adM.1 b;exact G5.len x.f
theorem QN {a:List FR}(h:∀r,r∈a->r.Good):I6 (cellsOf a).flatten=true:=xI _ λr b=>by obtain⟨x,c,rfl⟩:=adM.1 b;exact (h x c).one
theorem fJ.read {m:Mem}{v:d9}{a:List FR}(h:fJ m v a):bS m 32 a.length v=some (cellsOf a).flatten:=by
 rcases h with⟨rfl,rfl⟩ | ⟨id,h1,h2,h3⟩;rfl;have d:V4 m id 0 (Nat.mul a.length 32)=some (cellsOf a).flatten:=by
  rcases h3 with rfl | ⟨c,rows,h4,h5,h6⟩;rfl;cases hn:a.length with
  | zero=>obtain rfl:=acS.1 hn;rfl
  | succ k=>
   have e:Nat.mul (k+1) 32=31+k*32+1:=by show (k+1)*32=_;omega
   rw [e];show aO (m.get id) (λrs g rows=>J8 rs g rows (31+k*32+1) 0)=_;rw [h4,cu];have:=jP (rs:=32) (n:=c) (rows:=rows) (l:=cellsOf a) (rD a) (λi f=>by
    have b:i<a.length:=(by simpa [cellsOf] using f);rw [h6 i b];simp [cellsOf]) (by simpa [cellsOf] using h5) a.length 0 (by simp [cellsOf])
   rw [adD,adx,hn,show (k+1)*32=31+k*32+1 from by omega] at this;exact this
 rcases h1 with⟨c,rfl⟩ | rfl<;>exact d
def Own (m0 m:Mem)(v:d9)(l:List FR):Prop:=Ext m0 m∧
 ((v=nS∧l=[])∨(∃id,v=.slice id 0 0 0∧l=[]∧m0.nx<=id∧id<m.nx)∨∃id,m0.nx<=id∧v=.sliceU id 0 l.length 32∧Ar m id l)
theorem Own.fs {g m:Mem}{v:d9}{l:List FR}(h:Own g m v l):fJ m v l:=by obtain⟨_,⟨rfl,rfl⟩ | ⟨id,rfl,rfl,_,a⟩ | ⟨id,_,rfl,a⟩⟩:=h;exact .inl ⟨rfl,rfl⟩;exact .inr ⟨id,.inl ⟨0,rfl⟩,a,.inl rfl⟩;obtain⟨p,o,c,t,j,b,d,k,n,e⟩:=a.fa;refine .inr ⟨id,.inr rfl,a.lt,.inr ⟨c,t,b,by simpa using d,λi f=>?_⟩⟩;rw [e i (by simpa using f)];simp
theorem Own.nil {a m:Mem}(h:Ext a m):Own a m nS []:=⟨h,.inl ⟨rfl,rfl⟩⟩
theorem Own.ext {c m b:Mem}{v:d9}{l:List FR}(h:Own c m v l)(e:Ext m b):Own c b v l:=by obtain⟨d,a⟩:=h;refine⟨d.trans e,?_⟩;rcases a with a | ⟨id,h3,h4,h5,h6⟩ | ⟨id,h3,h4,h5⟩;exact .inl a;exact .inr (.inl ⟨id,h3,h4,h5,nA h6 e.nx⟩);exact .inr (.inr ⟨id,h3,h4,h5.ext e⟩)
theorem NS {n:Nat}(h:n<=200):big n 304 32=true:=by show bi (Nat.ble ((2*n+2048)*304) 281474976710656) true false=true;rw [show Nat.ble ((2*n+2048)*304) 281474976710656=true from wu (by omega)];rfl
theorem alx {m:Mem}(a:m.Ok)(c:m.lim<=m.nx){l:List FR}(b:∀r,r∈l->r.Good)(hb:l.length<=200):Ar (m.new (.cells 32 l.length (T.ofList (cellsOf l)))) m.nx l:=by have:=Nj a (rs:=32) (by omega) (rD l);rw [show (cellsOf l).length=l.length from by simp [cellsOf]] at this;exact⟨Mem.Ok.new a _,this,by simp,by simpa using c,b,hb⟩
theorem Jv {m:Mem}(l:List FR):grown m 32 l.length (cellsOf l).flatten=some [⟨.sliceU m.nx 0 l.length 32,m.new (.cells 32 l.length (T.ofList (cellsOf l)))⟩]:=by
 have:=Bc (m:=m) (rD l)
 rwa [show (cellsOf l).length=l.length from by simp [cellsOf]] at this
theorem QO (a b:List FR):(cellsOf (a++b)).flatten=(cellsOf a).flatten++(cellsOf b).flatten:=by simp [cellsOf]
structure Kp (m m':Mem):Prop where
 nx:m.nx<=m'.nx
 old:∀i,i<m.nx->(∀c t,m.get i≠some (.cells 32 c t))->m'.get i=m.get i
theorem Kp.of {m m':Mem}(h:Ext m m'):Kp m m':=⟨h.nx,λi a _=>h.old i a⟩
theorem Kp.trans {a b c:Mem}(h:Kp a b)(k:Kp b c):Kp a c:=⟨zu h.nx k.nx,λi d f=>by
 have e:=h.old i d f;exact (k.old i (nA d h.nx) (λx t=>by rw [e];exact f x t)).trans e⟩
theorem Kp.new {m a:Mem}(h:Kp m a)(c:a.Ok)(b:U7):Kp m (a.new b):=h.trans (Kp.of ((Ext.refl c).new b))
theorem nG {m b:Mem}(h:Kp m b){v:d9}{xs:List Int}(a:Z8 m v xs):Z8 b v xs:=by rcases a with a | ⟨id,h1,h2,h3⟩;exact .inl a;refine .inr ⟨id,h1,nA h2 h.nx,?_⟩;rcases h3 with h3 | ⟨n,rows,h4,h5,h6⟩;exact .inl h3;exact .inr ⟨n,rows,(h.old id.1 h2 (λc t=>by rw [h4];intro e;cases e)).trans h4,h5,h6⟩
theorem V3.keep {m c:Mem}(h:Kp m c){r:FR}(k:V3 m r):V3 c r:=⟨nG h k.a,nG h k.b,nG h k.l,k.ga,k.gb,k.nb⟩
theorem Xi {j m:Mem}{v:d9}{l a:List FR}(A:j.lim<=j.nx)(h:Own j m v l)(H:∀r,r∈a->r.Good)(hb:l.length+a.length<=200):
  ∃v' m',oz m 32 304 a.length (cellsOf a).flatten v=some [⟨v',m'⟩]∧Own j m' v' (l++a)∧Kp m m':=by
 obtain⟨d,h⟩:=h;have J:m.lim<=m.nx:=by rw [d.lim];exact zu A d.nx
 have L:∀{M:Mem},Ext j M->j.nx<=M.nx->∀(k:List FR),(∀r,r∈k->r.Good)->k.length<=200->Own j (M.new (.cells 32 k.length (T.ofList (cellsOf k)))) (.sliceU M.nx 0 k.length 32) k:=λ{M} hM I k q hkb=>⟨hM.new _,.inr (.inr ⟨M.nx,I,rfl,alx hM.ok (by rw [hM.lim];exact zu A I) q hkb⟩)⟩;by_cases hf:a=[];subst hf;refine⟨v,m,?_,⟨d,by simpa using h⟩,Kp.of (Ext.refl d.ok)⟩;rcases h with⟨rfl,rfl⟩ | ⟨id,rfl,rfl,_,_⟩ | ⟨id,_,rfl,_⟩<;>rfl
 obtain⟨k,q⟩:∃k,a.length=k+1:=⟨a.length-1,by have:=acC.2 hf;omega⟩;rcases h with⟨rfl,rfl⟩ | ⟨id,rfl,rfl,_,_⟩ | ⟨id,hid,rfl,ha⟩;refine⟨_,_,?_,L d d.nx a H (by simpa using hb),Kp.of ((Ext.refl d.ok).new _)⟩;rw [← Jv a];show Ml m 32 304 a.length _=_;rw [q];show bi (big (k+1) 304 32) _ none=_;rw [NS (by simp at hb;omega)];rfl;refine⟨_,_,?_,L d d.nx a H (by simpa using hb),Kp.of ((Ext.refl d.ok).new _)⟩;rw [← Jv a];show ji m 32 304 a.length _ id 0 0 0=_;unfold ji;rw [show Nat.add 0 a.length=a.length from S9 _,show Nat.ble a.length 0=false from by rw [q];rfl,aJ,NS (by simp at hb;omega),Z6];rfl;have u:∀r,r∈l++a->r.Good:=λr K=>by rcases O4.1 K with h | h;exact ha.good r h;exact H r h
 have P:Ext j (m.set id .dead):=d.set ha.lt hid _;have w:∀b,Kp m ((m.set id .dead).new b):=λb=>Kp.new ⟨by simp,λi Q I=>by
  rw [Mem.U6 ha.ok ha.lt,if_neg];rintro rfl;obtain⟨_,_,c,t,E,F,_⟩:=ha.fa;exact I c t F⟩ (Mem.Ok.set ha.ok ha.lt _) b
 have z:(l++a).length=l.length+a.length:=by simp
 obtain⟨p,S,c,t,E,F,N,W,G,O⟩:=ha.fa;have s:l.length<=c:=by simpa using N
 have y:Nat.ble m.lim id=true:=wu ha.lim;have R:=QN H;by_cases h1k:a.length=1;obtain⟨x,rfl⟩:∃x,a=[x]:=azL.1 h1k;have D:(cellsOf [x]).flatten=x.f.cells:=by simp [cellsOf]
 refine⟨.sliceU m.nx 0 (l.length+1) 32,(m.set id .dead).new (.cells 32 (l.length+1) (t.put l.length x.f.cells)),?_,⟨P.new _,.inr (.inr ⟨m.nx,d.nx,by simp,?_⟩)⟩,w _⟩;show pQ m 32 304 1 _ id 0 l.length 32=_;show bi (Nat.beq 32 32) (bi (big (l.length+1) 304 32) (bi (Nat.ble m.lim id) (bi (I6 (cellsOf [x]).flatten) (wG (m.get id) _ _) none) none) none) none=_;rw [NS (by simp at hb;omega),y,R,F];show bi (bi (Nat.beq 32 32) (bi (Nat.beq 0 0) (bi (Nat.ble l.length c) (bi (Nat.beq 1 1) (Nat.beq (len' (cellsOf [x]).flatten) 32) false) false) false) false) _ _=_;rw [show Nat.ble l.length c=true from wu s,D,K4,G5.len];rfl;refine⟨Mem.Ok.new (Mem.Ok.set ha.ok ha.lt _) _,⟨by omega,λr K=>rD _ r K,l.length+1,t.put l.length x.f.cells,?_⟩,by simp,by simpa using J,u,by simp at hb ⊢;omega⟩;have B:∃c'',l.length+1<=c''∧T.Ok (t.put l.length x.f.cells) c'':=by
  by_cases hc:l.length<E;exact⟨E,hc,T.Ok.put G _ _ hc⟩;obtain rfl:E=l.length:=by omega
  exact⟨l.length+1,aA _,T.Ok.push G _⟩
 obtain⟨c'',U,V⟩:=B;refine⟨c'',by rw [Mem.Q5 (Mem.Ok.set ha.ok ha.lt _)];simp,by simp,U,V,λi Q=>?_⟩;by_cases hil:i=l.length;subst hil;rw [T.Z7 G _ _ (by omega)];simp;have g:i<l.length:=by simp at Q;omega
 rw [T.aU G _ _ _ (by omega) (akd hil),O i (by simpa using g)];simp [adP,g];refine⟨_,_,?_,L P (by simpa using d.nx) (l++a) u (by simpa using hb),w _⟩;have C:=jP (rs:=32) (n:=c) (rows:=t) (l:=l.map λr=>r.f.cells) S O N l.length 0 (by simp);rw [adD,adx] at C;rw [← Jv (l++a),z,QO];show pQ m 32 304 a.length _ id 0 l.length 32=_;unfold pQ;rw [q];show bi (Nat.beq 32 32) (bi (big (l.length+(k+1)) 304 32) (bi (Nat.ble m.lim id) (bi (I6 (cellsOf a).flatten) (wG (m.get id) _ _) none) none) none) none=_;rw [NS (by omega),y,R,F];show bi (bi (Nat.beq 32 32) (bi (Nat.beq 0 0) (bi (Nat.ble l.length c) (bi (Nat.beq (k+1) 1) (Nat.beq (len' (cellsOf a).flatten) 32) false) false) false) false) _ (ob (J8 32 c t (Nat.mul l.length 32) 0) λo=>grown (m.set id .dead) 32 (Nat.add l.length (k+1)) (bU o (cellsOf a).flatten))=_;rw [show Nat.ble l.length c=true from wu s,show Nat.beq (k+1) 1=false from adj.2 λe=>h1k (by rw [q];exact rW e)];rw [show Nat.mul l.length 32=l.length*32 from rfl,show Nat.add l.length (k+1)=l.length+(k+1) from rfl];show ob (J8 32 c t (l.length*32) 0) (λo=>grown (m.set id .dead) 32 (l.length+(k+1)) (bU o (cellsOf a).flatten))=_;rw [C,I7,U9];rfl
theorem QS {b m:Mem}{v x:d9}{l a:List FR}(c:b.lim<=b.nx)(h:Own b m v l)(e:fJ m x a)(j:∀r,r∈a->r.Good)(hb:l.length+a.length<=200):
  ∃v' m',(∀(s y:OF) (cf:H8) (ls:List d9) (env:T d9),s ls env=v->y ls env=x->sQ 32 304 s y cf ls env m=some [⟨v',m'⟩])∧Own b m' v' (l++a)∧Kp m m':=by
 obtain⟨v',m',f,g,i⟩:=Xi c h j hb;refine⟨v',m',λs y cf ls env k o=>?_,g,i⟩;show ob (AM.lenOf (y ls env)) (λn=>ob (bS m 32 n (y ls env)) λd=>oz m 32 304 n d (s ls env))=_;rw [o,k,e.lenOf,I7,e.read,I7,f]
theorem ag5 {m:Mem}{v:d9}{fs:List FR}(f:m.Ok)(h:m.lim<=m.nx)(k:fJ m v fs)(p:∀r,r∈fs->r.Good)(hb:fs.length<=200)(n l:Nat):
  ∃v' m',l8 KW l (n+1) (.func 103) [v] m=some [⟨v',m'⟩]∧Own m m' v' fs:=by
 rw [enter (sf:=f103) rfl rfl];have j:∀z ls env nid,U4 32 0 z [] ls env nid=some (.slice nid 0 0 0,some (.cells 32 0 (T.ofList []))):=λ_ _ _ _=>rfl;have E:=C8 f [.cells 32 0 (T.ofList [])];have o:Own m (ext m [.cells 32 0 (T.ofList [])]) (.slice m.nx 0 0 0) []:=⟨E,.inr (.inl ⟨m.nx,rfl,rfl,aA _,by simp⟩)⟩;obtain⟨v',m',i,g,_⟩:=QS h o (k.ext E) p (by simpa using hb);rw [adl] at g;rcases k with⟨rfl,rfl⟩ | ⟨id,⟨c,rfl⟩ | rfl,h2⟩;refine⟨nS,m,?_,Own.nil (Ext.refl f)⟩;have e:bR nS nS=some true:=rfl;simp [f103,eO f h,D6,e];refine⟨v',m',?_,g⟩;have e:∀a b c d,bR (.slice a b c d) nS=some false:=λ_ _ _ _=>rfl;simp [f103,eO f h,D6,e,j,i,g.fs.dD];refine⟨v',m',?_,g⟩;have e:∀a b c d,bR (.sliceU a b c d) nS=some false:=λ_ _ _ _=>rfl;simp [f103,eO f h,D6,e,j,i,g.fs.dD]
theorem fJ.nil {m:Mem}{v:d9}(h:fJ m v []):ze v (some (d9.int .i64 0)) (λ_ _ n _=>some (iV n)) (λ_ _ n _=>some (iV n))=some i0:=h.len
theorem ag6 {o m:Mem}{v:d9}{l:List FR}(h:Own o m v l)(n e:Nat)(b:1000<=e):
  ∃m' l',l8 KW e (n+207) (.func 104) [v,(.func (.func 105) [] [])] m=some [⟨.tuple [],m'⟩]∧Own o m' v l'∧Mv 0 l.length l l'∧l'.length=l.length∧oZ l' 0 l.length:=by
 rw [enter (sf:=f104) rfl rfl];have a:=h.fs.len;have d:=λ(hl:l=[])=>acu m (n+204) e b v (.func (.func 105) [] []);by_cases hl:l=[];refine⟨m,l,?_,h,Mv.refl _ _ _,rfl,by rw [hl];exact λi j _ _ h=>by simp at h⟩;subst hl;have g:=d rfl;simp at a g;simp [f104,a,g];obtain⟨q,⟨rfl,k⟩ | ⟨id,rfl,k,_,_⟩ | ⟨id,c,rfl,p⟩⟩:=h;exact absurd k hl;exact absurd k hl;obtain⟨m',l',g,f,r,s⟩:=ag4 p n e b (acC.2 hl);refine⟨m',l',?_,⟨q.om f.ext c,.inr (.inr ⟨id,c,by rw [f.len],f.ar⟩)⟩,r,f.len,s⟩;simp [f104,g]
theorem Ui {x y:FR}(a:x.Good)(b:y.Good):x.Js y=true↔x.key=y.key:=by have c:-9223372036854775808<=x.f.no∧x.f.no<9223372036854775808:=a.no;have d:-9223372036854775808<=y.f.no∧y.f.no<9223372036854775808:=b.no;simp only [FR.Js,D5,decide_eq_true_eq,FR.key];omega
theorem Jw {x y:FR}(a:x.Good)(b:y.Good):x.Js y=decide (x.key=y.key):=by rw [adE,Ui a b];simp
structure Dp (l0:List FR)(p:Nat)(l:List FR)(k:Nat):Prop where
 st:∀i j,i<j->j<k->bD l i<bD l j
 pos:0<k
 top:bD l (k-1)=bD l0 (p-1)
 sub:∀i,i<k->∃j,j<p∧l[i]?=l0[j]?
 cov:∀j,j<p->∃i,i<k∧bD l i=bD l0 j
theorem Dp.skip {a l:List FR}{p k:Nat}(h:Dp a p l k)(hp:0<p)(b:bD a p=bD a (p-1)):Dp a (p+1) l k:=
 ⟨h.st,h.pos,by rw [h.top,show p+1-1=p from by omega,b],λi c=>by
  obtain⟨j,f,d⟩:=h.sub i c;exact⟨j,by omega,d⟩,λj e=>by
  by_cases hjp:j<p;exact h.cov j hjp;obtain rfl:j=p:=by omega
  rw [b];exact h.cov _ (by omega)⟩
theorem Dp.take {a l:List FR}{p k:Nat}(h:Dp a p l k)(hp:0<p)(n:k<l.length)(e:p<a.length)(q:bD a (p-1)<bD a p):Dp a (p+1) (l.set k a[p]) (k+1):=by
 have o:=h.pos;have d:(l.set k a[p])[k]?=a[p]?:=by rw [akX,if_pos rfl,if_pos n];simp [e]
 have c:∀i,i<k->(l.set k a[p])[i]?=l[i]?:=λi g=>by rw [akX,if_neg (by omega)]
 have f:∀i,i<k->bD l i<=bD l (k-1):=λi g=>by by_cases h':i=k-1;rw [h'];exact aCJ _;exact aA7 (h.st i (k-1) (by omega) (by omega))
 refine⟨λi j b m=>?_,by omega,?_,λi g=>?_,λj m=>?_⟩;by_cases hjk:j=k;subst hjk;rw [iX (c i b),iX d];have:=f i b;rw [h.top] at this;omega;rw [iX (c i (by omega)),iX (c j (by omega))];exact h.st i j b (by omega);rw [show k+1-1=k from by omega,show p+1-1=p from by omega];exact iX d;by_cases hik:i=k;subst hik;exact⟨p,by omega,d⟩;obtain⟨j,u,t⟩:=h.sub i (by omega);exact⟨j,by omega,(c i (by omega)).trans t⟩;by_cases hjp:j=p;subst hjp;exact⟨k,by omega,iX d⟩;obtain⟨i,r,s⟩:=h.cov j (by omega);exact⟨i,by omega,(iX (c i r)).trans s⟩
theorem Uj (n0 O:Nat)(a0:1000<=O)(id n nn o:Nat)(hn:n<=200)(T:nn+o=n)(b:List FR)(a1:b.length=n)(j:oZ b 0 n)(c1 y3 y5 K:d9):
  ∀(s t:Nat),t+s=nn->0<t->∀(N:Nat),s<N->∀(M:Mem) (l:List FR) (k:Nat),Ar M id l->l.length=n->k<o+t->(∀x,o+t<=x+1->l[x]?=b[x]?)->Dp b (o+t) l k->∀(y8 y9:d9),
   ∃k' z9 M' l',T9 (λenv m k=>Bf (l8 KW O (n0+4)) O none env m k) N (zQ (.sliceU id 0 n 32) c1 (iN k) y3 (.func (.func 108) [] []) y5 (iN t) (.sliceU id (o*32) nn 32) y8 y9 K) M []=some [⟨.exit 2,(zQ (.sliceU id 0 n 32) c1 (iN k') y3 (.func (.func 108) [] []) y5 (iN nn) (.sliceU id (o*32) nn 32) fV z9 K),M',[],none⟩]∧mh id M l M' l'∧k'<n∧Dp b n l' k':=by
 intro s;induction s with
 | zero=>
  intro t ht h0 N hN M l k h S hk v z y8 y9;obtain⟨N,rfl⟩:∃M,N=M+1:=⟨N-1,by omega⟩;obtain rfl:t=nn:=by omega
  refine⟨k,y9,M,l,?_,mh.refl h,by omega,by rw [← T,an6];exact z⟩;rw [o9];simp [Bf]
 | succ s ih=>
  intro t ht h0 N hN M l k h S hk v z y8 y9;obtain⟨N,rfl⟩:∃M,N=M+1:=⟨N-1,by omega⟩;obtain⟨p,U⟩:∃p,p=o+t:=⟨_,rfl⟩;obtain⟨u,hu⟩:∃u,u+1=t:=⟨t-1,by omega⟩;obtain⟨q,hq⟩:∃q,q+1=p:=⟨p-1,by omega⟩;rw [← U] at z hk v;have a:p<l.length:=by omega
  have i:q<l.length:=by omega
  have C:p<b.length:=by omega
  have I:q<b.length:=by omega
  have L:l[p]=b[p]:=by have:=v p (by omega);simpa [a,C] using this
  have w:l[q]=b[q]:=by have:=v q (by omega);simpa [i,I] using this
  obtain⟨M1,g1,E1⟩:=VD h.ok h.lm n0 O (h.get a) (h.get i);have R:=h.ext E1;have Y:=h.fa.ld a;have Z:=h.fa.ld i;have r3:=R.fa.ld a;have z1:=(h.get a).rf;have z2:=(h.get i).rf;rw [show p*32=o*32+t*32 from by omega] at Y r3;rw [show q*32=o*32+u*32 from by omega] at Z;have d:=Jw (h.get a) (h.get i);rw [L,w] at d;rw [← jJ C,← jJ I] at d;have i1:∀{β:Type} (f:Nat->Option β),idx nn (iV (t:Int)) f=f t:=λf=>V6 _ _ f (by omega);have i2:∀{β:Type} (f:Nat->Option β),idx nn (iV (u:Int)) f=f u:=λf=>V6 _ _ f (by omega);have e2:=rC hu (by omega);obtain⟨P,D⟩:∃P,P=t+1:=⟨_,rfl⟩;have e3:=ah D (by omega);have J:t<nn:=by omega
  have A:=h.get a;cases hb:decide (bD b p=bD b q) with
  | true=>
   rw [hb] at d;obtain⟨k',z9,M',l',g,E,B,e⟩:=ih P (by omega) (by omega) N (by omega) M1 l k R S (by omega) (λx W=>v x (by omega)) (by
    rw [D,← ada,← U];exact z.skip (by omega) (by rw [show p-1=q from by omega];simpa using hb)) tV fV
   refine⟨k',z9,M',l',?_,(mh.of h E1).trans E,B,e⟩;rw [L,w] at *;generalize b[p]=x at *;generalize b[q]=y at *;clear ih z e v E hb j;rw [o9,← g];simp [Bf,J,e2,e3,i1,i2,Y,Z,z1,z2,g1,d]
  | false=>
   rw [hb] at d;have H:k<l.length:=by omega
   obtain⟨M2,s1,Q,x2⟩:=R.store H A;have F:mh id M l M2 (l.set k l[p]):=(mh.of h E1).trans ⟨x2,Q,by simp,λr V=>by
    rcases ahv V with V | rfl;exact V;exact M7 a⟩
   obtain⟨X,G⟩:∃X,X=k+1:=⟨_,rfl⟩;have e4:=ah G (by omega);obtain⟨k',z9,M',l',g,E,B,e⟩:=ih P (by omega) (by omega) N (by omega) M2 (l.set k l[p]) X Q (by simpa using S) (by omega) (λx W=>by
    rw [akX,if_neg (by omega)];exact v x (by omega)) (by
    rw [D,← ada,← U,G,L];have c:=j q p (by omega) (by omega) (by omega);have c':¬ bD b p=bD b q:=(by simpa using hb);exact z.take (by omega) H C (by rw [show p-1=q from by omega];omega)) tV tV
   refine⟨k',z9,M',l',?_,F.trans E,B,e⟩;have i3:∀{β:Type} (f:Nat->Option β),idx n (iV (k:Int)) f=f k:=λf=>V6 _ _ f (by omega);rw [L,w] at *;generalize b[p]=x at *;generalize b[q]=y at *;clear ih z e v E hb j F Q x2;rw [o9,← g];simp [Bf,J,e2,e3,e4,i1,i2,i3,Y,Z,r3,z1,z2,g1,d,s1,G5.len]
theorem QT {id n k:Nat}(b:k<n)(x a:OF)(ls:List d9)(env:T d9)(nid:Nat)(d:x ls env=.sliceU id 0 n 32)(c:a ls env=iV (k:Int)):Rn 32 x (some a) none ls env nid=some (.sliceU id (k*32) (n-k) 32,none):=by show iR (a ls env) (λl=>J5 nid 32 (x ls env) l none)=_;rw [c,d,nu,jN];show bi (Nat.ble k n) (bi (Nat.ble n n) (bi (Nat.beq 32 32) (bi (Nat.blt k n) (some (d9.sliceU id (Nat.add 0 (Nat.mul k 32)) (Nat.sub n k) 32,(none:Option U7))) _) none) none) none=_;rw [show Nat.ble k n=true from wu (agI b),show Nat.ble n n=true from wu (aA _),show Nat.blt k n=true from O6.mpr b,show Nat.add 0 (Nat.mul k 32)=k*32 from S9 _];rfl
theorem aly {id n k:Nat}(c:k<=n)(d:0<n)(x a:OF)(ls:List d9)(env:T d9)(nid:Nat)(e:x ls env=.sliceU id 0 n 32)(b:a ls env=iV (k:Int)):Rn 32 x none (some a) ls env nid=some (.sliceU id 0 k 32,none):=by show iR (a ls env) (λh=>J5 nid 32 (x ls env) 0 (some h))=_;rw [b,e,nu,jN];show bi (Nat.ble 0 k) (bi (Nat.ble k n) (bi (Nat.beq 32 32) (bi (Nat.blt 0 n) (some (d9.sliceU id (Nat.add 0 (Nat.mul 0 32)) (Nat.sub k 0) 32,(none:Option U7))) _) none) none) none=_;rw [show Nat.ble 0 k=true from wu (adC _),show Nat.ble k n=true from wu c,show Nat.blt 0 n=true from O6.mpr d];rfl
theorem Xj (z:List d9)(x:OF)(cf:H8)(ls:List d9)(env:T d9)(m:Mem):pR z x cf ls env m=ze (x ls env) (some [⟨.tuple [],m⟩]) (λid off len _=>eY m id off (P7 z len) λm'=>some [⟨.tuple [],m'⟩])
  (λid off len _=>eY m id off (P7 z len) λm'=>some [⟨.tuple [],m'⟩]):=id rfl
structure Dd (l l':List FR):Prop where
 st:∀i j,i<j->j<l'.length->bD l' i<bD l' j
 sub:∀r,r∈l'->r∈l
 cov:∀r,r∈l->∃s,s∈l'∧s.key=r.key
theorem Dd.of {d l:List FR}{k:Nat}(u:l.length=d.length)(t:k<=l.length)(h:Dp d d.length l k):Dd d (l.take k):=by
 have e:∀i,i<k->(l.take k)[i]?=l[i]?:=λi a=>by rw [adT,if_pos a]
 refine⟨λi j g f=>?_,λr m=>?_,λr m=>?_⟩;have c:j<k:=by simp at f;omega
 rw [iX (e i (by omega)),iX (e j c)];exact h.st i j g c;obtain⟨i,a,rfl⟩:=ajk m;have b:i<k:=by simp at a;omega
 obtain⟨j,q,s⟩:=h.sub i b;have n:(l.take k)[i]?=d[j]?:=(e i b).trans s;rw [aP a,aP q] at n;rw [LA n];exact M7 _;obtain⟨j,f,rfl⟩:=ajk m;obtain⟨i,o,p⟩:=h.cov j f;have a:i<(l.take k).length:=by simp;omega
 refine⟨(l.take k)[i],M7 a,?_⟩;rw [← jJ a,iX (e i o),p,jJ f]
theorem Dd.self {l:List FR}(h:∀i j,i<j->j<l.length->bD l i<bD l j):Dd l l:=⟨h,λ_ h=>h,λr a=>⟨r,a,rfl⟩⟩
theorem Ar.clear {m:Mem}{id:Nat}{l:List FR}(h:Ar m id l){k:Nat}(d:k<=l.length)(z:List d9)(i:z.length=32)(e:I6 z=true):
  ∃m',(∀{β:Type} (f:Mem->Option β),eY m id (k*32) (P7 z (l.length-k)) f=f m')∧Ar m' id (l.take k)∧bP id m m':=by
 obtain⟨m',c,b,a⟩:=Ey.clear (vs:=P7 z (l.length-k)) h.fa h.ok h.lt h.lim (k:=k) (by simpa using d) (by
  rw [FK,i,adN,← adX];exact adb _ (by omega)) (FL e _)
 rw [← amO] at b;exact⟨m',c,⟨a.ok,b,nA h.lt a.nx,by rw [a.lim];exact h.lim,λr g=>h.good r (adv g),by simp;have:=h.big;omega⟩,a⟩
theorem Uk (Q v:Nat)(G:1000<=v)(id n:Nat)(hn:n<=200)(l:List FR)(D:l.length=n)(d:oZ l 0 n)(E:d9):
  ∀(s k:Nat),k+s=n->0<k->∀(N:Nat),s<N->∀(M:Mem),Ar M id l->(∀i j,i<j->j<k->bD l i<bD l j)->∀(y3 y5:d9),
   ∃x k' z3 z5 z6 z7 z8 z9 v10 M',T9 (λenv m k=>EB (l8 KW v (Q+4)) v none env m k) N (zQ (.sliceU id 0 n 32) E (iN k) y3 (.func (.func 108) [] []) y5 uV uV uV uV nS) M []=some [⟨x,(zQ (.sliceU id 0 n 32) E (iN k') z3 (.func (.func 108) [] []) z5 z6 z7 z8 z9 v10),M',[],none⟩]∧
    ((x=.exit 0∧Ext M M'∧(∀i j,i<j->j<n->bD l i<bD l j))∨(x=.ret∧∃l',v10=.sliceU id 0 l'.length 32∧bP id M M'∧Ar M' id l'∧Dd l l')):=by
 intro s;induction s with
 | zero=>
  intro k hk V N hN M h b y3 y5;obtain⟨N,rfl⟩:∃M,N=M+1:=⟨N-1,by omega⟩;obtain rfl:k=n:=by omega
  refine⟨.exit 0,k,fV,y5,uV,uV,uV,uV,nS,M,?_,.inl ⟨rfl,Ext.refl h.ok,b⟩⟩;rw [o9];simp [EB]
 | succ s ih=>
  intro k hk V N hN M h b y3 y5;obtain⟨N,rfl⟩:∃M,N=M+1:=⟨N-1,by omega⟩;obtain⟨q,hq⟩:∃q,q+1=k:=⟨k-1,by omega⟩;have e:k<l.length:=by omega
  have p:q<l.length:=by omega
  obtain⟨M1,T,E1⟩:=VD h.ok h.lm Q v (h.get e) (h.get p);have W:=h.ext E1;have r1:=h.fa.ld e;have r2:=h.fa.ld p;have z1:=(h.get e).rf;have z2:=(h.get p).rf;have o:=Jw (h.get e) (h.get p);rw [← jJ e,← jJ p] at o;have Y:∀{β:Type} (f:Nat->Option β),idx n (iV (k:Int)) f=f k:=λf=>V6 _ _ f (by omega);have Z:∀{β:Type} (f:Nat->Option β),idx n (iV (q:Int)) f=f q:=λf=>V6 _ _ f (by omega);have S:=rC hq (by omega);obtain⟨O,I⟩:∃O,O=k+1:=⟨_,rfl⟩;have e3:=ah I (by omega);have t:k<n:=by omega
  cases hb:decide (bD l k=bD l q) with
  | false=>
   rw [hb] at o;have B:bD l q<bD l k:=by have c:=d q k (by omega) (by omega) (by omega);have c':¬ bD l k=bD l q:=(by simpa using hb);omega
   obtain⟨x,k',z3,z5,z6,z7,z8,z9,v10,M',g,r⟩:=ih O (by omega) (by omega) N (by omega) M1 W (λi j H hj=>by
    by_cases hjk:j=k;subst hjk;by_cases hiq:i=q;rw [hiq];exact B;exact Int.lt_trans (b i q (by omega) (by omega)) B;exact b i j H (by omega)) tV fV
   refine⟨x,k',z3,z5,z6,z7,z8,z9,v10,M',?_,?_⟩;generalize l[k]=x at *;generalize l[q]=y at *;clear ih r b d hb;rw [o9,← g];simp [EB,t,S,e3,Y,Z,r1,r2,z1,z2,T,o];rcases r with⟨h1,h2,h3⟩ | ⟨h1,l',h2,h3,h4⟩;exact .inl ⟨h1,E1.trans h2,h3⟩;exact .inr ⟨h1,l',h2,E1.toB.trans h3,h4⟩
  | true=>
   rw [hb] at o;have F:bD l k=bD l q:=by simpa using hb
   obtain⟨u,L⟩:∃u,u+k=n:=⟨n-k,by omega⟩;obtain⟨k',z9,M2,P,U,C,A,X⟩:=Uj Q v G id n u k hn L l D d E tV tV nS (u-1) 1 (by omega) (by omega) v (by omega) M1 l k W D (by omega) (λ_ _=>rfl)
    ⟨b,V,by rw [show k-1=q from by omega,show k+1-1=k from by omega,F],λi hi=>⟨i,by omega,rfl⟩,λj hj=>by
     by_cases hjk:j<k;exact⟨j,hjk,rfl⟩;obtain rfl:j=k:=(by omega);exact⟨q,by omega,F.symm⟩⟩ uV uV
   have J:=C.len.trans D;have w:∀(z:List d9),z.length=32->I6 z=true->∃m',(∀{β:Type} (f:Mem->Option β),eY M2 id (k'*32) (P7 z (n-k')) f=f m')∧Ar m' id (P.take k')∧bP id M2 m':=λz hz ho=>by
    have:=C.ar.clear (k:=k') (by omega) z hz ho
    rwa [J] at this
   have sF:=λ(x a:OF) ls env nid r ha=>QT (id:=id) t x a ls env nid r ha;have R:=λ(x a:OF) ls env nid r ha=>QT (id:=id) A x a ls env nid r ha;have sT:=λ(x a:OF) ls env nid r ha=>aly (id:=id) (agI A) (by omega:0<n) x a ls env nid r ha;obtain⟨M3,w1,w2,w3⟩:=w [i0,i0,i0,i0,i0,i0,i0,i0,i0,i0,i0,i0,i0,i0,i0,i0,i0,i0,i0,i0,i0,i0,nS,nS,i0,i0,i0,i0,i0,nS,i0,i0] rfl rfl;have K:(P.take k').length=k':=by simp;omega
   refine⟨.ret,k',tV,tV,(iN u),(.sliceU id (k*32) u 32),fV,z9,.sliceU id 0 k' 32,M3,?_,.inr ⟨rfl,P.take k',by rw [K],(E1.toB.trans C.ext).trans w3,w2,Dd.of (by omega) (by omega) (by rw [D];exact X)⟩⟩;rw [show n-k=u from by omega] at sF;dsimp only [iN] at U;rw [show ((1:Nat):Int)=1 from rfl] at U;generalize l[k]=x at *;generalize l[q]=y at *;clear ih b d hb X C w w2 w3 F;rw [o9];simp [EB,t,S,Y,Z,r1,r2,z1,z2,T,o,sF,R,sT,U,Xj,w1]
theorem ag7 {p m:Mem}{v:d9}{l:List FR}(h:Own p m v l)(hs:oZ l 0 l.length)(q d:Nat)(k:1000<=d):
  ∃v' m' l',l8 KW d (q+5) (.func 107) [v,(.func (.func 108) [] [])] m=some [⟨v',m'⟩]∧Own p m' v' l'∧Dd l l':=by
 rw [enter (sf:=f107) rfl rfl];have c:=h.fs.len;by_cases h2:l.length<2;refine⟨v,m,l,?_,h,Dd.self λi j n r=>by omega⟩;have a:(l.length:Int)<2:=by omega
 simp [f107,c,a];have a:¬ (l.length:Int)<2:=by omega
 obtain⟨o,⟨rfl,f⟩ | ⟨id,rfl,f,_,_⟩ | ⟨id,b,rfl,e⟩⟩:=h;subst f;simp at h2;subst f;simp at h2;obtain⟨x,u,w,y,z,A,B,C,t,M',g,s⟩:=Uk q d k id l.length e.big l rfl hs fV (l.length-1) 1 (by omega) (by omega) d (by have:=e.big;omega) m e (λi j n r=>by omega) uV uV;dsimp only [iN] at g;rw [show ((1:Nat):Int)=1 from rfl] at g;rcases s with⟨rfl,hE,hst⟩ | ⟨rfl,l',rfl,hE,hA,hd⟩;refine⟨.sliceU id 0 l.length 32,M',l,?_,⟨o.trans hE,.inr (.inr ⟨id,b,rfl,e.ext hE⟩)⟩,Dd.self hst⟩;simp [f107,a,g];refine⟨.sliceU id 0 l'.length 32,M',l',?_,⟨o.om hE b,.inr (.inr ⟨id,b,rfl,hA⟩)⟩,hd⟩;simp [f107,a,g]
theorem Dd.mv {l l1 l2:List FR}(o:l1.length=l.length)(e:Mv 0 l.length l l1)(h:Dd l1 l2):Dd l l2:=by
 have d:∀r,r∈l1->r∈l:=λr a=>by obtain⟨i,b,rfl⟩:=ajk a;obtain⟨j,_,n,f⟩:=e.inn i (adC _) (by omega);rw [aP b,aP n] at f;rw [LA f];exact M7 _
 have c:∀r,r∈l->r∈l1:=λr a=>by
  obtain⟨i,b,rfl⟩:=ajk a;obtain⟨k,_,p,g⟩:=e.bak i (adC _) b;have m:k<l1.length:=by omega
  rw [aP b,aP m] at g;rw [← LA g];exact M7 _
 exact⟨h.st,λr a=>d r (h.sub r a),λr a=>h.cov r (c r a)⟩
theorem alz {m:Mem}{v:d9}{d:List FR}(q:m.Ok)(p:m.lim<=m.nx)(s:fJ m v d)(o:∀r,r∈d->r.Good)(hb:d.length<=200)(e a:Nat)(b:1000<=a):
  ∃v' m' l',l8 KW a (e+208) (.func 66) [v] m=some [⟨v',m'⟩]∧Own m m' v' l'∧Dd d l':=by
 obtain⟨B,z,j,h⟩:=ag5 q p s o hb (e+206) a;obtain⟨A,y,k,w,f,c,g⟩:=ag6 h e a b;rw [← c] at g;obtain⟨x,u,t,l,i,n⟩:=ag7 w g (e+202) a b;refine⟨x,u,t,?_,i,n.mv c f⟩;rw [enter (sf:=f66) rfl rfl];simp [f66,j,k,l,h.fs.dD,i.fs.dD]
theorem mV {M:Mem}{id off:Nat}{c:List d9}(b:M.Ok)(a:id<M.nx)(h:M.lim<=id)(g:M.get id=some (l6 c))(d:off<c.length){v:d9}(e:D6 v=true):
  ∃N,(∀{β:Type} (k:Mem->Option β),storeAt M id off [v] k=k N)∧N.get id=some (l6 (c.set off v))∧bP id M N:=by
 refine⟨M.set id (l6 (c.set off v)),λk=>?_,by rw [Mem.U6 b a,if_pos rfl],Mem.Ok.set b a _,by simp,rfl,λj l i=>by rw [Mem.U6 b a,if_neg i]⟩;have f:I6 [v]=true:=by show bi (D6 v) true false=true;rw [e];rfl
 rw [aK h f,g,gV (by simp;omega) d,I7];congr 2;rw [azH,if_pos d];rfl
theorem pz {M:Mem}{id:Nat}{c vs:List d9}(b:M.Ok)(a:id<M.nx)(f:M.lim<=id)(e:M.get id=some (l6 c))(h:c.length=vs.length)(h0:0<vs.length)(d:I6 vs=true):
  ∃N,(∀{β:Type} (k:Mem->Option β),storeAt M id 0 vs k=k N)∧N.get id=some (l6 vs)∧bP id M N:=by
 refine⟨M.set id (l6 vs),λk=>?_,by rw [Mem.U6 b a,if_pos rfl],Mem.Ok.set b a _,by simp,rfl,λj i g=>by rw [Mem.U6 b a,if_neg g]⟩;rw [aK f d,e,gV (by omega) (by omega),I7];congr 2;rw [am1,O5 (by omega)];simp
structure Cp (r r':FR):Prop where
 a:r'.a=r.a
 b:r'.b=r.b
 l:r'.l=r.l
 f:∃va vb vl,r'.f={r.f with A:=va,B:=vb,L:=vl}
theorem vD {M N:Mem}{id:Nat}{c:List d9}(a:c.length=32)(b:M.get id=some (l6 c))(X:bP id M N):Kp M N:=⟨X.nx,λi d f=>by
 by_cases h:i=id;subst h;have e:l6 c=.cells 32 1 (.nd .e c .e):=by show U7.cells (len' c) 1 (.nd .e c .e)=_;rw [K4,a]
 exact absurd (by rw [b,e]) (f 1 (.nd .e c .e));exact X.old i d h⟩
theorem Ul {m:Mem}{r:FR}(t:m.Ok)(s:m.lim<=m.nx)(g:V3 m r)(hs:r.short)(w k:Nat)(a0:1000<=k):
  ∃r' m',l8 KW k (w+2) (.func 98) [.agg r.f.cells] m=some [⟨.agg r'.f.cells,m'⟩]∧Ext m m'∧V3 m' r'∧Cp r r':=by
 obtain⟨y,C,D⟩:=hs;obtain⟨z,K⟩:∃z:List d9,z=[i0,i0,i0,i0,i0,i0,i0,i0,i0,i0,i0,i0,i0,i0,i0,i0,i0,i0,i0,i0,i0,i0,nS,nS,i0,i0,i0,i0,i0,nS,i0,i0]:=⟨_,rfl⟩;have o:z.length=32:=by rw [K];rfl
 have E0:=C8 t [l6 r.f.cells,l6 z];have lim:∀{M:Mem},Ext m M->M.lim<=M.nx:=λE=>by rw [E.lim];have:=E.nx;omega
 obtain⟨h,M1,Y,E1,c⟩:=Gw E0.ok (lim E0) (g.a.ext E0) (by omega) w k;have E01:=E0.trans E1;have N:M1.get m.nx=some (l6 r.f.cells):=by rw [E1.old _ (by simp),j6 t];rfl
 have w1:M1.get (m.nx+1)=some (l6 z):=by rw [E1.old _ (by simp),l5 t];rfl
 obtain⟨i,M2,Z,E2,d⟩:=Gw E01.ok (lim E01) (g.b.ext E01) (by omega) w k;have E02:=E01.trans E2;have n1:m.nx+2<=M1.nx:=by have:=E1.nx;simpa using this
 have n2:m.nx+2<=M2.nx:=zu n1 E2.nx;have O:M2.get m.nx=some (l6 r.f.cells):=by rw [E2.old _ (by omega)];exact N
 have w2:M2.get (m.nx+1)=some (l6 z):=by rw [E2.old _ (by omega)];exact w1
 have n:=c.ext E2;obtain⟨N1,s1,P,X1⟩:=mV (off:=22) E02.ok (by omega) (by rw [E02.lim];exact s) O (by simp) (v:=h) c.D6;have F1:=E02.om X1 (aA _);have F:=vD (G5.len _) O X1;have I:(r.f.cells.set 22 h).length=32:=by simp
 obtain⟨N2,s2,Q,X2⟩:=mV (off:=23) F1.ok (nA (by omega) X1.nx) (by rw [F1.lim];exact s) P (by rw [I];omega) (v:=i) d.D6;have F2:=F1.om X2 (aA _);have G:=vD I P X2;have J:((r.f.cells.set 22 h).set 23 i).length=32:=by simp
 have n3:m.nx+2<=N2.nx:=zu n2 (zu X1.nx X2.nx);have w3:N2.get (m.nx+1)=some (l6 z):=by rw [X2.old _ (by have:=X1.nx;omega) (by omega),X1.old _ (by omega) (by omega)];exact w2
 obtain⟨x,M4,g3,E4,e⟩:=Gw F2.ok (lim F2) (g.l.ext F2) (by omega) w k;have F4:=F2.trans E4;have R:M4.get m.nx=some (l6 ((r.f.cells.set 22 h).set 23 i)):=by rw [E4.old _ (by omega)];exact Q
 have w4:M4.get (m.nx+1)=some (l6 z):=by rw [E4.old _ (by omega)];exact w3
 have n4:m.nx+2<=M4.nx:=zu n3 E4.nx;obtain⟨N3,s3,S,X3⟩:=mV (off:=29) F4.ok (by omega) (by rw [F4.lim];exact s) R (by rw [J];omega) (v:=x) e.D6;have F5:=F4.om X3 (aA _);have u:=vD J R X3;let r':FR:=⟨{r.f with A:=h,B:=i,L:=x},r.a,r.b,r.l⟩
 have X:((r.f.cells.set 22 h).set 23 i).set 29 x=r'.f.cells:=rfl;rw [X] at S;have T:N3.get (m.nx+1)=some (l6 z):=by rw [X3.old _ (by omega) (by omega)];exact w4
 have j:V3 N3 r':=⟨nG u ((nG G (nG F n)).ext E4),nG u ((nG G (nG F d)).ext E4),nG u e,g.ga,g.gb,g.nb⟩;obtain⟨m',s4,q7,X4⟩:=pz (vs:=r'.f.cells) F5.ok (nA (by omega) X3.nx) (by rw [F5.lim];omega) T (by rw [o];simp) (by simp) j.one;have F6:=F5.om X4 (by omega);refine⟨r',m',?_,F6,j.keep (vD o T X4),rfl,rfl,rfl,h,i,x,rfl⟩;rw [enter (sf:=f98) rfl rfl];have pa:=λ{β:Type} (p:d9->β) q=>c.dD p q;have pb:=λ{β:Type} (p:d9->β) q=>d.dD p q;have pl:=λ{β:Type} (p:d9->β) q=>e.dD p q;have U:=c.cells;have V:=d.cells;have W:=e.cells;have za:bM 100 h h=true:=gW c 99;have zb:bM 100 i i=true:=gW d 99;have zc:bM 100 r.f.A r.f.A=true:=gW g.a 99;have zd:bM 100 r.f.B r.f.B=true:=gW g.b 99;have pr:=λ{β:Type} (p:d9->β) q=>g.a.dD p q;have H:=λ{β:Type} (p:d9->β) q=>g.b.dD p q;have ll:r'.f.cells.length=32:=rfl;subst K
 clear_value r'
 clear F G u X1 X2 X3 X4 F1 F2 F4 F5 F6 c d e n j y C D E0 E01 E02 E1 E2 E4;have u1:ld1 (some (l6 r.f.cells)) 22=some r.f.A:=by rw [jO];exact G5.c22 _
 have u2:ld1 (some (l6 r.f.cells)) 23=some r.f.B:=by rw [jO];exact G5.c23 _
 have u3:ld1 (some (l6 ((r.f.cells.set 22 h).set 23 i))) 29=some r.f.L:=by rw [jO];rfl
 simp [f98,eO t s,D6,u1,u2,u3,Y,Z,g3,N,Q,S,q7,s1,s2,s3,s4,pa,pb,pl,U,V,W,za,zb,zc,zd,pr,H,ll]
theorem Cp.short {r c:FR}(h:Cp r c)(hs:r.short):c.short:=by unfold FR.short;rw [h.a,h.b,h.l];exact hs
theorem Cp.key {r a:FR}(h:Cp r a):a.key=r.key:=by obtain⟨_,_,_,b,c,d,e⟩:=h;simp only [FR.key,e]
theorem Cp.no {r a:FR}(h:Cp r a):a.f.no=r.f.no:=by obtain⟨_,_,_,b,c,d,e⟩:=h;rw [e]
theorem Cp.same {r a:FR}(h:Cp r a):a.same r=true:=by obtain⟨b,c,d,f,g,i,e⟩:=h;simp [FR.same,aL,dh,lV,e,b,c,d]
def CpP (l cs:List FR):Prop:=∀j (h:j<cs.length) (h':j<l.length),Cp l[j] cs[j]
theorem CpP.snoc {l cs:List FR}{r:FR}(h:CpP l cs)(c:∀h':cs.length<l.length,Cp l[cs.length] r):CpP l (cs ++ [r]):=λj b a=>by
 by_cases hc:j<cs.length;rw [adP hc];exact h j hc a;obtain rfl:j=cs.length:=by simp at b;omega
 rw [aA3 (by omega)];simpa using c a
theorem Xk {o:Mem}{H:d9}{l:List FR}(a1:o.Ok)(A:o.lim<=o.nx)(hx:fJ o H l)(hw:∀r,r∈l->V3 o r)(hg:∀r,r∈l->r.Good)(hs:∀r,r∈l->r.short)(hb:l.length<=200)(n0 I:Nat)(U:1000<=I)(n:Nat)(hn:n=l.length):
  ∀(s i:Nat),i+s=n->∀(N:Nat),s<N->∀(M:Mem) (v:d9) (cs:List FR),Own o M v cs->cs.length=i->CpP l cs->(∀c,c∈cs->V3 M c)->∀(y3 y6:d9),
   ∃z6 v' M' cs',T9 (λenv m k=>Qu (l8 KW I (n0+2)) I none env m k) N (Vl H (iN i) (iN n) y3 H v y6 nS) M []=some [⟨.exit 0,(Vl H (iN n) (iN n) fV H v' z6 nS),M',[],none⟩]∧Own o M' v' cs'∧cs'.length=n∧CpP l cs'∧(∀c,c∈cs'->V3 M' c):=by
 intro s;induction s with
 | zero=>
  intro i hi N hN M v cs B hc K J y3 y6;obtain⟨N,rfl⟩:∃M,N=M+1:=⟨N-1,by omega⟩;obtain rfl:i=n:=by omega
  refine⟨y6,v,M,cs,?_,B,hc,K,J⟩;rw [o9];simp [Qu]
 | succ s ih=>
  intro i hi N hN M v cs B hc K J y3 y6;obtain⟨N,rfl⟩:∃M,N=M+1:=⟨N-1,by omega⟩;have b:i<l.length:=by omega
  have E0:=B.1;have hm:M.Ok:=E0.ok;have hl:M.lim<=M.nx:=by rw [E0.lim];exact zu A E0.nx
  obtain⟨id,e1,a0,e2,_⟩:=(hx.ext E0).at b;have hr:=hw l[i] (M7 b);have G:=hs l[i] (M7 b);have V:=hg l[i] (M7 b);have E1:=C8 hm [l6 l[i].f.cells];obtain⟨g,M2,g2,E2,u,t⟩:=Ul E1.ok (by simp;omega) ((hr.ext E0).ext E1) G n0 I U;have E3:Ext M2 (M2.new (l6 g.f.cells)):=(Ext.refl E2.ok).new _;have C:Own o (M2.new (l6 g.f.cells)) v cs:=((B.ext E1).ext E2).ext E3;have X:g.Good:=u.good (t.short G);have T:fJ (M2.new (l6 g.f.cells)) (.slice M2.nx 0 1 1) [g]:=.inr ⟨M2.nx,.inl ⟨1,rfl⟩,by simp,.inr ⟨1,.nd .e g.f.cells .e,by
   rw [Mem.Q5 E2.ok,if_pos rfl];show some (U7.cells (len' g.f.cells) 1 (.nd .e g.f.cells .e))=_;rw [K4,G5.len],by simp,λj hj=>by
   obtain rfl:j=0:=by simp at hj;omega
   rfl⟩⟩
  obtain⟨v',M4,hA,D,k4⟩:=QS A C T (λr h=>by simp at h;rw [h];exact X) (by simp;omega);have y:Kp M M4:=((Kp.of E1).trans ((Kp.of E2).trans (Kp.of E3))).trans k4;obtain⟨q,hq⟩:∃q,q=i+1:=⟨_,rfl⟩;obtain⟨z6,v5,M5,P,g5,E,S,F,w⟩:=ih q (by omega) N (by omega) M4 v' (cs ++ [g]) D (by simp;omega) (K.snoc λh'=>by
   have e:l[cs.length]=l[i]:=by congr 1
   rw [e];exact t) (λc R=>by
   rcases O4.1 R with h | h;exact (J c h).keep y;simp at h;rw [h];exact (u.ext E3).keep k4) tV (.ptr M.nx 0)
  refine⟨z6,v5,M5,P,?_,E,S,F,w⟩;have e3:=ah hq (by omega);have Y:i<n:=by omega
  have Q:∀z O L env d,List.length z=32->U4 32 1 z O L env d=ob (lay O L env z) λa=>if a.length=32 then some (.slice d 0 1 1,some (l6 a)) else none:=λz O L env d h=>dx 32 z O L env d h
  have Z:=λ{β:Type} (p:d9->β) q=>D.fs.dD p q;have W:=V.one;simp only [w9] at hA;rw [o9,← g5];generalize l[i]=x at *;clear ih K J F w y t B C E u hr;simp [Qu,eO hm hl,D6,Y,e1,e2,e3,g2,Q,hA,Z,W,G5.len]
theorem alA {m:Mem}{v:d9}{l:List FR}(e:m.Ok)(t:m.lim<=m.nx)(k:fJ m v l)(i:∀r,r∈l->V3 m r)(hs:∀r,r∈l->r.short)(hb:l.length<=200)(n b:Nat)(d:1000<=b):
  ∃v' m' cs,l8 KW b (n+3) (.func 65) [v] m=some [⟨v',m'⟩]∧Own m m' v' cs∧cs.length=l.length∧CpP l cs∧(∀c,c∈cs->V3 m' c):=by
 have a:=k.len;obtain⟨u,v',m',cs,g,o,p,q,s⟩:=Xk e t k i (λr f=>(i r f).good (hs r f)) hs hb n b d l.length rfl l.length 0 (by omega) b (by omega) m nS [] (Own.nil (Ext.refl e)) rfl (λj h=>by simp at h) (λc h=>by simp at h) uV uV;refine⟨v',m',cs,?_,o,p,q,s⟩;dsimp only [iN] at g;rw [show ((0:Nat):Int)=0 from rfl] at g;rw [enter (sf:=f65) rfl rfl];simp [f65,a,g]
theorem LX:∀(n:Nat) (s:By),s.length<=n->∀c∈chunks s,c≠[]
 | 0,s,h=>by obtain rfl:=acS.1 (show s.length=0 by omega);simp [cK]
 | n+1,s,h=>by
  by_cases hs:s=[];subst hs;simp [cK];have hp:=acC.2 hs;rw [jo hs];intro c hc;rcases O9.1 hc with rfl | hc;intro e;rw [List.take_eq_nil_iff] at e;rcases e with e | e<;>first | omega | exact hs e
  exact LX n (s.drop 64) (by simp;omega) c hc
theorem rE:∀(n:Nat) (s:By),s.length<=n->(chunks s).flatten=s
 | 0,s,h=>by obtain rfl:=acS.1 (show s.length=0 by omega);simp [cK]
 | n+1,s,h=>by by_cases hs:s=[];subst hs;simp [cK];have hp:=acC.2 hs;rw [jo hs,azG,rE n (s.drop 64) (by simp;omega),amV]
theorem bW (no:Int)(s:By):(fT no s).length=(chunks s).length+1:=by simp [fT]
theorem QU:Tok bJ:=lK (by decide)
theorem pE (ns:List Int):splitB 32 (G7 bJ ns)=bJ::gX ns:=by rw [fO];exact FX 32 _ _ (TL QU (by decide)) (λx a=>TL (fA _ x a) (by decide))
theorem QV {a b:Int}(d:Sm a)(hb:Sm b)(h:Lib.itoa a=Lib.itoa b):a=b:=by have c:=Vx d;rw [h,Vx hb] at c;exact c.symm
structure rF (no:Int)(disk:List By)(r:FR):Prop where
 valid:r.valid=true
 pre:∃rest,disk=fT no (D8 r)++rest
theorem rF.many {no:Int}{a:List By}{r s:FR}(h:rF no a r)(k:rF no a s):(chunks (D8 r)).length=(chunks (D8 s)).length:=by
 obtain⟨t,c⟩:=h.pre;obtain⟨u,d⟩:=k.pre;have e:G7 bJ [no,((chunks (D8 r)).length:Int),((D8 r).length:Int),(qA (D8 r):Int)]=G7 bJ [no,((chunks (D8 s)).length:Int),((D8 s).length:Int),(qA (D8 s):Int)]:=by have:=c.symm.trans d;simp only [fT,adL] at this;exact (ahs this).1
 have b:=congrArg (splitB 32) e;rw [pE,pE] at b;simp only [gX,adU,azU,azT,true_and] at b;have f:=eF _ _ (aA (D8 r).length);have g:=eF _ _ (aA (D8 s).length);have i:=fB h.valid;have j:=fB k.valid;have:=QV (by unfold Sm;omega) (by unfold Sm;omega) b.1;omega
theorem rF.text {no:Int}{a:List By}{r s:FR}(h:rF no a r)(k:rF no a s):D8 r=D8 s:=by have f:=h.many k;obtain⟨t,c⟩:=h.pre;obtain⟨u,d⟩:=k.pre;have e:=c.symm.trans d;have:=(List.append_inj e (by rw [bW,bW,f])).1;have b:chunks (D8 r)=chunks (D8 s):=(ahs this).2;rw [← rE _ (D8 r) (aA _),b,rE _ (D8 s) (aA _)]
theorem rF.uniq {no:Int}{a:List By}{r s:FR}(h:rF no a r)(k:rF no a s):r.cn=s.cn:=
 TP (text:=D8 r) ⟨h.valid,rfl⟩ ⟨k.valid,(h.text k).symm⟩
def jT (disk:List By):Option Nat:=match disk with
 | []=>none
 | d :: _=>match splitB 32 d with
  | [_,_,w,_,_]=>match Lib.atoiAll w with
   | .ok k=>if 0<=k∧k<disk.length then some k.toNat else none
   | _=>none
  | _=>none
theorem acv {no:Int}{a:List By}{r:FR}(h:rF no a r):jT a=some (chunks (D8 r)).length:=by
 obtain⟨t,rfl⟩:=h.pre;have b:=eF _ _ (aA (D8 r).length);have c:=fB h.valid;unfold jT;show (match splitB 32 (G7 bJ [no,((chunks (D8 r)).length:Int),((D8 r).length:Int),(qA (D8 r):Int)]) with
  | [_,_,w,_,_]=>match Lib.atoiAll w with
   | .ok k=>if 0<=k∧k<((fT no (D8 r)++t).length:Int) then some k.toNat else none
   | _=>none
  | _=>none)=_
 rw [pE];simp only [gX,adU,azU];rw [EP (by omega) (by omega)];simp only;rw [if_pos ⟨by omega,by rw [U1,bW];omega⟩];simp
def ajs (k:Nat)(disk:List By):By:=((disk.drop 1).take k).flatten
theorem acw {no:Int}{a:List By}{r:FR}(h:rF no a r):ajs (chunks (D8 r)).length a=D8 r:=by obtain⟨t,rfl⟩:=h.pre;have:(fT no (D8 r)++t).drop 1=chunks (D8 r)++t:=rfl;rw [ajs,this,List.take_left,rE _ _ (aA _)]
theorem Xl {no:Int}{a:List By}{r:FR}{k:Nat}(c:r.valid=true)(b:a.take (k+1)=fT no (D8 r)):rF no a r:=⟨c,a.drop (k+1),by rw [← b,amV]⟩
theorem ag8 {no:Int}{a:List By}{r:FR}(h:rF no a r):a.take ((chunks (D8 r)).length+1)=fT no (D8 r):=by obtain⟨t,rfl⟩:=h.pre;rw [← bW no,List.take_left]
theorem Jy (c:UInt8):∀s:By,zO c s=splitB c s
 | []=>rfl
 | b::l=>by obtain⟨h,t,e⟩:=EO c l;rw [oW,Jy c l,EA,splitB,e];by_cases hb:b=c;rw [decide_eq_true hb,if_pos hb];rfl;rw [decide_eq_false hb,if_neg hb];rfl
theorem Bz:∀ws:List By,fZ [] ws=ws.flatten
 | []=>rfl
 | [w]=>by simp [fZ]
 | w::x::ws=>by have ih:=Bz (x::ws);have e:fZ [] (w::x::ws)=bU w (bU [] (fZ [] (x::ws))):=rfl;rw [e,ih,U9,U9];simp
theorem QW {b:Nat}:∀{ws:List By},(∀w∈ws,w.length<=b)->ws.flatten.length<=ws.length*b
 | [],_=>by simp
 | w::ws,h=>by have h1:=QW (ws:=ws) λx hx=>h x (adh _ hx);have h2:=h w (adI ..);simp only [azG,U1,adk];rw [adF];omega
def ow (L:List FR)(k:Int):Nat:=(L.filter λr=>decide (r.f.room=k)).length
def lastB (L:List FR)(k:Int):Int:=L.foldl (λn r=>if r.f.room=k then max n r.f.known else n) 0
def uh (L:List FR)(r:FR):Bool:=decide (r.f.no=(ow L r.f.room:Int)+1)&&decide (lastB L r.f.room<=r.f.known)
theorem LY (L:List FR)(r:FR)(k:Int):ow (L ++ [r]) k=ow L k+if r.f.room=k then 1 else 0:=by unfold ow;by_cases h:r.f.room=k<;>simp [h]
theorem Jz (L:List FR)(r:FR)(k:Int):lastB (L ++ [r]) k=if r.f.room=k then max (lastB L k) r.f.known else lastB L k:=by unfold lastB;simp
theorem GD {r s:FR}(h:r.cn=s.cn):r.f.room=s.f.room∧r.f.no=s.f.no∧r.f.known=s.f.known:=by have h:=congrArg FR.f h;have a:r.cn.f.room=s.cn.f.room:=congrArg G5.room h;have b:r.cn.f.no=s.cn.f.no:=congrArg G5.no h;have c:r.cn.f.known=s.cn.f.known:=congrArg G5.known h;exact⟨a,b,c⟩
theorem alB (r:FR):r.cn.f.room=r.f.room∧r.cn.f.no=r.f.no∧r.cn.f.known=r.f.known:=⟨rfl,rfl,rfl⟩
theorem QX (k:Int)(L:List FR):ow (L.map FR.cn) k=ow L k:=by
 induction L with
 | nil=>rfl
 | cons r L ih=>unfold ow at ih ⊢;rw [adU,List.filter_cons,List.filter_cons,(alB r).1];split;rw [adk,adk,ih];exact ih
theorem ag9 {L M:List FR}(h:L.map FR.cn=M.map FR.cn)(k:Int):ow L k=ow M k:=by rw [← QX k L,h,QX]
theorem ES (k:Int):∀(L:List FR) (n:Int),(L.map FR.cn).foldl (λn r=>if r.f.room=k then max n r.f.known else n) n=L.foldl (λn r=>if r.f.room=k then max n r.f.known else n) n
 | [],_=>rfl
 | r::L,n=>by rw [adU,at0,at0,(alB r).1,(alB r).2.2];exact ES k L _
theorem acy {L M:List FR}(h:L.map FR.cn=M.map FR.cn)(k:Int):lastB L k=lastB M k:=by unfold lastB;rw [← ES k L,h,ES]
theorem vE {L M:List FR}(h:L.map FR.cn=M.map FR.cn){r s:FR}(e:r.cn=s.cn):uh L r=uh M s:=by obtain⟨a,b,c⟩:=GD e;unfold uh;rw [a,b,c,ag9 h,acy h]
def P6 (r:FR):Nat:=(chunks (D8 r)).length+1
def Rec (n:Nat)(disk:List By)(r:FR):Prop:=n<=200∧rF (n:Int) disk r
inductive QY:List FR->List By->List FR->Prop
 | stop {L:List FR} {disk:List By} (h:∀r,Rec (L.length+1) disk r->uh L r=false):QY L disk L
 | step {L L':List FR} {disk:List By} {r:FR} (h:Rec (L.length+1) disk r) (hf:uh L r=true) (k:QY (L ++ [r]) (disk.drop (P6 r)) L'):QY L disk L'
theorem uj {r s:FR}(h:r.cn=s.cn):D8 r=D8 s:=by rw [← Dn r,h,Dn]
theorem QY.uniq {L:List FR}{a:List By}{X:List FR}(h:QY L a X):∀{M Y:List FR},L.map FR.cn=M.map FR.cn->QY M a Y->X.map FR.cn=Y.map FR.cn:=by
 induction h with
 | @stop L a h=>
  intro M Y c k;have b:L.length=M.length:=by simpa using congrArg List.length c
  cases k with
  | stop _=>exact c
  | @step _ _ _ s g gf k=>rw [← b] at g;have:=h s g;rw [vE c (s:=s) rfl,gf] at this;cases this
 | @step L L' a r h hf k ih=>
  intro M Y c d;have b:L.length=M.length:=by simpa using congrArg List.length c
  cases d with
  | stop g=>rw [← b] at g;have:=g r h;rw [← vE c (r:=r) rfl,hf] at this;cases this
  | @step _ _ _ s g gf d=>
   rw [← b] at g;have e:=h.2.uniq g.2;have f:=uj e;refine ih (M:=M ++ [s]) (by simp [c,e]) ?_;have:P6 r=P6 s:=by unfold P6;rw [f]
   rw [this];exact d
inductive Grown:List FR->Prop
 | nil:Grown []
 | snoc {L:List FR} {r:FR} (h:Grown L) (hv:r.valid=true) (hf:uh L r=true):Grown (L ++ [r])
theorem Grown.valid {L:List FR}(h:Grown L):∀r∈L,r.valid=true:=by
 induction h with
 | nil=>simp
 | snoc h hv hf ih=>intro r a;rcases O4.1 a with a | a;exact ih r a;simp at a;rw [a];exact hv
theorem Grown.nos {L:List FR}(h:Grown L)(k:Int):∀i (hi:i<(L.filter λr=>decide (r.f.room=k)).length),((L.filter λr=>decide (r.f.room=k))[i]).f.no=(i:Int)+1:=by
 induction h with
 | nil=>intro i hi;simp at hi
 | @snoc L r h hv hf ih=>
  intro i hi;by_cases hk:r.f.room=k;have e:((L ++ [r]).filter λr=>decide (r.f.room=k))=(L.filter λr=>decide (r.f.room=k)) ++ [r]:=by simp [hk]
  simp only [e] at hi ⊢;by_cases hlt:i<(L.filter λr=>decide (r.f.room=k)).length;rw [adP hlt];exact ih i hlt;obtain rfl:i=(L.filter λr=>decide (r.f.room=k)).length:=by simp at hi hlt ⊢;omega
  rw [aA3 (aA _)];simp only [uh,D5,decide_eq_true_eq] at hf;simp only [Nat.sub_self,amS];rw [hf.1,hk];rfl;have e:((L ++ [r]).filter λr=>decide (r.f.room=k))=(L.filter λr=>decide (r.f.room=k)):=by simp [hk]
  simp only [e] at hi ⊢;exact ih i hi
def J4:Nat->List FR->List By
 | _,[]=>[]
 | k,r::L=>fT (k:Int) (D8 r)++J4 (k+1) L
theorem vF:∀(L:List FR) (k:Nat) (r:FR),J4 k (L ++ [r])=J4 k L++fT ((k+L.length:Nat):Int) (D8 r)
 | [],k,r=>by simp [J4]
 | s::L,k,r=>by simp only [adL,J4,vF L (k+1) r,adk,amU];rw [show k+1+L.length=k+(L.length+1) from by omega]
theorem ET:∀(L:List FR) (k:Nat),J4 k (L.map FR.cn)=J4 k L
 | [],_=>rfl
 | r::L,k=>by rw [adU,J4,J4,Dn,ET L]
theorem acz {L M:List FR}(h:L.map FR.cn=M.map FR.cn)(k:Nat):J4 k L=J4 k M:=by rw [← ET L,h,ET]
end Go.Proofs.YtfnlnpllpfhhnaaGreatDoor.TT
