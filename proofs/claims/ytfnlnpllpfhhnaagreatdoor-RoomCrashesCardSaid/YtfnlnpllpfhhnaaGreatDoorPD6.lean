/- Functions of the program and of the specification, walked; conditions: the memory holds what the arguments say. -/
import Derived.Test.YtfnlnpllpfhhnaaGreatDoorPD5
set_option linter.all false
namespace Go.Proofs.YtfnlnpllpfhhnaaGreatDoor.TT
open Go Go.AM
set_option maxRecDepth 100000
set_option maxHeartbeats 4000000
theorem aga {m:Mem}{v w:d9}{xs d:List By}(u:dV m v (strs xs))(x:dV m w (strs d))(D:xs.length=d.length)(hb:xs.length<=100000)(cf:H8)(l:Nat):∀(j i:Nat),i+j=xs.length->∀(a5 a6 a7:d9) (N:Nat),j+1<=N->
  (xs.drop i=d.drop i∧∃(b6 b7:d9),T9 (λenv m k=>CX cf l none env m k) N (QB v w fV (iN i) (iN (xs.length)) a5 a6 a7 fV) m []=some [⟨.exit 0,(QB v w fV (iN (xs.length)) (iN (xs.length)) fV b6 b7 fV),m,[],none⟩])∨
  (xs.drop i≠d.drop i∧∃(b3 b5 b6 b7:d9),T9 (λenv m k=>CX cf l none env m k) N (QB v w fV (iN i) (iN (xs.length)) a5 a6 a7 fV) m []=some [⟨.ret,(QB v w fV b3 (iN (xs.length)) b5 b6 b7 fV),m,[],none⟩]):=by
 intro j;induction j with
 | zero=>
  intro i C a5 a6 a7 N A;obtain⟨N,rfl⟩:∃k,N=k+1:=⟨N-1,by omega⟩;obtain rfl:i=xs.length:=by omega
  refine .inl ⟨by rw [O5 (aA _),O5 (by omega)],a6,a7,?_⟩;rw [o9];simp [CX]
 | succ j ih=>
  intro i C a5 a6 a7 N A;obtain⟨N,rfl⟩:∃k,N=k+1:=⟨N-1,by omega⟩;have a:i<xs.length:=by omega
  have b:i<d.length:=by omega
  obtain⟨id,o,n,_,r⟩:=u.at (i:=i) (by rw [J3];exact a);have f:(strs xs)[i]'(by rw [J3];exact a)=.str xs[i]:=by simp [strs]
  rw [f] at r;simp at n;obtain⟨E,F,s,_,t⟩:=x.at (i:=i) (by rw [J3];exact b);have e:(strs d)[i]'(by rw [J3];exact b)=.str d[i]:=by simp [strs]
  rw [e] at t;simp at s;have y:=λ{β:Type} (p:d9->β) q=>u.dD p q;have z:=λ{β:Type} (p:d9->β) q=>x.dD p q;rw [Q6 a,Q6 b];by_cases hq:xs[i]=d[i];have c:∀R:Option (List Out),T9 (λenv m k=>CX cf l none env m k) N (QB v w fV (iN ((i+1))) (iN (xs.length)) tV (iN i) fV fV) m []=R->T9 (λenv m k=>CX cf l none env m k) (N+1) (QB v w fV (iN i) (iN (xs.length)) a5 a6 a7 fV) m []=R:=λR B=>by rw [o9,← B];simp [CX,a,n,r,s,t,y,z,hq,dZ (i:=i) (by omega)]
  rcases ih (i+1) (by omega) tV (iN i) fV N (by omega) with⟨h1,b5,b6,g⟩ | ⟨h1,b3,b4,b5,b6,g⟩;exact .inl ⟨by rw [hq,h1],b5,b6,c _ g⟩;exact .inr ⟨λh=>h1 (by injection h),b3,b4,b5,b6,c _ g⟩;refine .inr ⟨λh=>hq (by injection h),(iN i),tV,(iN i),tV,?_⟩;rw [o9];simp [CX,a,n,r,s,t,y,z,hq]
theorem alC {m:Mem}{v w:d9}{xs ys:List By}(e:dV m v (strs xs))(f:dV m w (strs ys))(hb:xs.length<=10000)(n b:Nat)(i:20000<=b):l8 KW b (n+1) (.func 95) [v,w] m=some [⟨.bool (decide (xs=ys)),m⟩]:=by
 have c:=e.len;have d:=f.len;rw [J3] at c d;rw [enter (sf:=f95) rfl rfl];by_cases hxy:xs.length=ys.length;rcases aga e f hxy (by omega) (l8 KW b n) b xs.length 0 (by omega) uV uV uV b (by omega) with⟨a,b5,b6,g⟩ | ⟨a,b3,b4,b5,b6,g⟩;have a:xs=ys:=by simpa using a
 simp at g;simp [f95,c,d,hxy] at g ⊢;simp [g,a];have a:¬ xs=ys:=by simpa using a
 simp at g;simp [f95,c,d,hxy] at g ⊢;simp [g,a];have a:¬ xs=ys:=λh=>hxy (by rw [h]);have j:¬ ((xs.length:Nat):Int)=(ys.length:Int):=by omega
 simp [f95,c,d,hxy,j,a]
theorem agb {p:Nat}{m:Mem}{d:d9}{L:List FR}(F:m.Ok)(e:m.lim<=m.nx)(G:fJ m d L)(C:∀r,r∈L->r.Good)(hb:L.length<=1000)(k:Int)(cf:H8)(z:Nat):∀(j i:Nat),i+j=L.length->∀(N:Nat),j<N->∀(M:Mem),Ext m M->∀(a3 a5 a7:d9),
  ∃b5 b7 M',T9 (λenv m k=>Lx cf z none env m k) N (Jj (.ptr p 0) (iN i) (iN (L.length)) a3 d a5 (iV k) a7 (iN (ow (L.take i) k)) i0) M []=some [⟨.exit 0,(Jj (.ptr p 0) (iN (L.length)) (iN (L.length)) fV d b5 (iV k) b7 (iN (ow (L) k)) i0),M',[],none⟩]∧Ext m M':=by
 intro j;induction j with
 | zero=>
  intro i D N A M b a3 a5 a7;obtain⟨N,rfl⟩:∃k,N=k+1:=⟨N-1,by omega⟩;obtain rfl:i=L.length:=by omega
  refine⟨a5,a7,M,?_,b⟩;rw [o9,azN];simp [Lx]
 | succ j ih=>
  intro i D N A M b a3 a5 a7;obtain⟨N,rfl⟩:∃k,N=k+1:=⟨N-1,by omega⟩;have a:i<L.length:=by omega
  have h:M.Ok:=b.ok;have u:M.lim<=M.nx:=by rw [b.lim];exact zu e b.nx
  obtain⟨id,l,E,n,_⟩:=(G.ext b).at a;have w:=(C _ (M7 a)).one;have E1:=b.trans (C8 h [l6 L[i].f.cells]);obtain⟨q,v⟩:∃q,q=i+1:=⟨_,rfl⟩;have o:=ah v (by omega);have s:L.take q=L.take i ++ [L[i]]:=by rw [v];exact adi a
  by_cases hk:L[i].f.room=k;obtain⟨b5,b7,M',g,E2⟩:=ih q (by omega) N (by omega) _ E1 tV (.ptr M.nx 0) tV;refine⟨b5,b7,M',?_,E2⟩;rw [s,LY,if_pos hk] at g;obtain⟨c,t⟩:∃c,c=ow (L.take i) k+1:=⟨_,rfl⟩;have B:ow (L.take i) k<=1000:=by have:=List.length_filter_le (λr:FR=>decide (r.f.room=k)) (L.take i);have H:=List.length_take_le i L;unfold ow;omega
  have y:=ah t (by omega);rw [← t] at g;rw [o9,← g];generalize L[i]=x at *;clear ih g;simp [Lx,eO h u,D6,a,l,n,o,y,w,hk,G5.len];obtain⟨b5,b7,M',g,E2⟩:=ih q (by omega) N (by omega) _ E1 tV (.ptr M.nx 0) fV;refine⟨b5,b7,M',?_,E2⟩;rw [s,LY,if_neg hk] at g;try rw [adw] at g
  rw [o9,← g];generalize L[i]=x at *;clear ih g;simp [Lx,eO h u,D6,a,l,n,o,w,hk,G5.len]
theorem acA {p:Nat}{m:Mem}{j d:d9}{rid:Int}{L:List FR}(e:m.Ok)(i:m.lim<=m.nx)(hp:m.get p=some (l6 [j,iV rid,d]))(c:fJ m d L)(h:∀r,r∈L->r.Good)(hb:L.length<=1000)(k:Int)(n a:Nat)(f:2000<=a):
  ∃m',l8 KW a (n+1) (.func 96) [.ptr p 0,iV k] m=some [⟨(iN (ow (L) k)),m'⟩]∧Ext m m':=by
 have b:=c.len;have v:=c.cells;have l:=λ{β:Type} (p:d9->β) q=>c.dD p q;obtain⟨t,u,m',g,E⟩:=agb (p:=p) e i c h hb k (l8 KW a n) a L.length 0 (by omega) a (by omega) m (Ext.refl e) uV uV uV;refine⟨m',?_,E⟩;rw [enter (sf:=f96) rfl rfl];have o:L.take 0=[]:=rfl;rw [o] at g;have s:ow [] k=0:=rfl;rw [s] at g;simp at g;simp [f96,hp,b,l,g]
theorem agc {x y:OF}{ls:List d9}{env:T d9}{a b:Int}(c:x ls env=iV a)(d:y ls env=iV b):XB true x [y] ls env=some (iV (max a b)):=by show ob (mm2 true (x ls env) (y ls env)) some=_;rw [c,d];show some (d9.int .i64 (bi (nJ a b) b a))=_;by_cases h:a<b;rw [show nJ a b=true from by rw [iL];simp;omega,Z6];congr 2;omega;rw [show nJ a b=false from by rw [iL];simp;omega,aJ];congr 2;omega
theorem agd {p:Nat}{m:Mem}{e:d9}{L:List FR}(G:m.Ok)(h:m.lim<=m.nx)(n:fJ m e L)(D:∀r,r∈L->r.Good)(hb:L.length<=1000)(k:Int)(cf:H8)(B:Nat):∀(j i:Nat),i+j=L.length->∀(N:Nat),j<N->∀(M:Mem),Ext m M->∀(a3 a5 a7:d9),
  ∃b5 b7 M',T9 (λenv m k=>LB cf B none env m k) N (Jj (.ptr p 0) (iN i) (iN (L.length)) a3 e a5 (iV k) a7 (iV (lastB (L.take i) k)) i0) M []=some [⟨.exit 0,(Jj (.ptr p 0) (iN (L.length)) (iN (L.length)) fV e b5 (iV k) b7 (iV (lastB (L) k)) i0),M',[],none⟩]∧Ext m M':=by
 intro j;induction j with
 | zero=>
  intro i E N C M d a3 a5 a7;obtain⟨N,rfl⟩:∃k,N=k+1:=⟨N-1,by omega⟩;obtain rfl:i=L.length:=by omega
  refine⟨a5,a7,M,?_,d⟩;rw [o9,azN];simp [LB]
 | succ j ih=>
  intro i E N C M d a3 a5 a7;obtain⟨N,rfl⟩:∃k,N=k+1:=⟨N-1,by omega⟩;have c:i<L.length:=by omega
  have l:M.Ok:=d.ok;have v:M.lim<=M.nx:=by rw [d.lim];exact zu h d.nx
  obtain⟨id,o,F,s,_⟩:=(n.ext d).at c;have z:=(D _ (M7 c)).one;have E1:=d.trans (C8 l [l6 L[i].f.cells]);obtain⟨q,w⟩:∃q,q=i+1:=⟨_,rfl⟩;have t:=ah w (by omega);have u:L.take q=L.take i ++ [L[i]]:=by rw [w];exact adi c
  by_cases hk:L[i].f.room=k;obtain⟨b5,b7,M',g,E2⟩:=ih q (by omega) N (by omega) _ E1 tV (.ptr M.nx 0) tV;refine⟨b5,b7,M',?_,E2⟩;rw [u,Jz,if_pos hk] at g;have A:=λx y I env a b n H=>@agc x y I env a b n H;rw [o9,← g];generalize L[i]=x at *;clear ih g;simp [LB,eO l v,D6,c,o,s,t,A,z,hk,G5.len];obtain⟨b5,b7,M',g,E2⟩:=ih q (by omega) N (by omega) _ E1 tV (.ptr M.nx 0) fV;refine⟨b5,b7,M',?_,E2⟩;rw [u,Jz,if_neg hk] at g
  skip
  rw [o9,← g];generalize L[i]=x at *;clear ih g;simp [LB,eO l v,D6,c,o,s,t,z,hk,G5.len]
theorem acB {p:Nat}{m:Mem}{j d:d9}{rid:Int}{L:List FR}(e:m.Ok)(i:m.lim<=m.nx)(hp:m.get p=some (l6 [j,iV rid,d]))(c:fJ m d L)(h:∀r,r∈L->r.Good)(hb:L.length<=1000)(k:Int)(n a:Nat)(f:2000<=a):
  ∃m',l8 KW a (n+1) (.func 97) [.ptr p 0,iV k] m=some [⟨(iV (lastB (L) k)),m'⟩]∧Ext m m':=by
 have b:=c.len;have v:=c.cells;have l:=λ{β:Type} (p:d9->β) q=>c.dD p q;obtain⟨t,u,m',g,E⟩:=agd (p:=p) e i c h hb k (l8 KW a n) a L.length 0 (by omega) a (by omega) m (Ext.refl e) uV uV uV;refine⟨m',?_,E⟩;rw [enter (sf:=f97) rfl rfl];have o:L.take 0=[]:=rfl;rw [o] at g;have s:lastB [] k=0:=rfl;rw [s] at g;simp at g;simp [f97,hp,b,l,g]
set_option maxHeartbeats 8000000
theorem alD {p:Nat}{m:Mem}{y u:d9}{rid:Int}{L:List FR}{r:FR}(b:m.Ok)(h:m.lim<=m.nx)(d:p<m.nx)(hp:m.get p=some (l6 [y,iV rid,u]))(w:fJ m u L)(v:∀r,r∈L->r.Good)(hb:L.length<=1000)(n g:Nat)(a:2000<=g):
  ∃m',l8 KW g (n+2) (.func 55) [(.ptr p 0),.agg r.f.cells] m=some [⟨.bool (uh L r),m'⟩]∧Ext m m':=by
 rw [enter (sf:=f55) rfl rfl];have E1:=C8 b [l6 r.f.cells];have lim:∀{M:Mem},Ext m M->M.lim<=M.nx:=λE=>by rw [E.lim];exact zu h E.nx
 obtain⟨M1,j,E2'⟩:=acA E1.ok (lim E1) ((E1.old p d).trans hp) (w.ext E1) v hb r.f.room n g a;have E2:=E1.trans E2';have i:M1.get m.nx=some (l6 r.f.cells):=by rw [E2'.old _ (by simp),j6 b];rfl
 obtain⟨M2,t,E3'⟩:=acB E2.ok (lim E2) ((E2.old p d).trans hp) (w.ext E2) v hb r.f.room n g a;have E3:=E2.trans E3';have q:M2.get m.nx=some (l6 r.f.cells):=by rw [E3'.old _ (by have:=E2'.nx;simp at this;omega)];exact i
 obtain⟨c,o⟩:∃c,c=ow L r.f.room+1:=⟨_,rfl⟩;have x:ow L r.f.room<=1000:=by have:=List.length_filter_le (λs:FR=>decide (s.f.room=r.f.room)) L;unfold ow;omega
 have k:=ah o (by omega);by_cases h1:r.f.no=(c:Int);refine⟨M2,?_,E3⟩;have l:uh L r=decide (lastB L r.f.room<=r.f.known):=by unfold uh;rw [decide_eq_true (show r.f.no=(ow L r.f.room:Int)+1 by rw [h1,o];rfl),amP]
 rw [l];by_cases h3:lastB L r.f.room<=r.f.known;simp [f55,eO b h,D6,j,i,q,t,k,h1,h3,P8];simp [f55,eO b h,D6,j,i,q,t,k,h1,h3,P8];refine⟨M1,?_,E2⟩;have l:uh L r=false:=by unfold uh;rw [decide_eq_false (show ¬ r.f.no=(ow L r.f.room:Int)+1 by intro e;apply h1;rw [e,o];rfl),Bool.false_and]
 rw [l];simp [f55,eO b h,D6,j,i,q,k,h1,P8]
def DkE (m:Mem)(v:d9)(ws:List By):Prop:=
 xR m v ws∨ws=[]∧∃id off,((∃c,v=.slice id off 0 c)∨v=.sliceU id off 0 1)∧id<m.nx
theorem DkE.vs {m:Mem}{v:d9}{ws:List By}(h:DkE m v ws):dV m v (strs ws):=by rcases h with h | ⟨rfl,id,off,h1,h2⟩;exact h.vs;refine .inr ⟨id,off,?_,h2,.inl rfl⟩;rcases h1 with⟨c,rfl⟩ | rfl;exact .inl ⟨c,rfl,adC _⟩;exact .inr rfl
theorem DkE.ext {m a:Mem}(e:Ext m a){v:d9}{ws:List By}(h:DkE m v ws):DkE a v ws:=by rcases h with h | ⟨rfl,id,off,h1,h2⟩;exact .inl (h.ext e);exact .inr ⟨rfl,id,off,h1,nA h2 e.nx⟩
theorem DkE.dk {m:Mem}{v:d9}{ws:List By}(h:DkE m v ws)(a:ws≠[]):xR m v ws:=by rcases h with h | ⟨rfl,_⟩;exact h;exact absurd rfl a
def Kn (v:d9):Prop:=∀i o l e,v≠.sliceU i o l e
def Um (lo:Nat)(v:d9):Prop:=(∀i o l c,v=.slice i o l c->i<lo)∧∀i o l e,v=.sliceU i o l e->i<lo
theorem JA {α:Type}(l:List α)(o n a k:Nat)(h:a+k<=n):(((l.drop o).take n).drop a).take k=(l.drop (o+a)).take k:=by rw [List.drop_take,List.take_take,am2,ayM (by omega)]
theorem NT {m:Mem}{v:d9}{ws:List By}(h:xR m v ws)(a k:Nat)(w:ws≠[])(u:a+k<=ws.length)(n:Kn v∨a<ws.length)(nid:Nat):
  ∃v',(∀(hi:Option Nat),(hi=some (a+k)∨hi=none∧a+k=ws.length)->J5 nid 1 v a hi=some (v',none))∧xR m v' ((ws.drop a).take k)∧(Kn v->Kn v')∧(∀lo,Um lo v->Um lo v'):=by
 rcases h with⟨rfl,h⟩ | ⟨id,off,h0,h1,h2,all,rows,h3,h4,h5,h6⟩;exact absurd h w;have g:((ws.drop a).take k).length=k:=by simp;omega
 have z:=acC.2 w;have j:(ws.drop a).take k=(all.drop (off+a)).take k:=by have e:(ws.drop a).take k=(((all.drop off).take ws.length).drop a).take k:=congrArg (λl:List By=>(l.drop a).take k) h6;rw [e,JA _ _ _ _ _ u]
 have t:Nat.ble a (a+k)=true:=wu (by omega);have x:Nat.sub (a+k) a=k:=by show a+k-a=k;omega
 rcases h1 with⟨c,rfl,hc⟩ | rfl;have f:Nat.ble (a+k) c=true:=wu (by omega);have b:J5.known 1 a id off c (a+k)=some (.slice id (bi (Nat.beq a c) off (Nat.add off (Nat.mul a 1))) k (Nat.sub c a),none):=by show bi (Nat.ble a (a+k)) (bi (Nat.ble (a+k) c) (some (d9.slice id (bi (Nat.beq a c) off (Nat.add off (Nat.mul a 1))) (Nat.sub (a+k) a) (Nat.sub c a),(none:Option U7))) none) none=_;rw [t,f,x];rfl
 refine⟨_,λhi p=>?_,.inr ⟨id,bi (Nat.beq a c) off (Nat.add off (Nat.mul a 1)),h0,.inl ⟨Nat.sub c a,by rw [g],by rw [g];show k<=c-a;omega⟩,h2,all,rows,h3,h4,?_,?_⟩,λ_ i o l e d=>(by cases d),λlo j=>⟨λi o l y d=>(by injection d with d;rw [← d];exact j.1 id off ws.length c rfl),λi o l e d=>(by cases d)⟩⟩;rcases p with rfl | ⟨rfl,d⟩;exact b;have:J5.known 1 a id off c ws.length=_:=d▸b;exact this;rw [g];cases hbc:Nat.beq a c with
 | true=>have:=rW hbc;show off+k<=all.length;omega
 | false=>show off+a*1+k<=all.length;omega
 rw [g,j];cases hbc:Nat.beq a c with
 | true=>
  have:=rW hbc;have q:k=0:=by omega
  subst q;simp
 | false=>
  have e:bi false off (Nat.add off (Nat.mul a 1))=off+a:=by show off+a*1=_;omega
  rw [e]
 have s:a<ws.length:=by rcases n with n | n;exact absurd rfl (n id off ws.length 1);exact n
 have f:Nat.ble (a+k) ws.length=true:=wu u;have b:J5.unk nid 1 a id off ws.length 1 (a+k)=some (.sliceU id (Nat.add off (Nat.mul a 1)) k 1,none):=by show bi (Nat.ble a (a+k)) (bi (Nat.ble (a+k) ws.length) (bi (Nat.beq 1 1) (bi (Nat.blt a ws.length) (some (d9.sliceU id (Nat.add off (Nat.mul a 1)) (Nat.sub (a+k) a) 1,(none:Option U7))) _) none) none) none=_;rw [t,f,x,show Nat.blt a ws.length=true from O6.mpr s];rfl
 have e:Nat.add off (Nat.mul a 1)=off+a:=by show off+a*1=_;omega
 refine⟨.sliceU id (Nat.add off (Nat.mul a 1)) k 1,λhi p=>?_,.inr ⟨id,off+a,h0,.inr (by rw [g,e]),h2,all,rows,h3,h4,by rw [g];omega,by rw [g,j]⟩,λr=>absurd rfl (r id off ws.length 1),λlo j=>⟨λi o l y d=>(by cases d),λi o l e d=>(by injection d with d;rw [← d];exact j.2 id off ws.length 1 rfl)⟩⟩;rcases p with rfl | ⟨rfl,d⟩;exact b;have:J5.unk nid 1 a id off ws.length 1 ws.length=_:=d▸b;exact this
theorem acD {x a b:OF}{ls:List d9}{env:T d9}{v:d9}{i j:Nat}(d:x ls env=v)(c:a ls env=iV (i:Int))(hb:b ls env=iV (j:Int))(nid:Nat):Rn 1 x (some a) (some b) ls env nid=J5 nid 1 v i (some j):=by show iR (a ls env) (λl=>iR (b ls env) λh=>J5 nid 1 (x ls env) l (some h))=_;rw [c,nu,jN];show iR (b ls env) (λh=>J5 nid 1 (x ls env) i (some h))=_;rw [hb,nu,jN,d]
theorem Un {x b:OF}{ls:List d9}{env:T d9}{v:d9}{j:Nat}(a:x ls env=v)(hb:b ls env=iV (j:Int))(nid:Nat):Rn 1 x none (some b) ls env nid=J5 nid 1 v 0 (some j):=by show iR (b ls env) (λh=>J5 nid 1 (x ls env) 0 (some h))=_;rw [hb,nu,jN,a]
theorem alE {x a:OF}{ls:List d9}{env:T d9}{v:d9}{i:Nat}(c:x ls env=v)(b:a ls env=iV (i:Int))(nid:Nat):Rn 1 x (some a) none ls env nid=J5 nid 1 v i none:=by show iR (a ls env) (λl=>J5 nid 1 (x ls env) l none)=_;rw [b,nu,jN,c]
theorem agf {m:Mem}{v:d9}{ws:List By}(s:m.Ok)(h:xR m v ws)(a:Nat)(j:ws≠[])(r:a<=ws.length):
  ∃v' b,J5 m.nx 1 v a none=some (v',b)∧((b=none∧xR m v' (ws.drop a)∧∀lo,Um lo v->Um lo v')∨∃i,b=some (.tail i)∧DkE (m.new (.tail i)) v' (ws.drop a)∧ws.drop a=[])∧(Kn v->Kn v'):=by
 by_cases hz:Kn v∨a<ws.length;obtain⟨v',f,g,n,p⟩:=NT h a (ws.length-a) j (by omega) hz m.nx;refine⟨v',none,f none (.inr ⟨rfl,by omega⟩),.inl ⟨rfl,?_,p⟩,n⟩;rw [adt (by simp)] at g;exact g;have d:¬ Kn v:=λe=>hz (.inl e);have k:a=ws.length:=by have:¬ a<ws.length:=λe=>hz (.inr e);omega
 rcases h with⟨rfl,h⟩ | ⟨id,off,h0,f,g,all,rows,n,p,h5,h6⟩;exact absurd h j;rcases f with⟨c,rfl,hc⟩ | rfl;exact absurd (λi o l e q=>by cases q) d;subst k;refine⟨.sliceU m.nx 0 0 1,some (.tail id),?_,.inr ⟨id,rfl,.inr ⟨O5 (aA _),m.nx,0,.inr rfl,by simp⟩,O5 (aA _)⟩,λe=>absurd e d⟩;have t:=acC.2 j;show bi (Nat.ble ws.length ws.length) (bi (Nat.ble ws.length ws.length) (bi (Nat.beq 1 1) (bi (Nat.blt ws.length ws.length) _ (bi (Nat.beq ws.length 0) _ (some (d9.sliceU m.nx 0 0 1,some (U7.tail id))))) none) none) none=_;rw [show Nat.ble ws.length ws.length=true from wu (aA _),show Nat.blt ws.length ws.length=false from adj.2 λe=>by have:=O6.mp e;omega,show Nat.beq ws.length 0=false from adj.2 λe=>by have:=rW e;omega];rfl
theorem Rec.of {no:Nat}{a:List By}{r:FR}{k:Nat}(b:no<=200)(c:r.valid=true)(h:fT (no:Int) (D8 r)=a.take (k+1)):Rec no a r:=⟨b,Xl c h.symm⟩
theorem Rec.head {no:Nat}{a:List By}{r:FR}(h:Rec no a r):jT a=some (chunks (D8 r)).length:=acv h.2
theorem JB (c:UInt8):∀u:By,(∃k:Nat,mU c u=(k:Int)∧k<u.length∧zO c u=u.take k::zO c (u.drop (k+1)))∨mU c u=-1∧zO c u=[u]
 | []=>.inr ⟨rfl,rfl⟩
 | b::l=>by
  have hi:mU c (b::l)=bi (Nat.beq b.toNat c.toNat) 0 (bi (qK (mU c l) (Int.negSucc 0)) (Int.negSucc 0) (mU c l+1)):=rfl;cases hb:Nat.beq b.toNat c.toNat with
  | true=>exact .inl ⟨0,by rw [hi,hb];rfl,by simp,by rw [oW,hb];rfl⟩
  | false=>rw [hb] at hi;rcases JB c l with⟨k,h1,h2,h3⟩ | ⟨h1,h3⟩;refine .inl ⟨k+1,?_,by simp;omega,by rw [oW,hb,h3];rfl⟩;rw [hi,h1,lu,show ((k:Int)==Int.negSucc 0)=false from by simp];rfl;exact .inr ⟨by rw [hi,h1];rfl,by rw [oW,hb,h3];rfl⟩
theorem QZ (c:UInt8):∀u:By,(zO c u).length=lH c u+1∧lH c u<=u.length
 | []=>⟨rfl,aA _⟩
 | b::l=>by
  obtain⟨h1,h2⟩:=QZ c l;have hi:lH c (b::l)=bi (Nat.beq b.toNat c.toNat) (Nat.succ (lH c l)) (lH c l):=rfl;obtain⟨h,t,e⟩:=Nn c l;rw [oW,e,hi];rw [e] at h1;cases Nat.beq b.toNat c.toNat with
  | true=>exact⟨by simpa using h1,by simp;omega⟩
  | false=>exact⟨by simpa using h1,by simp;omega⟩
theorem aEv {z:List d9}{x y:OF}{ls:List d9}{env:T d9}{nid a:Nat}(b:x ls env=iV (a:Int))(c:y ls env=iV (a:Int))(d:a<=2000000):
  iI 1 16 z x y ls env nid=some (.slice nid 0 a a,some (.cells 1 a (T.rep z a .e 0))):=by
 unfold iI;rw [b,c];show bi (Nat.ble a a) (bi (Nat.ble (Nat.mul 16 a) 281474976710656) (bi (Nat.blt a 9223372036854775808) _ none) none) none=_;rw [wu (aA a),wu (show Nat.mul 16 a<=281474976710656 from by show 16*a<=_;omega),O6.mpr (show a<9223372036854775808 by omega)];rfl
def BkS (m:Mem)(id:Nat)(D:List By):Prop:=id<m.nx∧∃t,m.get id=some (.cells 1 D.length t)∧T.Ok t D.length∧∀j (h:j<D.length),t.get j=some [.str D[j]]
theorem LZ {id:Nat}{m:Mem}{D:List By}(h:BkS m id D)(l:m.Ok)(b:m.lim<=id){i:Nat}(hi:i<D.length)(s:By):
  ∃m',(∀{β:Type} (k:Mem->Option β),storeAt m id i [.str s] k=k m')∧BkS m' id (D.set i s)∧bP id m m':=by
 obtain⟨d,t,p,f,n⟩:=h;have c:=n i hi;have v:aj 1 D.length t i [.str s]=some (t.put i [.str s]):=by have u:Nat.div i 1=i:=Nat.div_one i;have w:Nat.mod i 1=0:=Nat.mod_one i;unfold aj;rw [u,w,show Nat.blt i D.length=true from O6.mpr hi,c];rfl
 refine⟨m.set id (.cells 1 D.length (t.put i [.str s])),λk=>?_,⟨by simpa using d,t.put i [.str s],by rw [Mem.U6 l d,if_pos rfl];simp,by simpa using T.Ok.put f i _ (by omega),λj o=>?_⟩,⟨Mem.Ok.set l d _,by simp,rfl,λj o q=>by rw [Mem.U6 l d,if_neg q]⟩⟩;have r:I6 [d9.str s]=true:=rfl;rw [aK b r,p];show ob (ob (aj 1 D.length t i [.str s]) λa=>some (U7.cells 1 D.length a)) _=_;rw [v];rfl;have g:j<D.length:=by simpa using o
 rw [aCG];split;rename_i e;subst e;exact T.Z7 f _ _ (by omega);rename_i e;rw [T.aU f _ _ _ (by omega) e];exact n j g
theorem acE {id k:Nat}{c:UInt8}(W:k<=1000000)(n w:Nat):∀(j i:Nat),i+j=k->∀(N:Nat),j<N->∀(M:Mem),M.Ok->M.lim<=id->∀(u:By) (D:List By),u.length<1000000->(zO c u).length=j+1->BkS M id D->D.length=k+1->∀(a7 a8 a9:d9),
  ∃u' D' b8 b9 M',T9 (λenv m k=>Jd (l8 KW w (n+1)) w none env m k) N (abN (iN k) fV (.str [c]) fV (.str u) tV (iN i) a7 a8 a9 (.slice id 0 (k+1) (k+1)) i0 nS) M []=some [⟨.exit 0,(abN (iN k) fV (.str [c]) fV (.str u') tV (iN k) fV b8 b9 (.slice id 0 (k+1) (k+1)) i0 nS),M',[],none⟩]∧bP id M M'∧BkS M' id D'∧D'.length=k+1∧D'.take k ++ [u']=D.take i++zO c u:=by
 intro j;induction j with
 | zero=>
  intro i hi N Q M B a u D J o y b a7 a8 a9;obtain⟨N,rfl⟩:∃k,N=k+1:=⟨N-1,by omega⟩;obtain rfl:i=k:=by omega
  refine⟨u,D,a8,a9,M,?_,bP.refl B,y,b,?_⟩;rw [o9];simp [Jd,w9,x9,D6];rcases JB c u with⟨q,h1,h2,h3⟩ | ⟨h1,h3⟩;obtain⟨h,t,e⟩:=Nn c (u.drop (q+1));rw [h3,e] at o;simp at o;rw [h3]
 | succ j ih=>
  intro i hi N Q M B a u D J o y b a7 a8 a9;obtain⟨N,rfl⟩:∃k,N=k+1:=⟨N-1,by omega⟩;have F:i<k:=by omega
  rcases JB c u with⟨q,h1,h2,h3⟩ | ⟨h1,h3⟩;have I:=abL u c J n w M;rw [h1] at I;obtain⟨M2,V,A,X2⟩:=LZ y B a (i:=i) (by omega) (u.take q);obtain⟨S,r⟩:∃d,d=i+1:=⟨_,rfl⟩;obtain⟨K,p⟩:∃d,d=q+1:=⟨_,rfl⟩;have L:=ah r (by omega);have O:=ah p (by omega);have P:sP (q:Int)=(q:Int):=dM (by omega) (by omega);obtain⟨u',D',b8,b9,M',g,X,z,E,R⟩:=ih S (by omega) N (by omega) M2 X2.ok (by rw [X2.lim];exact a) (u.drop K) (D.set i (u.take q)) (by simp;omega) (by rw [h3] at o;rw [p];simpa using o) A (by simpa using b) tV (iN q) fV;refine⟨u',D',b8,b9,M',?_,X2.trans X,z,E,?_⟩;have T:=λx hi ls env H C=>Qm (x:=x) (hi:=hi) (ls:=ls) (env:=env) (s:=u) (h:=q) H C (by omega);have U:=λx lo ls env H C=>Qn (x:=x) (lo:=lo) (ls:=ls) (env:=env) (s:=u) (l:=K) H C (by omega);have v:∀{β:Type} (f:Nat->Option β),idx (k+1) (iV (i:Int)) f=f i:=λf=>V6 (k+1) i f (by omega);have G:¬ (q:Int)<0:=by omega
  rw [o9,← g];simp [Jd,w9,x9,D6,F,I,G,L,O,P,T,U,v,V];rw [R,h3,r,List.take_set,p];have:i<(D.take (i+1)).length:=by simp;omega
  rw [adi (by omega),amW _ _ (by simp;omega)];simp [show min i D.length=i from by omega];rw [h3] at o;simp at o
theorem agh (s:By)(c:UInt8)(hs:s.length<1000000)(n o:Nat)(a0:s.length+1<=o){m:Mem}(O:m.Ok)(N:m.lim<=m.nx):
  ∃v m',l8 KW o (n+2) (.func 177) [.str s,.str [c],i0,iV (-1)] m=some [⟨v,m'⟩]∧Ext m m'∧vX m' v (strs (zO c s)):=by
 obtain⟨K,Z⟩:=QZ c s;obtain⟨k,hk⟩:∃k,k=lH c s:=⟨_,rfl⟩;have J:=abM s c hs n o m;rw [← hk] at K Z J;obtain⟨k1,l⟩:∃d,d=k+1:=⟨_,rfl⟩;obtain⟨l1,H⟩:∃d,d=s.length+1:=⟨_,rfl⟩;have V:=ah l (by omega);have W:=ah H (by omega);have Y:=rC (a:=k1) (p:=k) (by omega) (by omega);have pm:∀(x y:OF) (ls:List d9) (env:T d9),x ls env=iV (k1:Int)->y ls env=iV (l1:Int)->XB false x [y] ls env=some (iV (k1:Int)):=λx y ls env w I=>by rw [VA w I,ayM (by omega)]
 have mk:=λ(x y:OF) (ls:List d9) (env:T d9) (nid:Nat) w I=>aEv (z:=[.str []]) (x:=x) (y:=y) (ls:=ls) (env:=env) (nid:=nid) (a:=k1) w I (by omega);obtain⟨M,h⟩:∃M,M=ext m [.cells 1 k1 (T.rep [.str []] k1 .e 0)]:=⟨_,rfl⟩;have E:Ext m M:=by rw [h];exact C8 O _
 have hD:BkS M m.nx (List.replicate k1 []):=⟨by simp [h],T.rep [.str []] k1 .e 0,by rw [h,j6 O];simp,by have:=T.RA [d9.str []] k1 .e 0 .e;simpa using this,λj F=>by
  have F:j<k1:=by simpa using F
  rw [T.Mw _ _ _ _ .e];simp [F]⟩
 obtain⟨P,D',b8,b9,M',g,X,B,G,L⟩:=acE (id:=m.nx) (k:=k) (c:=c) (by omega) n o k 0 (by omega) o (by omega) M E.ok (by rw [E.lim];exact N) s (List.replicate k1 []) hs K hD (by simp [l]) uV uV uV;rw [am1,adl] at L;obtain⟨M2,s2,q,X2⟩:=LZ B X.ok (by rw [X.lim,E.lim];exact N) (i:=k) (by omega) P;have C:D'.set k P=zO c s:=by
  rw [← L];have:D'=D'.take k ++ [D'[k]'(by omega)]:=by rw [← adi (by omega),← G,azN]
  conv=>lhs;rw [this]
  rw [amW _ _ (by simp;omega)];simp [show min k D'.length=k from by omega]
 rw [C] at q;have r:∀{β:Type} (f:Nat->Option β),idx k1 (iV (k:Int)) f=f k:=λf=>V6 k1 k f (by omega);have Q:=λ(x b:OF) (ls:List d9) (env:T d9) (w:x ls env=.slice m.nx 0 k1 k1) (hb:b ls env=(iN k1))=>Un w hb M2.nx;have A:J5 M2.nx 1 (.slice m.nx 0 k1 k1) 0 (some k1)=some (.slice m.nx 0 k1 k1,none):=by show J5.known 1 0 m.nx 0 k1 k1=_;show bi (Nat.ble 0 k1) (bi (Nat.ble k1 k1) (some (d9.slice m.nx (bi (Nat.beq 0 k1) 0 (Nat.add 0 (Nat.mul 0 1))) (Nat.sub k1 0) (Nat.sub k1 0),(none:Option U7))) none) none=_;rw [wu (adC k1),wu (aA k1),show Nat.beq 0 k1=false from by rw [l];rfl,show Nat.mul 0 1=0 from rfl,show Nat.sub k1 0=k1 from rfl];rfl
 obtain⟨R,t,S,d3,U⟩:=q;have u:(zO c s).length=k1:=by omega
 refine⟨.slice m.nx 0 k1 k1,M2,?_,?_,?_⟩;rw [enter (sf:=f177) rfl rfl];have a1:¬ (k1:Int)=0:=by omega
 rw [← l] at g;rw [h] at g;simp at g;simp [f177,w9,x9,D6,J,V,W,Y,pm,mk,g,r,s2,Q,A];exact E.om (X.trans X2) (aA _);refine⟨m.nx,0,k1,by rw [J3,u],by rw [J3];omega,R,.inr ⟨_,t,S,by rw [J3,S9];exact aA _,λi hi=>?_⟩⟩;have D:i<(zO c s).length:=by rwa [J3] at hi
 rw [S9,U i D];simp [strs]
theorem acF (s:By)(c:UInt8)(hs:s.length<1000000)(n a:Nat)(b:s.length+1<=a){m:Mem}(e:m.Ok)(d:m.lim<=m.nx):
  ∃v m',l8 KW a (n+3) (.func 92) [.str s,.str [c]] m=some [⟨v,m'⟩]∧Ext m m'∧vX m' v (strs (zO c s)):=by
 obtain⟨v,m',g,E,h⟩:=agh s c hs n a b e d;have f:=λ{β:Type} (p:d9->β) q=>h.vs.dD p q;refine⟨v,m',?_,E,h⟩;rw [enter (sf:=f92) rfl rfl];simp [f92,w9,x9,D6,g,f]
theorem Uo {d:By}{t:List By}{k:Nat}(h:jT (d::t)=some k):∃w0 w1 w w3 w4,splitB 32 d=[w0,w1,w,w3,w4]∧Lib.atoiAll w=.ok (k:Int)∧k<(d::t).length:=by unfold jT at h;simp only at h;split at h;rename_i w0 w1 w w3 w4 a;split at h;rename_i x b;split at h;rename_i c;cases h;exact⟨w0,w1,w,w3,w4,a,by rw [b];congr 1;omega,by omega⟩;cases h;cases h;cases h
theorem agi {d:By}{t:List By}{c e w f g:By}(hs:splitB 32 d=[c,e,w,f,g]){x:Int}(b:Lib.atoiAll w=.ok x)(h0:0<=x)(a:x<((d::t).length:Int)):jT (d::t)=some x.toNat:=by unfold jT;simp only [hs,b];rw [if_pos ⟨h0,a⟩]
theorem Uq {d:By}{t:List By}(h:(splitB 32 d).length≠5):jT (d::t)=none:=by unfold jT;simp only;split;rename_i a;rw [a] at h;simp at h;rfl
theorem BA {d:By}{t:List By}{b c w e f:By}(hs:splitB 32 d=[b,c,w,e,f])(h:∀x,Lib.atoiAll w=.ok x->¬ (0<=x∧x<((d::t).length:Int))):jT (d::t)=none:=by unfold jT;simp only [hs];split;rename_i x a;rw [if_neg (h x a)];rfl
theorem Dt {no:Nat}{a:List By}(h:jT a=none):∀r,¬ Rec no a r:=λr b=>by rw [b.head] at h;cases h
theorem rG (c:UInt8):∀(s w:By),w∈splitB c s->w.length<=s.length
 | [],w,h=>by simp [splitB] at h;simp [h]
 | b::l,w,h=>by rw [splitB] at h;split at h;rcases O9.1 h with rfl | h;simp;have:=rG c l w h;simp;omega;obtain⟨x,xs,e⟩:=EO c l;rw [e] at h;rcases O9.1 (show w∈(b::x)::xs from h) with rfl | h;have:=rG c l x (by rw [e];simp);simp;omega;have:=rG c l w (by rw [e];simp [h]);simp;omega
theorem acG {m:Mem}{v:d9}{ws:List By}(F:m.Ok)(D:m.lim<=m.nx)(hv:DkE m v ws)(hb:ws.length<=10000)(hw:∀w∈ws,w.length<=1000)(hz:Kn v∨∀k,jT ws=some k->k≠0)
  (hj:∀k,jT ws=some k->((ws.drop 1).take k).flatten.length<=16000) (no:Nat) (ak:no<=1000) (n J:Nat) (ab:20001<=J):
  (∃r m',l8 KW J (n+14) (.func 54) [(iN no),v] m=some [⟨.tuple [.agg r.f.cells,(iN ((P6 r))),tV],m'⟩]∧Ext m m'∧V3 m' r∧r.short∧Rec no ws r)∨
  (∃m',l8 KW J (n+14) (.func 54) [(iN no),v] m=some [⟨.tuple [.agg zr,i0,fV],m'⟩]∧Ext m m'∧∀r,¬ Rec no ws r):=by
 have g:=hv.vs.len;rw [J3] at g;have E0:=C8 F [l6 zr];have g0:(ext m [l6 zr]).get m.nx=some (l6 zr):=by rw [j6 F];rfl
 have lim:∀{M:Mem},Ext m M->M.lim<=M.nx:=λE=>by rw [E.lim];exact zu D E.nx
 have j:∀{M:Mem},Ext (ext m [l6 zr]) M->∃N,(∀{β:Type} (k:Mem->Option β),storeAt M m.nx 0 zr k=k N)∧N.get m.nx=some (l6 zr)∧Ext m N:=λ{M} E=>by have hn:=E.nx;obtain⟨N,A,q,X⟩:=pz (vs:=zr) E.ok (by simp at hn;omega) (by rw [E.lim,E0.lim];exact D) ((E.old m.nx (by simp)).trans g0) rfl (by decide) rfl;exact⟨N,A,q,(E0.trans E).om X (aA _)⟩
 have am:zr.length=32:=rfl;rw [enter (sf:=f54) rfl rfl];cases ws with
 | nil=>refine .inr ⟨ext m [l6 zr],?_,E0,Dt rfl⟩;simp [f54,eO F D,D6,g]
 | cons d t=>
  have s:¬ ((t.length:Int)+1=0):=by omega
  have ai:t.length+1<=10000:=by simpa using hb
  by_cases hn2:200<no;refine .inr ⟨ext m [l6 zr],?_,E0,λr G=>by have:=G.1;omega⟩;have l:(200:Int)<(no:Int):=by omega
  simp [f54,eO F D,D6,g,s,hn2,l];have l:¬ (200:Int)<(no:Int):=by omega
  have dk:=hv.dk (by simp);obtain⟨id,an,L,_,Q⟩:=(hv.ext E0).vs.Qk (x:=.str d) (xs:=strs t);simp at L;obtain⟨v1,M1,S,E1,P⟩:=acF d 32 (by have:=hw d (by simp);omega) (n+10) J (by have:=hw d (by simp);omega) E0.ok (lim E0);rw [Jy] at P;have H:=P.vs.len;rw [J3] at H;have z:=λ{β:Type} (p:d9->β) q=>P.vs.dD p q;have E01:=E0.trans E1;by_cases h5:(splitB 32 d).length=5;obtain⟨w0,w1,w,w3,w4,Z⟩:∃w0 w1 w w3 w4,splitB 32 d=[w0,w1,w,w3,w4]:=by
   match h:splitB 32 d,h5 with
   | [a,b,c,d,e],_=>exact⟨a,b,c,d,e,rfl⟩
  rw [Z] at H P;simp at H;obtain⟨af,ag,R,_,O⟩:=P.vs.at (i:=2) (by rw [J3];simp);have O:ld1 (M1.get af) ag=some (.str w):=O;simp at R;have al:w.length<=d.length:=rG 32 d w (by rw [Z];simp);obtain⟨x,e,M2,W,E2,Y⟩:=Vj w (by have:=hw d (by simp);omega) (n+12) J M1 E01.ok;have E02:=E01.trans E2;have X2:=E1.trans E2;rcases Y with⟨hx,rfl⟩ | ⟨hx,p,rfl⟩;by_cases hx0:x<0;obtain⟨N,A,C,EN⟩:=j X2;refine .inr ⟨N,?_,EN,Dt (BA Z λy V=>by rw [hx] at V;cases V;omega)⟩;simp [f54,eO F D,D6,g,s,hn2,l,L,Q,S,z,H,R,O,W,hx0,A,C];by_cases hxl:(t.length:Int)+1<=x;obtain⟨N,A,C,EN⟩:=j X2;refine .inr ⟨N,?_,EN,Dt (BA Z λy V=>by rw [hx] at V;cases V;simp;omega)⟩;simp [f54,eO F D,D6,g,s,hn2,l,L,Q,S,z,H,R,O,W,hx0,hxl,A,C];obtain⟨k,rfl⟩:∃k:Nat,x=(k:Int):=⟨x.toNat,by omega⟩;have hk:jT (d::t)=some k:=by have:=agi Z hx (by omega) (show (k:Int)<((d::t).length:Int) by simp;omega);simpa using this
  have aj:k<t.length+1:=by omega
  have a9:=dk.ext E02;have K:Kn v∨1<(d::t).length:=by rcases hz with hz | hz;exact .inl hz;have:=hz k hk;exact .inr (by simp;omega)
  obtain⟨vm,cm,dm,_,_⟩:=NT a9 1 k (by simp) (by simp;omega) K M2.nx;have a2:=hj k hk;have j3:=aeX dm [] (by simp;omega) (by rw [Bz];omega) (n+12) J;rw [Bz] at j3;have I:=λ(x a b:OF) (ls:List d9) (env:T d9) (hx:x ls env=v) (ha:a ls env=iN 1) (hb:b ls env=iN (1+k))=>(acD hx ha hb M2.nx).trans (cm (some (1+k)) (.inl rfl));obtain⟨q,hq⟩:∃q,q=k+1:=⟨_,rfl⟩;have e3:=ah hq (by omega);rw [show 1+k=q from by omega] at I;generalize hs3:(((d::t).drop 1).take k).flatten=s3 at a2 j3;have o:∀r,Rec no (d::t) r->Am s3 r:=λr G=>by have h:=G.head;rw [hk] at h;have h:=LA h;have hb:=acw G.2;rw [← h] at hb;exact⟨G.2.valid,by rw [← hs3,← hb];rfl⟩
  have a6:=lim E02;have ac:=E02.ok;rcases alq ac a6 s3 a2 n J ab with⟨r,M3,g3,E3,G,la,lb,lc,ht⟩ | ⟨M3,g3,E3,hno3⟩;have E03:=E02.trans E3;have u:=E03.ok;have B:=lim E03;have E4:=C8 u [l6 r.f.cells,U7.void];have ho:=G.one;have E04:=E03.trans E4;have a4:=G.ext E4;obtain⟨v4,M5,g4,E5,h4⟩:=TU E04.ok (lim E04) a4 ht.1 (no:Int) (by unfold Sm;omega) (n+8) J (by omega);have E05:=E04.trans E5;obtain⟨vp,cp,dp,_,_⟩:=NT (dk.ext E05) 0 q (by simp) (by simp;omega) (.inr (by simp)) (M3.nx+1);have a0:=λ(x b:OF) (ls:List d9) (env:T d9) (hx:x ls env=v) (hb:b ls env=iN q)=>(Un hx hb (M3.nx+1)).trans (cp (some q) (.inl (by rw [S9])));have ae:(fT (no:Int) (D8 r)).length<=10000:=by have:=eF _ (D8 r) (aA _);have:=fB ht.1;rw [bW];omega
  have g5:=alC h4 dp.vs ae (n+12) J (by omega);rw [adx] at g5;have q4:M5.get M3.nx=some (l6 r.f.cells):=by rw [E5.old _ (by simp),j6 u];rfl
  have a8:M5.get (M3.nx+1)=some .void:=by rw [E5.old _ (by simp),l5 u];rfl
  have X5:Ext (ext m [l6 zr]) M5:=X2.trans (E3.trans (E4.trans E5));have a7:=λ{β:Type} (p:d9->β) q=>h4.dD p q;by_cases heq:fT (no:Int) (D8 r)=(d::t).take q;have a5:P6 r=q:=by have:=congrArg List.length heq;rw [bW] at this;simp at this;unfold P6;omega
  have ad:=X5.nx;obtain⟨N,A,C,X⟩:=pz (vs:=r.f.cells) X5.ok (by simp at ad;omega) (by rw [X5.lim,E0.lim];exact D) ((X5.old m.nx (by simp)).trans g0) (by rw [G5.len];rfl) (by rw [G5.len];omega) G.one;have EN:=(E0.trans X5).om X (aA _);rw [decide_eq_true heq] at g5;refine .inl ⟨r,N,?_,EN,(a4.ext E5).keep (vD rfl ((X5.old m.nx (by simp)).trans g0) X),⟨la,lb,lc⟩,Rec.of (by omega) ht.1 (hq▸heq)⟩;rw [a5];clear K o j;simp [f54,eO F D,D6,xS u B,g,s,hn2,l,L,Q,S,z,H,R,O,W,hx0,hxl,e3,I,j3,g3,g4,a0,g5,q4,a8,a7,A,C,ho,uf,G5.len];obtain⟨N,A,C,EN⟩:=j X5;rw [decide_eq_false heq] at g5;refine .inr ⟨N,?_,EN,λr' U=>heq ?_⟩;clear K o j;simp [f54,eO F D,D6,xS u B,g,s,hn2,l,L,Q,S,z,H,R,O,W,hx0,hxl,e3,I,j3,g3,g4,a0,g5,q4,a8,a7,A,C,ho,uf,G5.len];have P:=ag8 U.2;have Y:=U.head;rw [hk] at Y;have Y:=LA Y;rw [← Y,← hq] at P;rw [P,ht.2,(o r' U).2];obtain⟨N,A,C,EN⟩:=j (X2.trans (E3.trans (C8 (E02.trans E3).ok [l6 zr,U7.void])));have E03:=E02.trans E3;have u:=E03.ok;have B:=lim E03;refine .inr ⟨N,?_,EN,λr G=>hno3 r (o r G)⟩;clear K o j;simp [f54,eO F D,D6,xS u B,g,s,hn2,l,L,Q,S,z,H,R,O,W,hx0,hxl,e3,I,j3,g3,A,C,uf];obtain⟨N,A,C,EN⟩:=j X2;refine .inr ⟨N,?_,EN,Dt (BA Z λy V=>absurd V (hx y))⟩;simp [f54,eO F D,D6,g,s,hn2,l,L,Q,S,z,H,R,O,W,A,C];obtain⟨N,A,C,EN⟩:=j E1;refine .inr ⟨N,?_,EN,Dt (Uq h5)⟩;have aa:¬ (((splitB 32 d).length:Nat):Int)=5:=by omega
  simp [f54,eO F D,D6,g,s,hn2,l,L,Q,S,z,H,h5,aa,A,C]
theorem JC {M:Mem}(a:M.Ok){W:List By}(b:W≠[]):jD M.nx (M.new (.cells 1 (strs W).length (T.ofList ((strs W).map ([·]))))) (.sliceU M.nx 0 (strs W).length 1) W:=by rw [J3];refine .inr ⟨M.nx,_,W.length,aA _,by simp,b,rfl,by rw [Mem.Q5 a,if_pos rfl],?_,aA _,λi c=>by rw [T.aV];simp [strs,c]⟩;have:=T.jy ((strs W).map ([·]));simpa [J3] using this
theorem IW (a b:List By):strs (a++b)=strs a++strs b:=by simp [strs]
theorem ay4 {lo bytes:Nat}{m:Mem}{v x:d9}{l xs:List By}(z:m.Ok)(K:m.lim<=lo)(O:lo<=m.nx)(h:jD lo m v l)(M:dV m x (strs xs))(f:xs≠[])(hb:l.length+xs.length<=100000)(u:1<=bytes∧bytes<=1000):
  ∃v' m',(∀(s y:OF) (cf:H8) (ls:List d9) (env:T d9),s ls env=v->y ls env=x->sQ 1 bytes s y cf ls env m=some [⟨v',m'⟩])∧jD m.nx m' v' (l++xs)∧m'.Ok∧m.nx<=m'.nx∧m'.lim=m.lim∧
   (∀i,i<m.nx->(∀o n e,v≠.sliceU i o n e)->m'.get i=m.get i):=by
 have w:∀(o:oF),oz m 1 bytes xs.length (strs xs) v=o->∀(s y:OF) (cf:H8) (ls:List d9) (env:T d9),s ls env=v->y ls env=x->sQ 1 bytes s y cf ls env m=o:=λo P s y cf ls env R S=>by show ob (AM.lenOf (y ls env)) (λn=>ob (bS m 1 n (y ls env)) λG=>oz m 1 bytes n G (s ls env))=_;have H:=M.lenOf;have I:=M.read;rw [J3] at H I;rw [S,R,H,I7,I,I7];exact P
 obtain⟨k,C⟩:∃k,xs.length=k+1:=⟨xs.length-1,by have:=acC.2 f;omega⟩;have q:l++xs≠[]:=λe=>f (List.append_eq_nil_iff.1 e).2;have J:=xJ xs;rcases h with⟨rfl,rfl⟩ | ⟨id,t,c,i1,i2,i3,rfl,i4,i5,i6,i7⟩;rw [adl];obtain⟨g,_⟩:=uX (lo:=m.nx) z (aA _) (strs xs) J;refine⟨_,_,w _ ?_,JC z f,Mem.Ok.new z _,by simp,by simp,λi A _=>by rw [Mem.Q5 z,if_neg (by omega)]⟩;rw [← g];show Ml m 1 bytes xs.length (strs xs)=_;rw [J3,C];show bi (big (k+1) bytes 1) _ none=_;rw [FM (by simp at hb;omega) u];rfl;have a:(m.set id .dead).Ok:=Mem.Ok.set z i2 _;have N:=acC.2 i3;have p:Nat.ble m.lim id=true:=wu (by omega);have d:∀b,∀i,i<m.nx->(∀o n e,d9.sliceU id 0 l.length 1≠.sliceU i o n e)->((m.set id .dead).new b).get i=m.get i:=λb i A f=>by have:i≠id:=λe=>f 0 l.length 1 (by rw [e]);rw [Mem.Q5 a,if_neg (by simp;omega),Mem.U6 z i2,if_neg this]
 by_cases hone:xs.length=1;obtain⟨y,rfl⟩:∃y,xs=[y]:=azL.1 hone;refine⟨.sliceU m.nx 0 (l.length+1) 1,(m.set id .dead).new (.cells 1 (l.length+1) (t.put l.length [.str y])),w _ ?_,?_,Mem.Ok.new a _,by simp,by simp,d _⟩;show pQ m 1 bytes 1 [.str y] id 0 l.length 1=_;show bi (Nat.beq 1 1) (bi (big (l.length+1) bytes 1) (bi (Nat.ble m.lim id) (bi (I6 [d9.str y]) (wG (m.get id) _ _) none) none) none) none=_;rw [FM (by simpa using hb) u,p,i4];show bi (bi (Nat.beq 1 1) (bi (Nat.beq 0 0) (bi (Nat.ble l.length l.length) (bi (Nat.beq 1 1) (Nat.beq 1 1) false) false) false) false) _ _=_;rw [show Nat.ble l.length l.length=true from wu (aA _)];rfl;have B:∃c'',l.length+1<=c''∧T.Ok (t.put l.length [.str y]) c'':=by
  by_cases hc:l.length<c;exact⟨c,hc,T.Ok.put i5 _ _ hc⟩;obtain rfl:c=l.length:=by omega
  exact⟨l.length+1,aA _,T.Ok.push i5 _⟩
 obtain⟨c'',U,V⟩:=B;refine .inr ⟨m.nx,_,c'',aA _,by simp,q,by simp,by rw [Mem.Q5 a];simp,V,by simpa using U,λi A=>?_⟩;by_cases hil:i=l.length;subst hil;rw [T.Z7 i5 _ _ (by omega)];simp;have j:i<l.length:=by simp at A;omega
 rw [T.aU i5 _ _ _ (by omega) (akd hil),i7 i j];simp [adP,j];obtain⟨g,_⟩:=uX (lo:=m.nx) a (by simp) (strs (l++xs)) (xJ _);have L:=JC a q;have E:(m.set id .dead).nx=m.nx:=by simp
 rw [E] at L g;refine⟨_,_,w _ ?_,L,Mem.Ok.new a _,by simp,by simp,d _⟩;have F:J8 1 l.length t l.length 0=some (strs l):=by
  have:=jP (rs:=1) (n:=l.length) (rows:=t) (l:=(strs l).map ([·])) (λr Q=>by
   obtain⟨x,_,rfl⟩:=adM.1 Q;rfl) (λi A=>by
   have D:i<l.length:=by simpa [strs] using A
   rw [i7 i D];simp [strs]) (by simp [strs]) l.length 0 (by simp [strs])
  rwa [aeN,adD,adx,CU] at this
 rw [← g];show pQ m 1 bytes xs.length (strs xs) id 0 l.length 1=_;unfold pQ;rw [C];show bi (Nat.beq 1 1) (bi (big (l.length+(k+1)) bytes 1) (bi (Nat.ble m.lim id) (bi (I6 (strs xs)) (wG (m.get id) _ _) none) none) none) none=_;rw [FM (by omega) u,p,J,i4];show bi (bi (Nat.beq 1 1) (bi (Nat.beq 0 0) (bi (Nat.ble l.length l.length) (bi (Nat.beq (k+1) 1) (Nat.beq (len' (strs xs)) 1) false) false) false) false) _ (ob (J8 1 l.length t (Nat.mul l.length 1) 0) λd=>grown (m.set id .dead) 1 (Nat.add l.length (k+1)) (bU d (strs xs)))=_;rw [show Nat.ble l.length l.length=true from wu (aA _),show Nat.beq (k+1) 1=false from adj.2 λe=>hone (by rw [C];exact rW e),
  show Nat.mul l.length 1=l.length from aeN _,show Nat.add l.length (k+1)=(strs (l++xs)).length from by rw [J3,U1,C];rfl]
 show ob (J8 1 l.length t l.length 0) (λd=>grown (m.set id .dead) 1 (strs (l++xs)).length (bU d (strs xs)))=_;rw [F,I7,U9,IW]
structure bf (lo:Nat)(m:Mem)(p:Nat)(rid:Int)(lv fv:d9)(D:List By)(L:List FR):Prop where
 at_:m.get p=some (l6 [lv,iV rid,fv])
 lo_:lo<=p
 pn:p<m.nx
 lim:m.lim<=lo
 list:jD lo m lv D
 facts:jR lo 32 m fv (cellsOf L)
 w:∀r,r∈L->V3 m r
 sh:∀r,r∈L->r.short
theorem bf.VH {lo:Nat}{m:Mem}{p:Nat}{rid:Int}{b a:d9}{D:List By}{L:List FR}(h:bf lo m p rid b a D L):lo<=m.nx:=zu h.lo_ (agI h.pn)
theorem bf.wh {lo:Nat}{m:Mem}{p:Nat}{rid:Int}{b a:d9}{D:List By}{L:List FR}(h:bf lo m p rid b a D L):m.lim<=m.nx:=zu h.lim h.VH
theorem bf.ext {lo:Nat}{m c:Mem}{p:Nat}{rid:Int}{b a:d9}{D:List By}{L:List FR}(h:bf lo m p rid b a D L)(e:Ext m c):bf lo c p rid b a D L:=
 ⟨(e.old p h.pn).trans h.at_,h.lo_,nA h.pn e.nx,by rw [e.lim];exact h.lim,h.list.ext e,h.facts.ext e,λr d=>(h.w r d).ext e,h.sh⟩
theorem bf.good {lo:Nat}{m:Mem}{p:Nat}{rid:Int}{c b:d9}{D:List By}{L:List FR}(h:bf lo m p rid c b D L):∀r,r∈L->r.Good:=λr a=>(h.w r a).good (h.sh r a)
theorem rH {lo:Nat}{m:Mem}{v:d9}{L:List FR}(h:jR lo 32 m v (cellsOf L)):fJ m v L:=by
 have a:(cellsOf L).length=L.length:=by simp [cellsOf]
 rcases h with⟨rfl,h⟩ | ⟨id,h1,h2,h3,h4,h5,h6⟩;have:L=[]:=acS.1 (by rw [← a,h];rfl);subst this;exact .inl ⟨rfl,rfl⟩;obtain⟨_,e,c,t,j,f,b,k,l,g⟩:=h4;rw [a] at h6 b;refine .inr ⟨id,?_,h2,.inr ⟨c,t,f,b,λi d=>?_⟩⟩;rcases h6 with h6 | h6;exact .inl ⟨_,h6⟩;exact .inr h6;rw [g i (by rw [a];exact d)];simp [cellsOf]
structure FrR (m m':Mem)(p:Nat)(lv fv:d9):Prop where
 nx:m.nx<=m'.nx
 lim:m'.lim=m.lim
 ok:m'.Ok
 old:∀i,i<m.nx->i≠p->(∀o n e,lv≠.sliceU i o n e)->(∀o n e,fv≠.sliceU i o n e)->m'.get i=m.get i
theorem bf.sl {lo:Nat}{m r:Mem}{p:Nat}{rid:Int}{l j:d9}{D:List By}{L:List FR}(h:bf lo m p rid l j D L)(f:FrR m r p l j){v:d9}{xs:List Int}(g:Z8 m v xs):Z8 r v xs:=by rcases g with g | ⟨id,h1,h2,h3⟩;exact .inl g;refine .inr ⟨id,h1,nA h2 f.nx,?_⟩;rcases h3 with h3 | ⟨n,rows,b,h5,h6⟩;exact .inl h3;by_cases hx:xs=[];exact .inl hx;have u:=acC.2 hx;refine .inr ⟨n,rows,(f.old id.1 h2 ?_ ?_ ?_).trans b,h5,h6⟩;intro e;have d:=h.at_;rw [← e,b] at d;have d:=LA d;have d:U7.cells 1 n rows=.cells 3 1 _:=d;injection d with e3;cases e3;intro o k e a;rcases h.list with⟨q,_⟩ | ⟨i,t,c,i1,i2,i3,q,i4,i5,i6,i7⟩;rw [q] at a;cases a;rw [q] at a;injection a with a;rw [← a,i4] at b;have b:=LA b;injection b with _ e1 d;have s:=h6 0 u;rw [← d,adw,i7 id.2 (by omega)] at s;cases s;intro o k e a;rcases h.facts with⟨q,_⟩ | ⟨i,i1,i2,i3,⟨_,hrl,c,t,c',q1,q2⟩,i5,i6⟩;rw [q] at a;cases a;rcases i6 with q | q;rw [q] at a;cases a;rw [q] at a;injection a with a;rw [← a,q1] at b;have b:=LA b;injection b with e3;cases e3
theorem bf.fct {lo:Nat}{m e:Mem}{p:Nat}{rid:Int}{d c:d9}{D:List By}{L:List FR}(h:bf lo m p rid d c D L)(f:FrR m e p d c){r:FR}(k:V3 m r):V3 e r:=⟨h.sl f k.a,h.sl f k.b,h.sl f k.l,k.ga,k.gb,k.nb⟩
theorem EU {lo rs:Nat}{m a:Mem}{v:d9}{l:List (List d9)}(h:jR lo rs m v l)(b:m.nx<=a.nx)(c:∀i,i<m.nx->((∃o n e,v=.sliceU i o n e)∨∃o n e,v=.slice i o n e)->a.get i=m.get i):jR lo rs a v l:=by rcases h with h | ⟨id,h1,h2,h3,h4,h5,h6⟩;exact .inl h;refine .inr ⟨id,h1,nA h2 b,h3,h4.same (c id h2 ?_),h5,h6⟩;rcases h6 with h6 | h6;exact .inr ⟨_,_,_,h6⟩;exact .inl ⟨_,_,_,h6⟩
theorem EW {lo:Nat}{m a:Mem}{v:d9}{l:List By}(h:jD lo m v l)(b:m.nx<=a.nx)(d:∀i o n e,i<m.nx->v=.sliceU i o n e->a.get i=m.get i):jD lo a v l:=by rcases h with h | ⟨id,t,c,h1,h2,h3,h4,h5,h6⟩;exact .inl h;exact .inr ⟨id,t,c,h1,nA h2 b,h3,h4,(d id _ _ _ h2 h4).trans h5,h6⟩
theorem EX {lo a:Nat}{m:Mem}{v:d9}{l:List By}(h:jD lo m v l)(b:a<=lo):jD a m v l:=by rcases h with h | ⟨id,t,c,h1,h2⟩;exact .inl h;exact .inr ⟨id,t,c,zu b h1,h2⟩
theorem nH {lo:Nat}{m:Mem}{v:d9}{l:List By}(h:jD lo m v l){i o n e:Nat}(a:v=.sliceU i o n e):lo<=i∧i<m.nx∧∃k t,m.get i=some (.cells 1 k t):=by rcases h with⟨h,_⟩ | ⟨id,t,c,h1,h2,h3,h4,h5,h6⟩;rw [h] at a;cases a;rw [h4] at a;injection a with a;subst a;exact⟨h1,h2,_,t,h5⟩
theorem dF {lo rs:Nat}{m:Mem}{v:d9}{l:List (List d9)}(h:jR lo rs m v l){i o n e:Nat}(a:v=.sliceU i o n e∨v=.slice i o n e):lo<=i∧i<m.nx∧∃k t,m.get i=some (.cells rs k t):=by
 rcases h with⟨h,_⟩ | ⟨id,h1,h2,h3,⟨_,hl,c,t,c',q,_⟩,h5,h6⟩;rw [h] at a;rcases a with a | a<;>cases a
 have:i=id:=by
  rcases h6 with h6 | h6<;>rw [h6] at a<;>rcases a with a | a
  cases a;injection a with a;exact a.symm;injection a with a;exact a.symm;cases a
 subst this;exact⟨h1,h2,c,t,q⟩
theorem agj {lo a rs:Nat}{m:Mem}{v:d9}{l:List (List d9)}(h:jR lo rs m v l)(b:∀i o n e,(v=.sliceU i o n e∨v=.slice i o n e)->a<=i):jR a rs m v l:=by rcases h with h | ⟨id,h1,h2,h3,h4,h5,h6⟩;exact .inl h;refine .inr ⟨id,?_,h2,h3,h4,h5,h6⟩;rcases h6 with h6 | h6;exact b _ _ _ _ (.inr h6);exact b _ _ _ _ (.inl h6)
theorem lN {a b k c:Nat}{t d:T (List d9)}{x:Option U7}(h:x=some (.cells a k t))(h':x=some (.cells b c d)):a=b:=by rw [h] at h';injection LA h'
theorem bf.ay6 {lo:Nat}{m:Mem}{p:Nat}{rid:Int}{a c:d9}{D:List By}{L:List FR}(h:bf lo m p rid a c D L):∀o n e,a≠.sliceU p o n e:=λo n e d=>by obtain⟨_,_,k,t,q⟩:=nH h.list d;have:=lN (b:=3) q h.at_;omega
theorem bf.ay7 {lo:Nat}{m:Mem}{p:Nat}{rid:Int}{d a:d9}{D:List By}{L:List FR}(h:bf lo m p rid d a D L):∀o n e,a≠.sliceU p o n e:=λo n e c=>by obtain⟨_,_,k,t,q⟩:=dF h.facts (.inl c);have:=lN (b:=3) q h.at_;omega
theorem bf.acH {lo:Nat}{m:Mem}{p:Nat}{rid:Int}{c a:d9}{D:List By}{L:List FR}(h:bf lo m p rid c a D L){i o n e f d b:Nat}(g:c=.sliceU i o n e)(j:a=.sliceU i f d b∨a=.slice i f d b):False:=by obtain⟨_,_,k,t,q⟩:=nH h.list g;obtain⟨_,_,r,s,l⟩:=dF h.facts j;have:=lN q l;omega
theorem Ur {lo:Nat}{m:Mem}{p:Nat}{rid:Int}{d a:d9}{D:List By}{L:List FR}(h:bf lo m p rid d a D L):∀o n e,a≠.slice p o n e:=λo n e c=>by obtain⟨_,_,k,t,q⟩:=dF h.facts (.inr c);have:=lN (b:=3) q h.at_;omega
theorem alF {lo:Nat}{m:Mem}{p:Nat}{rid:Int}{s fv:d9}{D:List By}{L:List FR}(h:bf lo m p rid s fv D L)(I:m.Ok){x:d9}{xs:List By}(M:dV m x (strs xs))(y:xs≠[])(hb:D.length+xs.length<=100000)(n E:Nat):
  ∃m' lv',l8 KW E (n+1) (.func 99) [.ptr p 0,x] m=some [⟨.tuple [],m'⟩]∧bf lo m' p rid lv' fv (D++xs) L∧FrR m m' p s fv∧jD m.nx m' lv' (D++xs):=by
 obtain⟨q,M1,F,d,t,k,j,b⟩:=ay4 (bytes:=16) I h.lim h.VH h.list M y hb ⟨by omega,by omega⟩;have C:M1.get p=some (l6 [s,iV rid,fv]):=(b p h.pn h.ay6).trans h.at_;have z:=nA h.pn k;have l:D6 q=true:=d.D6;obtain⟨N,O,A,X⟩:=mV (off:=0) t z (by rw [j];exact zu h.lim h.lo_) C (by simp) (v:=q) l;have A:N.get p=some (l6 [q,iV rid,fv]):=A;have f:jD m.nx N q (D++xs):=EW d X.nx λi o n e g a=>X.old i g (by have:=(nH d a).1;have:=h.pn;omega);have c:FrR m N p s fv:=⟨zu k X.nx,by rw [X.lim,j],X.ok,λi g u G _=>(X.old i (by omega) u).trans (b i g G)⟩;have H:jR lo 32 N fv (cellsOf L):=EU h.facts c.nx λi g a=>by refine (X.old i (by omega) ?_).trans (b i g λo n e B=>?_);intro e;subst e;rcases a with⟨o,n,e,a⟩ | ⟨o,n,e,a⟩;exact h.ay7 _ _ _ a;exact Ur h _ _ _ a;rcases a with⟨o,n,e,a⟩ | ⟨o,n,e,a⟩;exact h.acH B (.inl a);exact h.acH B (.inr a)
 refine⟨N,q,?_,⟨A,h.lo_,nA h.pn c.nx,by rw [c.lim];exact h.lim,EX f h.VH,H,λr K=>h.fct c (h.w r K),h.sh⟩,c,f⟩;have J:=h.at_;rw [enter (sf:=f99) rfl rfl];simp [f99,w9,x9,D6,J,F,C,O,l,d.dD,d.cells]
theorem acI {rs:Nat}{m:Mem}{v:d9}{l:List (List d9)}(h:qH m rs v l)(n:Nat):bM (n+1) v v=true:=by have b:∀k,Nat.beq k k=true:=λk=>adH k;rcases h with⟨rfl,_⟩ | ⟨id,o,⟨c,rfl,_⟩ | rfl,_⟩;rfl;show bi (Nat.beq id id) (bi (Nat.beq (o*rs) (o*rs)) (bi (Nat.beq l.length l.length) (Nat.beq c c) false) false) false=true;rw [b,b,b,b];rfl;show bi (Nat.beq id id) (bi (Nat.beq (o*rs) (o*rs)) (bi (Nat.beq l.length l.length) (Nat.beq rs rs) false) false) false=true;rw [b,b,b,b];rfl
theorem Cp.cn {r c:FR}(h:Cp r c):c.cn=r.cn:=by obtain⟨d,g,i,e⟩:=h.f;unfold FR.cn;rw [e,h.a,h.b,h.l]
theorem acJ {lo:Nat}{m:Mem}{p:Nat}{rid:Int}{C fv:d9}{D:List By}{L:List FR}(h:bf lo m p rid C fv D L)(W:m.Ok){r:FR}(I:V3 m r)(hs:r.short)(c:r.valid=true)(hL:L.length<=1000)(hD:D.length<=50000)(n P:Nat)(a6:20001<=P):
  ∃m' lv' fv' r',l8 KW P (n+6) (.func 56) [.ptr p 0,.agg r.f.cells] m=some [⟨.tuple [],m'⟩]∧bf lo m' p rid lv' fv' (D++fT ((L.length+1:Nat):Int) (D8 r)) (L ++ [r'])∧FrR m m' p C fv∧Cp r r'∧
   jD m.nx m' lv' (D++fT ((L.length+1:Nat):Int) (D8 r))∧jR m.nx 32 m' fv' (cellsOf (L ++ [r'])):=by
 have hl:=h.wh;have ab:∀{M:Mem},Ext m M->M.lim<=M.nx:=λE=>by rw [E.lim];exact zu hl E.nx
 have E0:=C8 W [l6 r.f.cells,U7.void];have ho:=I.one;obtain⟨r',M1,g1,E1,g,Q⟩:=Ul E0.ok (ab E0) (I.ext E0) hs (n+3) P (by omega);have E01:=E0.trans E1;have n1:=E1.nx;have q1:M1.get m.nx=some (l6 r.f.cells):=by rw [E1.old _ (by simp),j6 W];rfl
 have q2:M1.get (m.nx+1)=some .void:=by rw [E1.old _ (by simp),l5 W];rfl
 have q3:=(E01.old p h.pn).trans h.at_;have B:m.nx+1<M1.nx:=by simp at n1;omega
 obtain⟨M2,q⟩:∃M,M=M1.set (m.nx+1) (l6 r'.f.cells):=⟨_,rfl⟩;have E02:Ext m M2:=by rw [q];exact E01.set B (by omega) _
 have R:M2.get (m.nx+1)=some (l6 r'.f.cells):=by rw [q,Mem.U6 E01.ok B,if_pos rfl]
 have V:∀i,i<M1.nx->i≠m.nx+1->M2.get i=M1.get i:=λi _ H=>by rw [q,Mem.U6 E01.ok B,if_neg H]
 have G:M2.nx=M1.nx:=by rw [q];simp
 have hk:∀{v:d9} {xs:List Int},Z8 M1 v xs->Z8 M2 v xs:=λc=>by rcases c with c | ⟨id,j,K,h3⟩;exact .inl c;refine .inr ⟨id,j,by rw [G];exact K,?_⟩;rcases h3 with h3 | ⟨n,rows,O,h5⟩;exact .inl h3;exact .inr ⟨n,rows,(V id.1 K (λe=>by rw [e,q2] at O;cases O)).trans O,h5⟩
 have a7:V3 M2 r':=⟨hk g.a,hk g.b,hk g.l,g.ga,g.gb,g.nb⟩;have R2:=h.ext E02;have a9:qH M2 32 (.slice (m.nx+1) 0 1 1) [r'.f.cells]:=.inr ⟨m.nx+1,0,.inl ⟨1,by simp,by simp⟩,by rw [G];exact B,.inr ⟨1,.nd .e r'.f.cells .e,by
  rw [R];show some (U7.cells (len' r'.f.cells) 1 (.nd .e r'.f.cells .e))=_;rw [K4,G5.len],by simp,λr I=>by simp at I;rw [I,G5.len],λi y=>by
  obtain rfl:i=0:=by simpa using y
  rfl⟩⟩
 have T:=g.one;obtain⟨fv',M3,ga,d,F3,t⟩:=aeF (bytes:=304) E02.ok R2.lim R2.VH (by omega) R2.facts a9 (by rw [G5.len]) T (by simp [cellsOf];omega) ⟨by omega,by omega⟩;have a5:cellsOf L ++ [r'.f.cells]=cellsOf (L ++ [r']):=by simp [cellsOf]
 rw [a5] at d;have n3:M2.nx<=M3.nx:=F3.nx;have l3:M3.lim=m.lim:=F3.lim.trans E02.lim;have q4:M3.get p=some (l6 [C,iV rid,fv]):=(t p R2.pn h.ay7).trans R2.at_;have U:=d.slice.D6;obtain⟨N,s1,q5,X⟩:=mV (off:=2) F3.ok (nA R2.pn n3) (by rw [l3];exact zu h.lim h.lo_) q4 (by simp) (v:=fv') U;have q5:N.get p=some (l6 [C,iV rid,fv']):=q5;have nN:M2.nx<=N.nx:=zu n3 X.nx;have k:FrR M2 N p C fv:=⟨nN,by rw [X.lim,F3.lim],X.ok,λi y A _ K=>(X.old i (by omega) A).trans (t i y K)⟩;have x:jR M2.nx 32 N fv' (cellsOf (L ++ [r'])):=EU d X.nx λi y c=>X.old i y λe=>by subst e;have ac:=R2.pn;rcases c with⟨o,n,e,c⟩ | ⟨o,n,e,c⟩;have:=(dF d (.inl c)).1;omega;have:=(dF d (.inr c)).1;omega
 have a3:jD lo N C D:=EW R2.list nN λi o n e y c=>(X.old i (by omega) (λe=>by subst e;exact h.ay6 _ _ _ c)).trans (t i y λo' n' e' hf=>h.acH c (.inl hf));have ae:=E02.nx;have R3:bf lo N p rid C fv' D (L ++ [r']):=⟨q5,h.lo_,nA R2.pn nN,by rw [X.lim,l3];exact h.lim,a3,x.down (by rw [G];exact zu h.VH (by omega)),λs J=>by
   rcases O4.1 J with j | j;exact R2.fct k (R2.w s j);simp at j;rw [j];exact R2.fct k a7,λs J=>by
   rcases O4.1 J with j | j;exact h.sh s j;simp at j;rw [j];exact Q.short hs⟩
 have q6:N.get m.nx=some (l6 r.f.cells):=by
  have H:m.nx≠p:=by have:=h.pn;omega
  rw [k.old m.nx (by rw [G];omega) H (λo n e c=>by have:=(nH h.list c).2.1;omega) (λo n e c=>by have:=(dF h.facts (.inl c)).2.1;omega),V _ (by omega) (by omega)];exact q1
 have a8:V3 N r:=R2.fct k (I.ext E02);obtain⟨v4,M4,g4,E4,O⟩:=TU X.ok (R3.wh) a8 c ((L.length+1:Nat):Int) (by unfold Sm;omega) n P a6;have R4:=R3.ext E4;have ad:(fT ((L.length+1:Nat):Int) (D8 r)).length<=10000:=by have:=eF _ (D8 r) (aA _);have:=fB c;rw [bW];omega
 obtain⟨M5,lv',g5,R5,F5,a2⟩:=alF R4 E4.ok O (by simp [fT]) (by omega) (n+4) P;have n4:=E4.nx;have a0:FrR m M5 p C fv:=⟨by have:=F5.nx;omega,by rw [F5.lim,E4.lim,X.lim,l3],F5.ok,λi y A j K=>by
  rw [F5.old i (by omega) A j (λo n e c=>by have:=(dF x (.inl c)).1;omega),E4.old i (by omega),k.old i (by omega) A j K];exact E02.old i y⟩
 have a1:jR m.nx 32 M5 fv' (cellsOf (L ++ [r'])):=by refine agj R5.facts λi o n e c=>?_;have:=(dF x c).1;omega
 refine⟨M5,lv',fv',r',?_,R5,a0,Q,EX a2 (by omega),a1⟩;have hp:=h.at_;have S:ze fv' (some (d9.int .i64 0)) (λ_ _ n _=>some (iV n)) (λ_ _ n _=>some (iV n))=some (iN (L.length+1)):=by have:=(rH x).len;simpa using this
 have a4:∀z Z Y u F,List.length z=32->U4 32 1 z Z Y u F=ob (lay Z Y u z) λcells=>if cells.length=32 then some (.slice F 0 1 1,some (l6 cells)) else none:=λz Z Y u F h=>dx 32 z Z Y u F h
 rw [show ((L.length+1:Nat):Int)=(L.length:Int)+1 from rfl] at g4;have q0:(ext m [l6 r.f.cells,U7.void]).get p=some (l6 [C,iV rid,fv]):=(E0.old p h.pn).trans h.at_;have aa:=acI h.facts.slice 99;rw [enter (sf:=f56) rfl rfl];simp [f56,w9,x9,D6,xS W hl,q0,aa,g1,q1,q2,q3,a4,← q,ga,d.slice.dD,d.slice.cells,s1,q4,q5,q6,T,U,S,g4,g5,I.one,G5.len,O.dD]
inductive Reach:List FR->List By->List FR->List By->Prop
 | refl {L:List FR} {ws:List By}:Reach L ws L ws
 | step {L L':List FR} {ws ws':List By} {r:FR} (h:Rec (L.length+1) ws r) (hf:uh L r=true) (k:Reach (L ++ [r]) (ws.drop (P6 r)) L' ws'):Reach L ws L' ws'
theorem Reach.drop {L L':List FR}{ws a:List By}(h:Reach L ws L' a):∃j,a=ws.drop j:=by
 induction h with
 | refl=>exact⟨0,rfl⟩
 | step _ _ _ ih=>obtain⟨j,e⟩:=ih;exact⟨_,by rw [e,am2]⟩
structure Us (v:d9)(L:List FR)(ws:List By):Prop where
 w:∀w∈ws,w.length<=1000
 z:∀L' ws',Reach L ws L' ws'->Kn v∨∀k,jT ws'=some k->k≠0
 j:∀L' ws',Reach L ws L' ws'->∀k,jT ws'=some k->((ws'.drop 1).take k).flatten.length<=16000
theorem Us.drop {v d:d9}{L:List FR}{ws:List By}(h:Us v L ws){r:FR}(c:Rec (L.length+1) ws r)(b:uh L r=true)(e:Kn v->Kn d):Us d (L ++ [r]) (ws.drop (P6 r)):=
 ⟨λw f=>h.w w (afP f),λL' a k=>(h.z L' a (.step c b k)).imp e λz=>z,λL' a k=>h.j L' a (.step c b k)⟩
def Dsk (lo:Nat)(m:Mem)(v:d9)(ws:List By):Prop:=(ws=[]∧DkE m v [])∨(xR m v ws∧Um lo v)
theorem Dsk.e {lo:Nat}{m:Mem}{v:d9}{ws:List By}(h:Dsk lo m v ws):DkE m v ws:=by rcases h with⟨rfl,h⟩ | ⟨h,_⟩;exact h;exact .inl h
theorem agk {rid:Int}{p lo:Nat}(n E:Nat)(H:20001<=E):∀(k:Nat) (ws:List By),ws.length<=k->ws.length<=10000->∀(N:Nat),k<N->∀(M:Mem) (dv lv fv:d9) (L:List FR),bf lo M p rid lv fv (J4 1 L) L->M.Ok->Dsk lo M dv ws->Us dv L ws->Grown L->L.length<=200->(J4 1 L).length+ws.length<=20000->
  ∀(a1 a3 a5 a6 a7 a8 a9:d9),∃b2 b3 b5 b6 b7 b8 M' lv' fv' L',T9 (λenv m k=>FQ (l8 KW E (n+14)) E none env m k) N (zQ (iV rid) a1 dv a3 (.ptr p 0) a5 a6 a7 a8 a9 i0) M []=some [⟨.ret,(zQ (iV rid) a1 b2 b3 (.ptr p 0) b5 b6 b7 b8 (.ptr p 0) i0),M',[],none⟩]∧
   M'.Ok∧bf lo M' p rid lv' fv' (J4 1 L') L'∧QY L ws L'∧Grown L'∧L'.length<=201∧Fr lo lo M M':=by
 intro k;induction k with
 | zero=>
  intro ws hk hw N hN M dv lv fv L R hM O B hg hL hD a1 a3 a5 a6 a7 a8 a9;obtain⟨N,rfl⟩:∃j,N=j+1:=⟨N-1,by omega⟩;obtain rfl:ws=[]:=acS.1 (by omega);have hm:=hM;have hl:=R.wh;have P:=R.at_;have g:=(rH R.facts).len;obtain⟨q,C⟩:∃q,q=L.length+1:=⟨_,rfl⟩;have u:=ah C (by omega);rcases acG hM hl O.e hw B.w (B.z L _ .refl) (B.j L _ .refl) q (by omega) n E H with⟨r,M1,g1,E1,J,hs,hrec⟩ | ⟨M1,g1,E1,hno⟩;have:=hrec.head;cases this
  ·have d:=E1.ok;have t:=(R.ext E1).wh;have E2:=C8 d [l6 zr];refine⟨dv,a3,fV,.ptr M1.nx 0,tV,i0,ext M1 [l6 zr],lv,fv,L,?_,E2.ok,(R.ext E1).ext E2,.stop λr J=>absurd (C▸J) (hno r),hg,by omega,(E1.trans E2).fr R.VH⟩
   rotate_left
   rw [o9];simp [FQ,w9,x9,D6,xS d t,P,g,u,g1]
 | succ k ih=>
  intro ws hk hw N hN M dv lv fv L R hM O B hg hL hD a1 a3 a5 a6 a7 a8 a9;obtain⟨N,rfl⟩:∃j,N=j+1:=⟨N-1,by omega⟩;have hm:=hM;have hl:=R.wh;have P:=R.at_;have g:=(rH R.facts).len;obtain⟨q,C⟩:∃q,q=L.length+1:=⟨_,rfl⟩;have u:=ah C (by omega);rcases acG hM hl O.e hw B.w (B.z L _ .refl) (B.j L _ .refl) q (by omega) n E H with⟨r,M1,g1,E1,J,hs,hrec⟩ | ⟨M1,g1,E1,hno⟩
  ·have d:=E1.ok;have R1:=R.ext E1;have t:=R1.wh;have E2:=C8 d [l6 r.f.cells];have R2:=R1.ext E2;have ho:=J.one;obtain⟨M3,W,E3⟩:=alD (r:=r) E2.ok R2.wh R2.pn R2.at_ (rH R2.facts) R2.good (by omega) (n+12) E (by omega);have R3:=R2.ext E3;have q3:M3.get M1.nx=some (l6 r.f.cells):=by rw [E3.old _ (by simp),j6 d];rfl
   cases hf:uh L r with
   | false=>
    rw [hf] at W;refine⟨dv,a3,tV,.ptr M1.nx 0,tV,(iN ((P6 r))),M3,lv,fv,L,?_,E3.ok,R3,.stop λr' A=>?_,hg,by omega,((E1.trans E2).trans E3).fr R.VH⟩
    rotate_left
    rw [← C] at A;rw [vE rfl (hrec.2.uniq A.2).symm];exact hf;rw [o9];simp [FQ,w9,x9,D6,xS d t,P,g,u,g1,ho,W,G5.len]
   | true=>
    rw [hf] at W;have ag:=(J.ext E2).ext E3;obtain⟨M4,ac,V,r',g4,R4,F4,s,ae,al⟩:=acJ R3 E3.ok ag hs hrec.2.valid (by omega) (by omega) (n+8) E H;have v:P6 r<=ws.length:=by obtain⟨ak,e⟩:=hrec.2.pre;rw [e,U1,bW];unfold P6;omega
    have am:1<=P6 r:=(by unfold P6;omega);have I:ws≠[]:=λe=>(by rw [e] at v;simp at v;omega);have y:=uj s.cn;have a0:J4 1 L++fT ((L.length+1:Nat):Int) (D8 r)=J4 1 (L ++ [r']):=by rw [vF,y,an6 1]
    rw [a0] at R4 ae;have E13:=(E1.trans E2).trans E3;have dk:xR M4 dv ws∧Um lo dv:=by
     rcases O with⟨e,_⟩ | ⟨O,hlo⟩;exact absurd e I;refine⟨(O.ext E13).keep F4.nx λid af hv=>?_,hlo⟩;have aj:id<lo:=by rcases hv with⟨o,l,c,e⟩ | ⟨o,l,c,e⟩;exact hlo.1 _ _ _ _ e;exact hlo.2 _ _ _ _ e
     refine F4.old id af (by have:=R.lo_;omega) (λo n e u=>?_) (λo n e u=>?_);have:=(nH R.list u).1;omega;have:=(dF R.facts (.inl u)).1;omega
    obtain⟨S,b,cl,hb,aa⟩:=agf F4.ok dk.1 (P6 r) I v;have Q:=λ(x a:OF) (ls:List d9) (env:T d9) (hx:x ls env=dv) (ha:a ls env=(iN ((P6 r))))=>(alE hx ha M4.nx).trans cl;have a4:Grown (L ++ [r']):=by refine .snoc hg ?_ ?_;have:r'.cn.valid=r.cn.valid:=(by rw [s.cn]);rw [fK,fK] at this;rw [this];exact hrec.2.valid;rw [vE rfl s.cn];exact hf
    have Z:(L ++ [r']).length<=200:=by have:=hrec.1;simp;omega
    have ai:(ws.drop (P6 r)).length=ws.length-P6 r:=(by simp);have Y:(J4 1 (L ++ [r'])).length+(ws.drop (P6 r)).length<=20000:=by rw [← a0,U1,bW,ai];have:P6 r=(chunks (D8 r)).length+1:=rfl;omega
    have ab:Rec (L.length+1) ws r':=⟨by have:=hrec.1;omega,by
      have G:=hrec.2;rw [C] at G;exact⟨by
       have:r'.cn.valid=r.cn.valid:=(by rw [s.cn]);rw [fK,fK] at this;rw [this];exact G.valid,by rw [y];exact G.pre⟩⟩
    have a2:uh L r'=true:=(by rw [vE rfl s.cn];exact hf);have D:P6 r'=P6 r:=(by unfold P6;rw [y]);have ad:∀{X:List FR},QY (L ++ [r']) (ws.drop (P6 r)) X->QY L ws X:=λ{X} h=>by
     have A:Rec (L.length+1) ws r':=⟨by have:=hrec.1;omega,by
      have G:=hrec.2;rw [C] at G;exact⟨by
       have:r'.cn.valid=r.cn.valid:=(by rw [s.cn]);rw [fK,fK] at this;rw [this];exact G.valid,by rw [y];exact G.pre⟩⟩
     have e:P6 r'=P6 r:=(by unfold P6;rw [y]);exact .step A (by rw [vE rfl s.cn];exact hf) (by rw [e];exact h)
    have U:Fr lo lo M M4:=(E13.fr R.VH).trans ⟨F4.ok,F4.nx,F4.lim,λi hi I=>F4.old i (nA hi R3.VH) (by have:=R.lo_;omega) (λo n e u=>by have:=(nH R.list u).1;omega) (λo n e u=>by have:=(dF R.facts (.inl u)).1;omega)⟩;rcases hb with⟨rfl,hdk2,hlo2⟩ | ⟨i,rfl,hde,hnil⟩;obtain⟨b2,b3,b5,b6,b7,b8,M5,K,F,L5,g5,z1,z2,z3,z4,z5,z6⟩:=ih (ws.drop (P6 r)) (by omega) (by omega) N (by omega) M4 S ac V (L ++ [r']) R4 F4.ok (.inr ⟨hdk2,hlo2 lo dk.2⟩) (D▸B.drop ab a2 aa) a4 Z Y a1 a3 tV (.ptr M1.nx 0) fV (iN ((P6 r))) a9;refine⟨b2,b3,b5,b6,b7,b8,M5,K,F,L5,?_,z1,z2,ad z3,z4,z5,U.trans z6⟩;rw [o9,← g5];simp [FQ,w9,x9,D6,xS d t,P,g,u,g1,ho,W,q3,g4,Q,G5.len];have E5:Ext M4 (M4.new (.tail i)):=(Ext.refl F4.ok).new _;obtain⟨b2,b3,b5,b6,b7,b8,M5,K,F,L5,g5,z1,z2,z3,z4,z5,z6⟩:=ih (ws.drop (P6 r)) (by omega) (by omega) N (by omega) (M4.new (.tail i)) S ac V (L ++ [r']) (R4.ext E5) E5.ok (.inl ⟨hnil,by rw [hnil] at hde;exact hde⟩) (D▸B.drop ab a2 aa) a4 Z Y a1 a3 tV (.ptr M1.nx 0) fV (iN ((P6 r))) a9;refine⟨b2,b3,b5,b6,b7,b8,M5,K,F,L5,?_,z1,z2,ad z3,z4,z5,(U.trans (E5.fr R4.VH)).trans z6⟩;rw [o9,← g5];simp [FQ,w9,x9,D6,xS d t,P,g,u,g1,ho,W,q3,g4,Q,G5.len]
  ·have d:=E1.ok;have t:=(R.ext E1).wh;have E2:=C8 d [l6 zr];refine⟨dv,a3,fV,.ptr M1.nx 0,tV,i0,ext M1 [l6 zr],lv,fv,L,?_,E2.ok,(R.ext E1).ext E2,.stop λr J=>absurd (C▸J) (hno r),hg,by omega,(E1.trans E2).fr R.VH⟩
   rotate_left
   rw [o9];simp [FQ,w9,x9,D6,xS d t,P,g,u,g1]
theorem Ut {m:Mem}(o:m.Ok)(t:m.lim<=m.nx){b:d9}{ws:List By}(r:Dsk m.nx m b ws)(ok:ws.length<=4000->Us b [] ws)(id:Int)(n d:Nat)(l:20001<=d):
  (¬ (1<=id∧id<=6)∧l8 KW d (n+15) (.func 21) [iV id,b] m=some [⟨.tuple [.nilPtr,iV 1],m⟩])∨
  ((1<=id∧id<=6)∧4000<ws.length∧l8 KW d (n+15) (.func 21) [iV id,b] m=some [⟨.tuple [.nilPtr,iV 2],m⟩])∨
  ((1<=id∧id<=6)∧ws.length<=4000∧∃m' lv fv L,l8 KW d (n+15) (.func 21) [iV id,b] m=some [⟨.tuple [.ptr m.nx 0,i0],m'⟩]∧Ext m m'∧bf m.nx m' m.nx id lv fv (J4 1 L) L∧QY [] ws L∧Grown L∧L.length<=201):=by
 have a:=r.e.vs.len;rw [J3] at a;have c:=cB (n+13) d id 1 6 m;rw [enter (sf:=f21) rfl rfl];by_cases h1:1<=id∧id<=6;have j:(decide (1<=id)&&decide (id<=6))=true:=by simp [h1]
 rw [j] at c;by_cases h3:4000<ws.length;have f:(4000:Int)<(ws.length:Int):=by omega
 refine .inr (.inl ⟨h1,h3,?_⟩);simp [f21,w9,x9,D6,c,a,h3,f];have f:¬ (4000:Int)<(ws.length:Int):=by omega
 have E0:=C8 o [l6 [nS,iV id,nS]];have R0:bf m.nx (ext m [l6 [nS,iV id,nS]]) m.nx id nS nS (J4 1 []) []:=
  ⟨by rw [j6 o];rfl,aA _,by simp,t,.inl ⟨rfl,rfl⟩,.inl ⟨rfl,rfl⟩,by simp,by simp⟩
 have k:Dsk m.nx (ext m [l6 [nS,iV id,nS]]) b ws:=by rcases r with⟨e,h⟩ | ⟨h,h'⟩;exact .inl ⟨e,h.ext E0⟩;exact .inr ⟨h.ext E0,h'⟩
 obtain⟨z,A,B,C,D,E,M',lv,fv,L,g,u,v,w,x,y,q⟩:=agk (rid:=id) (p:=m.nx) (lo:=m.nx) n d l ws.length ws (aA _) (by omega) d (by omega) _ b nS nS [] R0 E0.ok k (ok (by omega)) .nil (by simp) (by simp [J4];omega) fV fV uV uV uV uV (.nilPtr);refine .inr (.inr ⟨h1,by omega,M',lv,fv,L,?_,⟨u,zu E0.nx q.nx,q.lim.trans E0.lim,λi s=>(q.old i s (by omega)).trans (E0.old i s)⟩,v,w,x,y⟩);simp [f21,w9,x9,D6,xS o t,c,a,h3,f,g];have j:(decide (1<=id)&&decide (id<=6))=false:=by rw [Bool.and_eq_false_iff,decide_eq_false_iff_not,decide_eq_false_iff_not];omega
 rw [j] at c;refine .inl ⟨h1,?_⟩;simp [f21,w9,x9,D6,c]
theorem EY:∀(n:Nat) (s:By),s.length<=n->64*(chunks s).length<=s.length+63
 | 0,s,h=>by obtain rfl:=acS.1 (show s.length=0 by omega);simp [cK]
 | n+1,s,h=>by by_cases hs:s=[];subst hs;simp [cK];have hp:=acC.2 hs;rw [jo hs];have:=EY n (s.drop 64) (by simp;omega);by_cases h2:s.length<=64;have e:s.drop 64=[]:=O5 h2;rw [e] at this ⊢;simp [cK];omega;simp at this ⊢;omega
theorem zI (r:FR):D8 r≠[]:=by unfold D8;intro e;have:=congrArg List.length e;simp at this
theorem vG {s:By}(h:s≠[]):1<=(chunks s).length:=by rw [jo h];simp
structure JD (lo:Nat)(m:Mem)(pr ps:Nat)(rid:Int)(fv:d9)(L:List FR):Prop where
 at_:m.get ps=some (l6 [iV rid,fv])
 res:m.get pr=some (l6 [i0,nS])
 lr:lo<=pr
 ls:lo<=ps
 ne:pr≠ps
 rn:pr<m.nx
 sn:ps<m.nx
 lim:m.lim<=lo
 facts:jR lo 32 m fv (cellsOf L)
 w:∀r,r∈L->V3 m r
 sh:∀r,r∈L->r.short
section
variable {lo:Nat}{m:Mem}{pr ps:Nat}{rid:Int}{fv:d9}{L:List FR}
theorem JD.ext {a:Mem}(h:JD lo m pr ps rid fv L)(e:Ext m a):JD lo a pr ps rid fv L:=
 ⟨(e.old ps h.sn).trans h.at_,(e.old pr h.rn).trans h.res,h.lr,h.ls,h.ne,nA h.rn e.nx,nA h.sn e.nx,by rw [e.lim];exact h.lim,h.facts.ext e,λr b=>(h.w r b).ext e,h.sh⟩
theorem JD.VH (h:JD lo m pr ps rid fv L):lo<=m.nx:=zu h.ls (agI h.sn)
theorem JD.wh (h:JD lo m pr ps rid fv L):m.lim<=m.nx:=zu h.lim h.VH
theorem JD.no (h:JD lo m pr ps rid fv L){i o n e:Nat}(c:fv=.sliceU i o n e∨fv=.slice i o n e):i≠ps∧i≠pr∧lo<=i:=by
 obtain⟨a,_,k,t,q⟩:=dF h.facts c;refine⟨λe=>?_,λe=>?_,a⟩;subst e;have:=lN (b:=2) q h.at_;omega
 subst e;have:=lN (b:=2) q h.res;omega
theorem JD.sl {c:Mem}(h:JD lo m pr ps rid fv L)(f:m.nx<=c.nx)(g:∀i,i<m.nx->i≠ps->(∀o n e,fv≠.sliceU i o n e)->c.get i=m.get i){v:d9}{xs:List Int}(a:Z8 m v xs):Z8 c v xs:=by rcases a with a | ⟨id,h1,h2,h3⟩;exact .inl a;refine .inr ⟨id,h1,nA h2 f,?_⟩;rcases h3 with h3 | ⟨n,rows,h4,h5,h6⟩;exact .inl h3;refine .inr ⟨n,rows,(g id.1 h2 (λe=>?_) (λo k e d=>?_)).trans h4,h5,h6⟩;have:=lN (b:=2) h4 (by rw [e];exact h.at_);omega;obtain⟨_,_,j,t,q⟩:=dF h.facts (.inl d);have:=lN h4 q;omega
end
end Go.Proofs.YtfnlnpllpfhhnaaGreatDoor.TT
