/- Functions of the program and of the specification, walked; conditions: the memory holds what the arguments say. -/
import Derived.Test.YtfnlnpllpfhhnaaGreatDoorPD3
set_option linter.all false
namespace Go.Proofs.YtfnlnpllpfhhnaaGreatDoor.TT
open Go Go.AM
set_option maxRecDepth 100000
set_option maxHeartbeats 16000000
theorem alr {m:Mem}{v:d9}{xs:List d9}(h:dV m v xs):∀i o l c,(v=.slice i o l c∨v=.sliceU i o l c)->i<m.nx:=by
 rcases h with⟨rfl,_⟩ | ⟨id,off,h1,h2,_⟩;rintro i o l c (h | h)<;>cases h
 rintro i o l c hv;rcases h1 with⟨c',h1,_⟩ | h1<;>subst h1<;>rcases hv with hv | hv<;>cases hv<;>exact h2
def Dis (a b:d9):Prop:=∀i,(∃o l c,a=.slice i o l c∨a=.sliceU i o l c)->¬ ∃o l c,b=.slice i o l c∨b=.sliceU i o l c
theorem Dis.symm {a b:d9}(h:Dis a b):Dis b a:=λi c d=>h i d c
theorem afV {m:Mem}{v w:d9}{xs e:List By}(r:dV m v (strs xs))(z:dV m w (strs e))(F:xs.length=e.length)(hb:xs.length<=100000)(cf:H8)(n:Nat):∀(j i:Nat),i+j=xs.length->∀(a2 a4 a5:d9) (N:Nat),j+1<=N->
  (xs.drop i=e.drop i∧∃(b5:d9),T9 (λenv m k=>xM cf n none env m k) N (Vk v w a2 (iV (i:Int)) a4 a5 fV) m []=some [⟨.exit 0,(Vk v w a2 (iV (xs.length:Int)) fV b5 fV),m,[],none⟩])∨
  (xs.drop i≠e.drop i∧∃(b3 b4 b5:d9),T9 (λenv m k=>xM cf n none env m k) N (Vk v w a2 (iV (i:Int)) a4 a5 fV) m []=some [⟨.ret,(Vk v w a2 b3 b4 b5 fV),m,[],none⟩]):=by
 intro j;induction j with
 | zero=>
  intro i E a2 a4 a5 N C;obtain⟨N,rfl⟩:∃k,N=k+1:=⟨N-1,by omega⟩;obtain rfl:i=xs.length:=by omega
  have a:=r.len;rw [J3] at a;refine .inl ⟨by rw [O5 (aA _),O5 (by omega)],a5,?_⟩;rw [o9];simp [xM,a]
 | succ j ih=>
  intro i E a2 a4 a5 N C;obtain⟨N,rfl⟩:∃k,N=k+1:=⟨N-1,by omega⟩;have b:i<xs.length:=by omega
  have c:i<e.length:=by omega
  have a:=r.len;rw [J3] at a;obtain⟨id,o,s,_,t⟩:=r.at (i:=i) (by rw [J3];exact b);have l:(strs xs)[i]'(by rw [J3];exact b)=.str xs[i]:=by simp [strs]
  rw [l] at t;simp at s;obtain⟨G,H,u,_,x⟩:=z.at (i:=i) (by rw [J3];exact c);have f:(strs e)[i]'(by rw [J3];exact c)=.str e[i]:=by simp [strs]
  rw [f] at x;simp at u;have y:decide ((i:Int)<(xs.length:Int))=true:=decide_eq_true (by omega);have A:=λ{β:Type} (p:d9->β) q=>r.dD p q;have B:=λ{β:Type} (p:d9->β) q=>z.dD p q;rw [Q6 b,Q6 c];by_cases hq:xs[i]=e[i];have d:∀R:Option (List Out),T9 (λenv m k=>xM cf n none env m k) N (Vk v w a2 (iN (i+1)) tV fV fV) m []=R->T9 (λenv m k=>xM cf n none env m k) (N+1) (Vk v w a2 (iV (i:Int)) a4 a5 fV) m []=R:=λR D=>by rw [o9,← D];simp [xM,y,b,a,s,t,u,x,A,B,hq,dZ (i:=i) (by omega)]
  rcases ih (i+1) (by omega) a2 tV fV N (by omega) with⟨h1,b5,g⟩ | ⟨h1,b3,b4,b5,g⟩;exact .inl ⟨by rw [hq,h1],b5,d _ g⟩;exact .inr ⟨λh=>h1 (by injection h),b3,b4,b5,d _ g⟩;refine .inr ⟨λh=>hq (by injection h),iV (i:Int),tV,tV,?_⟩;rw [o9];simp [xM,y,b,a,s,t,u,x,A,B,hq]
theorem als {m:Mem}{v w:d9}{xs ys:List By}(j:dV m v (strs xs))(l:dV m w (strs ys))(hb:xs.length<=4000)(n a:Nat)(o:50001<=a):l8 KW a (n+1) (.func 17) [v,w] m=some [⟨.bool (decide (xs=ys)),m⟩]:=by
 have d:=j.len;have e:=l.len;rw [J3] at d e;rw [enter (sf:=f17) rfl rfl];by_cases hxy:xs.length=ys.length;rcases afV j l hxy (by omega) (l8 KW a n) a xs.length 0 (by omega) fV uV uV a (by omega) with⟨b,b5,g⟩ | ⟨b,b3,b4,b5,g⟩;have f:T9 (λc m k=>xM (l8 KW a n) a none c m k) a (Vk v w fV i0 uV uV fV) m []=_:=g;have b:xs=ys:=by simpa using b
 simp [f17,d,e,hxy,f,b];have f:T9 (λc m k=>xM (l8 KW a n) a none c m k) a (Vk v w fV i0 uV uV fV) m []=_:=g;have b:¬ xs=ys:=by simpa using b
 have i:((xs.length:Nat):Int)=(ys.length:Int):=by omega
 simp [f17,d,e,hxy,f,b];have b:¬ xs=ys:=λh=>hxy (by rw [h]);have i:¬ ((xs.length:Nat):Int)=(ys.length:Int):=by omega
 simp [f17,d,e,hxy,i,b]
structure TxH (m:Mem)(r:FR)(n fu:Nat)(m1:Mem):Prop where
 g:l8 KW fu (n+17) (.func 49) [.str [102,97,99,116],.slice (m.nx+1) 0 4 4] (ext m [l6 r.f.cells,.cells 1 4 (T.ofList [[iV r.f.room],[iV r.f.no],[iV r.f.known],[iV r.f.kind]])])=some [⟨.str (G7 J9 (H7 r)),m1⟩]
 E:Ext m m1
 q:m1.get m.nx=some (l6 r.f.cells)
 nx:m.nx+2<=m1.nx
 s1:gy (G7 J9 (H7 r)) [10]=some (.str (G7 J9 (H7 r) ++ [10]))
 s2:gy (G7 J9 (H7 r) ++ [10]) (Z4 r)=some (.str (G7 J9 (H7 r)++10::Z4 r))
 s3:gy (G7 J9 (H7 r)++10::Z4 r) [10]=some (.str (D8 r))
set_option maxHeartbeats 40000000
theorem uf (m:Mem)(i:Nat):VQ m i none=m:=rfl
def FR.Js (r s:FR):Bool:=decide (r.f.room=s.f.room)&&decide (r.f.no=s.f.no)
def FR.same (r s:FR):Bool:=aL r.f s.f r.a r.b r.l s.a s.b s.l
theorem V3.one {m:Mem}{r:FR}(h:V3 m r):I6 r.f.cells=true:=by have d:=h.a.D6;have e:=h.b.D6;have g:=h.l.D6;have c:∀k x,D6 (.int k x)=true:=λ_ _=>rfl;simp [G5.cells,d,e,g,c,-G5.iQ]
def FR.short (r:FR):Prop:=r.a.length<20000∧r.b.length<20000∧r.l.length<20000
theorem V3.sh {m:Mem}{r:FR}(h:V3 m r)(hs:r.short):aX m r.f r.a r.b r.l:=h.at' hs.1 hs.2.1 hs.2.2
def Dq (a b:Int):Int:=if a<b then -1 else if b<a then 1 else 0
theorem NN (n b:Nat)(a:Int)(m:Mem):l8 KW b (n+1) (.func 267) [iV a] m=some [⟨fV,m⟩]:=by rw [enter (sf:=f267) rfl rfl];simp [f267]
theorem afW (n c:Nat)(a b:Int)(m:Mem):l8 KW c (n+2) (.func 186) [iV a,iV b] m=some [⟨iV (Dq a b),m⟩]:=by rw [enter (sf:=f186) rfl rfl];by_cases h:a<b;simp [f186,NN,Dq,h];by_cases h':b<a;simp [f186,NN,Dq,h,h'];simp [f186,NN,Dq,h,h']
theorem afX (n d:Nat)(p:1000<=d)(a b:Int)(m:Mem)(id c:Nat)(rows:T (List d9))(l:m.get id=some (.cells 1 2 rows))(h0:rows.get 0=some [iV a])(o:rows.get 1=some [iV b]):
  l8 KW d (n+1) (.func 185) [.slice id 0 2 c] m=some [⟨iV (if a=0 then b else a),m⟩]:=by
 rw [enter (sf:=f185) rfl rfl];obtain⟨d,rfl⟩:∃k,d=k+3:=⟨d-3,by omega⟩;have f:ld1 (m.get id) 0=some (iV a):=by rw [l];exact gU (rs:=1) (n:=2) (rows:=rows) (i:=0) (j:=0) (by omega) (by omega) h0
 have g:ld1 (m.get id) 1=some (iV b):=by rw [l];exact gU (rs:=1) (n:=2) (rows:=rows) (i:=1) (j:=0) (by omega) (by omega) o
 have e:∀(k:Nat->Option d9),idx 2 i0 k=k 0:=λk=>V6 2 0 k (by omega);have h:∀(k:Nat->Option d9),idx 2 (iV 1) k=k 1:=λk=>V6 2 1 k (by omega);by_cases ha:a=0;by_cases hb:b=0;simp [f185,Je,o9,f,g,e,h,ha,hb,show sP 1=1 from rfl,show sP 2=2 from rfl];simp [f185,Je,o9,f,g,e,h,ha,hb,show sP 1=1 from rfl,show sP 2=2 from rfl];simp [f185,Je,o9,f,g,e,h,ha,show sP 1=1 from rfl,show sP 2=2 from rfl]
def afY (a b c d:Int):Int:=if Dq a c=0 then Dq b d else Dq a c
def FR.ord (x y:FR):Int:=afY x.f.room x.f.no y.f.room y.f.no
theorem afZ {m:Mem}(j:m.Ok)(o:m.lim<=m.nx)(n h:Nat)(i:1000<=h)(a b c d:Int):
  ∃m',l8 KW h (n+3) (.func 106) [.agg [iV a,iV b],.agg [iV c,iV d]] m=some [⟨iV (afY a b c d),m'⟩]∧Ext m m':=by
 rw [enter (sf:=f106) rfl rfl];have E:=C8 j [l6 [iV a,iV b],l6 [iV c,iV d],.cells 1 2 (T.ofList [[iV (Dq a c)],[iV (Dq b d)]])];have g:=afX (n+1) h i (Dq a c) (Dq b d) (ext m [l6 [iV a,iV b],l6 [iV c,iV d],.cells 1 2 (T.ofList [[iV (Dq a c)],[iV (Dq b d)]])]) (m.nx+2) 2 _ (by rw [l5 j];rfl) rfl rfl;have l:∀(ps:List (Nat×Nat×OF)) ls env nid,U4 1 2 [iV (.ofNat 0)] ps ls env nid=ob (lay ps ls env [i0,i0]) λe=>kT 1 2 e λb=>some (.slice nid 0 2 2,some b):=λ_ _ _ _=>rfl;have f:=l;rw [show (Int.ofNat 0)=0 from rfl] at f;have p:∀(x y:d9) (k:U7->Option (d9×Option U7)),kT 1 2 [x,y] k=k (.cells 1 2 (T.ofList [[x],[y]])):=λ_ _ _=>rfl;exact⟨_,by simp [f106,eO j o,D6,afW,l,f,p,g,afY,P8],E⟩
end Go.Proofs.YtfnlnpllpfhhnaaGreatDoor.TT
