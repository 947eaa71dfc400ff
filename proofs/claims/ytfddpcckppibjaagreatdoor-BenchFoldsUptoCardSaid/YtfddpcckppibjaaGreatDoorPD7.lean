/- Folding of the specification, and the law BenchFolds: it answers true on statements of a bounded bulk; conditions: the memory holds what the arguments say. -/
import Derived.Test.YtfddpcckppibjaaGreatDoorPD6
set_option linter.all false
namespace Go.Proofs.YtfddpcckppibjaaGreatDoor.TT
open Go Go.AM
set_option maxRecDepth 100000
set_option maxHeartbeats 16000000
theorem ag1 (x:Int)(n fu:Nat)(m:Mem):l7 KW fu (n+1) (.func 42) [iV x] m=some [⟨.bool (jL x),m⟩]:=by rw [enter (sf:=f42) rfl rfl];by_cases h:-9007199254740992<=x<;>simp [f42,jL,h]
theorem Rh (b:Bool)(n fu:Nat)(m:Mem):l7 KW fu (n+1) (.func 76) [.bool b] m=some [⟨iV (pR b),m⟩]:=by rw [enter (sf:=f76) rfl rfl];cases b<;>simp [f76,pR]
theorem ag2 (a b:Int)(n fu:Nat)(m:Mem):l7 KW fu (n+1) (.func 77) [iV a,iV b] m=some [⟨iV (nk a b),m⟩]:=by rw [enter (sf:=f77) rfl rfl];unfold nk;by_cases h:a=0<;>simp [f77,h]
theorem ac3 (x:Int)(n fu:Nat)(m:Mem):l7 KW fu (n+2) (.func 132) [iV x] m=some [⟨.tuple [.int .i64 (JH x).1,.int .i64 (JH x).2],m⟩]:=by have g:=ag1 x n fu m;rw [enter (sf:=f132) rfl rfl];unfold JH;cases h:jL x;rw [h] at g;simp [f132,g];rw [h] at g;simp [f132,g]
theorem ac4 {a b:Int}(h:jL a=true)(hb:jL b=true)(n fu:Nat)(m:Mem):l7 KW fu (n+1) (.func 131) [iV a,iV b] m=some [⟨.tuple [.int .i64 (Gh a b).1,.int .i64 (Gh a b).2],m⟩]:=by
 rw [enter (sf:=f131) rfl rfl];have o:=qz h;have p:=qz hb;simp only [jL,Hl,decide_eq_true_eq] at h hb;by_cases h1:a=0;subst h1;have e:Gh 0 b=(0,0):=by unfold Gh bM;simp
 have c:Mr .i64 0 b=some (iV 0):=by show some (d9.int .i64 (iP (0*b)))=_;rw [Int.zero_mul];rfl
 rw [e];simp [f131,c];by_cases h2:b=0;subst h2;have e:Gh a 0=(0,0):=by unfold Gh bM;simp
 have c:Mr .i64 a 0=some (iV 0):=by show some (d9.int .i64 (iP (a*0)))=_;rw [Int.mul_zero];rfl
 rw [e];simp [f131,h1,c];have k:lY .i64 (-a)=-a:=K6 (n:=-a) (by omega) (by omega);have l:lY .i64 (-b)=-b:=K6 (n:=-b) (by omega) (by omega);have i:=SX a;have j:=SX b;have f:0<bM a:=by unfold bM;omega
 have q:DW .i64 9007199254740992 (bM a)=some (iV (9007199254740992 / bM a)):=by rw [LK (by omega) (by decide),SY f]
 by_cases h3:9007199254740992<bM a*bM b;have e:Gh a b=(0,3):=by unfold Gh;rw [if_pos h3]
 have d:decide (9007199254740992 / bM a<bM b)=true:=decide_eq_true ((LM f).2 (by rw [Int.mul_comm];exact h3));rw [e];simp [f131,h1,h2,Tt,yR,k,l,i,j,q,d,Ak];have e:Gh a b=(a*b,0):=by unfold Gh;rw [if_neg h3]
 have d:decide (9007199254740992 / bM a<bM b)=false:=decide_eq_false λx=>h3 (by rw [Int.mul_comm];exact (LM f).1 x);have g:=LH a b;have c:Mr .i64 a b=some (iV (a*b)):=by show some (d9.int .i64 (iP (a*b)))=_;rw [K6 (by unfold bM at g h3;omega) (by unfold bM at g h3;omega)]
 rw [e];simp [f131,h1,h2,Tt,yR,k,l,i,j,q,d,Ak,c]
theorem YO {x:Int}(h:jL x=true):JH x=(x,0):=by unfold JH;rw [if_pos h]
theorem ag3 {k a b:Int}(s:6<=k)(t:k<=16)(g:jL a=true)(hb:jL b=true)(n fu:Nat)(m:Mem):l7 KW fu (n+3) (.func 78) [iV k,iV a,iV b] m=some [⟨.tuple [.int .i64 (BH k a b).1,.int .i64 (BH k a b).2],m⟩]:=by
 have f:=ac4 g hb (n+1) fu m;have c:=λx=>ac3 x n fu m;have d:=λx=>Rh x (n+1) fu m;have i:=g;have j:=hb;simp only [jL,Hl,decide_eq_true_eq] at i j;have w:iP (a+b)=a+b:=K6 (by omega) (by omega);have r:rT .i64 a b=some (iV (a-b)):=by show some (d9.int .i64 (iP (a-b)))=_;rw [K6 (by omega) (by omega)]
 have l:b≠0->DW .i64 a b=some (iV (a.tdiv b)):=λh=>LK h g;have o:b≠0->Tp .i64 a b=some (iV (a.tmod b)):=λh=>YA h;have p:b≠0->JH (a.tdiv b)=(a.tdiv b,0):=λh=>YO (Gi (aj9 (Gj a b h) (qz g)));have q:JH (a.tmod b)=(a.tmod b,0):=YO (Gi (aj9 (OO a b) (qz g)));rw [enter (sf:=f78) rfl rfl];obtain rfl | rfl | rfl | rfl | rfl | rfl | rfl | rfl | rfl | rfl | rfl:k=6∨k=7∨k=8∨k=9∨k=10∨k=11∨k=12∨k=13∨k=14∨k=15∨k=16:=by omega
 have e:BH 6 a b=Gh a b:=rfl;simp [f78,f,e];have e:BH 7 a b=dvB a b:=rfl;rw [e];unfold dvB;by_cases h:b=0;simp [f78,h];simp [f78,h,l h,c,p h];have e:BH 8 a b=mdB a b:=rfl;rw [e];unfold mdB;by_cases h:b=0;simp [f78,h];simp [f78,h,o h,c,q];have e:BH 9 a b=JH (a+b):=rfl;simp [f78,e,w,c];have e:BH 10 a b=JH (a-b):=rfl;simp [f78,e,r,c];have e:BH 11 a b=(pR (Dp 11 a b),0):=rfl;simp [f78,e,d,Dp];have e:BH 12 a b=(pR (Dp 12 a b),0):=rfl;simp [f78,e,d,Dp];have e:BH 13 a b=(pR (Dp 13 a b),0):=rfl;simp [f78,e,d,Dp];have e:BH 14 a b=(pR (Dp 14 a b),0):=rfl;simp [f78,e,d,Dp];have e:BH 15 a b=(pR (Dp 15 a b),0):=rfl;simp [f78,e,d,Dp];have e:BH 16 a b=(pR (Dp 16 a b),0):=rfl;simp [f78,e,d,Dp]
def xH (V:List (List UInt8×Int)):List (List d9):=V.map λp=>[.str p.1,.int .i64 p.2]
theorem ac5 {n fu:Nat}{M:Mem}{v:d9}(V:List (List UInt8×Int))(h:dW M 2 v (xH V))(hb:V.length<=1000)(s:By):∀(j i:Nat),i+j=V.length->∀(c2 c4:d9) (N:Nat),j+1<=N->
  ((∃c2' c4',C8 (λenv m k=>xE (l7 KW fu n) fu none env m k) N (Dl (iV (i:Int)) v c2 (.str s) c4 (iV 0)) M []=some [⟨.exit 0,(Dl (iV (V.length:Int)) v c2' (.str s) c4' (iV 0)),M,[],none⟩]∧VF (V.drop i) s=0)∨
   (∃i' c2' c4',C8 (λenv m k=>xE (l7 KW fu n) fu none env m k) N (Dl (iV (i:Int)) v c2 (.str s) c4 (iV 0)) M []=some [⟨.ret,(Dl i' v c2' (.str s) c4' (.int .i64 (VF (V.drop i) s))),M,[],none⟩])):=by
 have a:=h.len;rw [show (xH V).length=V.length from by simp [xH]] at a;intro j;induction j with
 | zero=>
  intro i w c2 c4 N u;obtain⟨N,rfl⟩:∃k,N=k+1:=⟨N-1,by omega⟩;obtain rfl:i=V.length:=by omega
  refine .inl ⟨.bool false,c4,?_,by rw [aaJ];rfl⟩;rw [o7];simp [xE,a]
 | succ j ih=>
  intro i w c2 c4 N u;obtain⟨N,rfl⟩:∃k,N=k+1:=⟨N-1,by omega⟩;have q:i<V.length:=by omega
  have b:(i:Int)<(V.length:Int):=by omega
  obtain⟨e,t,r,y,A,B,g⟩:=h.at (i:=i) (by simp [xH];omega);have d:(xH V)[i]'(by simp [xH];omega)=[.str V[i].1,.int .i64 V[i].2]:=by simp [xH]
  rw [d] at g;have c:=g 0 (by omega);have l:=g 1 (by omega);rw [Y1] at c;have c:ld1 (M.get e) t=some (.str V[i].1):=c;have l:ld1 (M.get e) (t+1)=some (.int .i64 V[i].2):=l;have o:V.drop i=V[i]::V.drop (i+1):=Xd q;rw [o];generalize V[i]=p at *;obtain⟨x,z⟩:=p;rw [VF];by_cases hs:x=s;rw [if_pos hs];refine .inr ⟨iV (i:Int),.bool true,.bool true,?_⟩;rw [o7];simp [xE,a,b,r,c,l,hs,p9];rw [if_neg hs];have f:C8 (λenv m k=>xE (l7 KW fu n) fu none env m k) (N+1) (Dl (iV (i:Int)) v c2 (.str s) c4 (iV 0)) M []=C8 (λenv m k=>xE (l7 KW fu n) fu none env m k) N (Dl (.int .i64 ((i+1:Nat):Int)) v tt (.str s) ff (iV 0)) M []:=by rw [o7];simp [xE,a,b,r,c,hs,p9,L6 (i:=i) (by omega)]
  rw [f];exact ih (i+1) (by omega) _ _ N (by omega)
theorem ag4 {M:Mem}{v:d9}{V:List (List UInt8×Int)}(h:dW M 2 v (xH V))(hb:V.length<=1000)(s:By)(n fu:Nat)(c:20000<=fu):l7 KW fu (n+1) (.func 75) [v,.str s] M=some [⟨iV (VF V s),M⟩]:=by rcases ac5 (n:=n) (fu:=fu) V h hb s V.length 0 (by omega) .undef .undef fu (by omega) with⟨c2',c4',g,e⟩ | ⟨i',c2',c4',g⟩;have b:C8 (λa m k=>xE (l7 KW fu n) fu none a m k) fu (Dl (iV 0) v .undef (.str s) .undef (iV 0)) M []=_:=g;rw [q8] at e;rw [enter (sf:=f75) rfl rfl,e];simp [f75,b];have b:C8 (λa m k=>xE (l7 KW fu n) fu none a m k) fu (Dl (iV 0) v .undef (.str s) .undef (iV 0)) M []=_:=g;rw [q8] at b;rw [enter (sf:=f75) rfl rfl];simp [f75,b]
def C44 (V:List (List UInt8×Int))(n fu r:Nat):Prop:=∀(M:Mem) (vv:d9) (x:Ex) (row:List d9),M.Ok->M.lim<=M.nx->dW M 2 vv (xH V)->R7 M (λ_=>True) x row->cZ x=true->GI x=false->dZ x<=r->
 ∃M',l7 KW fu n (.func 44) [.agg row,vv] M=some [⟨.tuple [.int .i64 (iq V x).1,.int .i64 (iq V x).2],M'⟩]∧Ext M M'
theorem Tg:∀{l:List Ex},Rc l=false->∀x∈l,GI x=false
 | [],_,x,hx=>by cases hx
 | y::l,h,x,hx=>by rw [Rc,ad7] at h;rcases Z5.1 hx with rfl | hx;exact h.1;exact Tg h.2 x hx
theorem Ti {V:List (List UInt8×Int)}{n fu r:Nat}(z:C44 V n fu r){M:Mem}(E:M.Ok)(y:M.lim<=M.nx){h v:d9}{rows:List (List d9)}{a:List Ex}(w:dW M 2 h (xH V))(p:eD M (λ_=>True) 4 v rows)(q:A9 M (λ_=>True) a rows)(d:Rc a=false)(u:V6 a<=r)
  {i:Nat} (e:i<a.length) (x:cZ a[i]=true) {A:Mem} (b:Ext M A):
  ∃id o row M',rO v none (λid off len _=>idx len (d9.int .i64 i) λk=>some (d9.ptr id (off+k*4))) (λid off len _=>idx len (d9.int .i64 i) λk=>some (d9.ptr id (off+k*4)))=some (.ptr id o)∧Gw (A.get id) o 4=some (.agg row)∧
   l7 KW fu n (.func 44) [.agg row,h] A=some [⟨.tuple [.int .i64 (iq V a[i]).1,.int .i64 (iq V a[i]).2],M'⟩]∧Ext A M'∧id<M.nx:=by
 have F:=A9.len q;obtain⟨id,o,j,B,C,s,D⟩:=(p.slice.ext b).at (i:=i) (by omega);obtain⟨_,g⟩:=adA p (by omega) j;have m:=A9.get q i e (by omega);have l:=m.row;have c:=s 0 4 (by omega) (by omega);rw [q8,W9 (by omega),Y1] at c;have f:dZ a[i]<=r:=aA (bX a i e) u;obtain⟨M',t,E1⟩:=z A h a[i] rows[i] b.ok (by rw [b.lim];exact aA y b.nx) (w.ext b) (FX b m) x (Tg d _ (aaO e)) f;exact⟨id,o,rows[i],M',j,c,t,E1,g⟩
theorem ag5 {V:List (List UInt8×Int)}(hb:V.length<=1000)(N:∀p∈V,jL p.2=true)(fu:Nat)(T:20000<=fu):∀r n:Nat,r+8<=n->C44 V n fu r:=by
 intro r;induction r with
 | zero=>intro n hn M vv x u D J E hx I m S;cases x;rw [dZ] at S;omega
 | succ r ih=>
  intro n hn M vv x u D J E hx I m S;obtain⟨n,rfl⟩:∃k,n=k+1:=⟨n-1,by omega⟩;obtain⟨k,W,s,a⟩:=x;obtain⟨v,a3,rfl,O,P⟩:=hx;have E0:=G6 D [l9 (r4 k W s v)];have l:(ext M [l9 (r4 k W s v)]).get M.nx=some (l9 (r4 k W s v)):=by rw [r9 D];rfl
  rw [dZ] at S;rcases OM I with rfl | rfl | rfl | rfl | rfl | ⟨k1,k2⟩;refine⟨_,?_,E0⟩;rw [enter (sf:=f44) rfl rfl,iq,if_pos rfl];simp [f44,G9,H9,l];have gv:=ag4 (E.ext E0) hb s (n-1) fu T;rw [adb (by omega)] at gv;refine⟨_,?_,E0⟩;rw [enter (sf:=f44) rfl rfl,iq,if_neg (by decide),if_pos rfl];simp [f44,G9,H9,l,gv];rw [GI] at m;simp at m;obtain⟨rfl,rfl,y,rfl,B⟩:=qy I (.inl rfl);rw [GI,decide_eq_false (by omega),ad6] at m;obtain⟨id,o,u,M1,d,f,F,E1,j⟩:=Ti (ih n (by omega)) D J E O P m (by omega) (i:=0) (by simp) (by simpa using B) E0;simp at d;have t:=CB N B;simp only [adM] at F;have g:(ext M [l9 (r4 4 0 [] v)]).get id=M.get id:=E0.old _ j;rw [g] at f;refine⟨M1,?_,E0.trans E1⟩;have nv:rT .i64 0 (iq V y).1=some (.int .i64 (-(iq V y).1)):=by simp only [jL,Hl,decide_eq_true_eq] at t;show some (d9.int .i64 (iP (0-(iq V y).1)))=_;rw [K6 (by omega) (by omega),Int.zero_sub]
  have e:iq V (.mk 4 0 [] [y])=(-(iq V y).1,(iq V y).2):=by rw [iq,if_neg (by decide),if_neg (by decide),JI,if_pos rfl];rfl
  rw [enter (sf:=f44) rfl rfl,e];generalize iq V y=z at *;simp [f44,G9,H9,l,d,f,g,F,nv];obtain⟨rfl,rfl,y,rfl,B⟩:=qy I (.inr rfl);rw [GI,decide_eq_false (by omega),ad6] at m;obtain⟨id,o,u,M1,d,f,F,E1,j⟩:=Ti (ih n (by omega)) D J E O P m (by omega) (i:=0) (by simp) (by simpa using B) E0;simp at d;have t:=CB N B;simp only [adM] at F;have g:(ext M [l9 (r4 5 0 [] v)]).get id=M.get id:=E0.old _ j;rw [g] at f;refine⟨M1,?_,E0.trans E1⟩;have e:iq V (.mk 5 0 [] [y])=(pR (decide ((iq V y).1=0)),(iq V y).2):=by rw [iq,if_neg (by decide),if_neg (by decide),JI,if_neg (by decide),if_pos rfl];rfl
  rw [enter (sf:=f44) rfl rfl,e];generalize iq V y=z at *;have G:=λb=>Rh b (n-1) fu M1;rw [adb (by omega)] at G;simp [f44,G9,H9,l,d,f,g,F,G];obtain⟨rfl,rfl,y,z,rfl,B,hz⟩:=SQ I k1 k2;rw [GI,decide_eq_false (by omega),ad6] at m;obtain⟨id,o,u,M1,d,f,A,E1,j⟩:=Ti (ih n (by omega)) D J E O P m (by omega) (i:=0) (by simp) (by simpa using B) E0;have EE1:=E0.trans E1;obtain⟨a7,o2,a2,M2,K,Q,L,E2,a0⟩:=Ti (ih n (by omega)) D J E O P m (by omega) (i:=1) (by simp) (by simpa using hz) EE1;have EE2:=EE1.trans E2;simp at d K;have t:=CB N B;have U:=CB N hz;simp only [adM,ahh] at A L;have a5:=E1.nx;have a6:=E2.nx;have a8:(ext M [l9 (r4 k 0 [] v)]).nx=M.nx+1:=by simp
  have g:(ext M [l9 (r4 k 0 [] v)]).get id=M.get id:=E0.old _ j;rw [g] at f;have c:M1.get M.nx=some (l9 (r4 k 0 [] v)):=(E1.old _ (by omega)).trans l;have C:M2.get M.nx=some (l9 (r4 k 0 [] v)):=(E2.old _ (by omega)).trans c;have e:iq V (.mk k 0 [] [y,z])=JI k (iq V y) (iq V z):=by rw [iq,if_neg (by omega),if_neg (by omega)];rfl
  have n1:¬ k=1:=by omega
  have n2:¬ k=2:=by omega
  have n3:¬ k=3:=by omega
  have n4:¬ k=4:=by omega
  have n5:¬ k=5:=by omega
  have h:=λb M=>Rh b (n-1) fu M;rw [adb (by omega)] at h;have q:=λa b M=>ag2 a b (n-1) fu M;rw [adb (by omega)] at q;rw [e];generalize iq V y=Y at *;generalize iq V z=Z' at *;by_cases ho:k=17∨k=18;have R:JI k Y Z'=if (!decide (Y.1=0))=decide (k=18) then (pR (!decide (Y.1=0)),Y.2) else (pR (!decide (Z'.1=0)),nk Y.2 Z'.2):=by rw [JI,if_neg (by omega),if_neg (by omega),if_pos ho]
  rw [R];by_cases hs:(!decide (Y.1=0))=decide (k=18);rw [if_pos hs];refine⟨M1,?_,EE1⟩;rw [enter (sf:=f44) rfl rfl];rcases ho with rfl | rfl;have w:Y.1=0:=by simpa using hs
  rw [w] at A;simp [f44,G9,H9,l,d,f,g,A,c,h,w];have w:¬ Y.1=0:=by simpa using hs
  simp [f44,G9,H9,l,d,f,g,A,c,h,w];rw [if_neg hs];refine⟨M2,?_,EE2⟩;rw [enter (sf:=f44) rfl rfl];rcases ho with rfl | rfl;have w:¬ Y.1=0:=by simpa using hs
  simp [f44,G9,H9,l,d,f,g,A,c,C,K,Q,L,h,q,w];have w:Y.1=0:=by simpa using hs
  rw [w] at A;simp [f44,G9,H9,l,d,f,g,A,c,C,K,Q,L,h,q,w];have k3:k<=16:=by omega
  have X:¬ k=17:=by omega
  have Z:¬ k=18:=by omega
  have H:=ag3 k1 k3 t U (n-3) fu M2;rw [show n-3+3=n from by omega] at H;have R:JI k Y Z'=((BH k Y.1 Z'.1).1,nk (nk Y.2 Z'.2) (BH k Y.1 Z'.1).2):=by rw [JI,if_neg (by omega),if_neg (by omega),if_neg ho]
  rw [R];refine⟨M2,?_,EE2⟩;rw [enter (sf:=f44) rfl rfl];simp [f44,G9,H9,l,d,f,g,A,c,C,K,Q,L,q,H,n1,n2,n3,n4,n5,X,Z]
theorem ac6 {m:Mem}(f:m.Ok)(j:m.lim<=m.nx){row:List d9}{e:Ex}(h:R7 m (λ_=>True) e row)(G:cZ e=true)(n fu:Nat):
  ∃z m',l7 KW fu (n+1) (.func 106) [.agg row] m=some [⟨.tuple [z,.bool (mG e)],m'⟩]∧Ext m m':=by
 obtain⟨k,x,s,a⟩:=e;obtain⟨v,D,rfl,p,C⟩:=h;have g:=p.slice.cells;have l:=p.slice.u7;have E0:=G6 f [l9 (r4 k x s v)];by_cases h1:k=1;subst h1;refine⟨iV x,_,?_,E0⟩;rw [enter (sf:=f106) rfl rfl];simp [f106,P6 f j,u7,g,l,mG];by_cases h4:k=4;subst h4;obtain⟨rfl,rfl,y,rfl,L⟩:=qy G (.inl rfl);have u:=A9.len C;obtain⟨id1,B,E,F,I,J,o⟩:=p.slice.at (i:=0) (by rw [u];simp);obtain⟨w,A,M,K⟩:=y;obtain⟨N,q,H,_,_⟩:=A9.get C 0 (by simp) (by rw [u];simp);rw [H] at o;have b:=o 0 (by omega);have c:=o 1 (by omega);rw [Y1] at b;have b:ld1 (m.get id1) B=some (iV w):=b;have c:ld1 (m.get id1) (B+1)=some (iV A):=c;have d:=E;simp at d;have t:(ext m [l9 (r4 4 0 [] v)]).get id1=m.get id1:=E0.old _ F;by_cases hk:w=1;have r:∃z,rT .i64 0 A=some z:=⟨_,rfl⟩;obtain⟨z,r⟩:=r;refine⟨z,_,?_,E0⟩;rw [enter (sf:=f106) rfl rfl];simp [f106,P6 f j,u7,g,l,d,t,b,c,mG,Yg,hk,r];refine⟨iV 0,_,?_,E0⟩;rw [enter (sf:=f106) rfl rfl];simp [f106,P6 f j,u7,g,l,d,t,b,mG,Yg,hk];refine⟨iV 0,_,?_,E0⟩;rw [enter (sf:=f106) rfl rfl];simp [f106,P6 f j,u7,g,l,mG,h1,h4]
theorem ac7 {m:Mem}(a:m.Ok)(b:m.lim<=m.nx){z:Int}(d:jL z=true)(n fu:Nat):
  ∃row m',l7 KW fu (n+1) (.func 107) [iV z] m=some [⟨.agg row,m'⟩]∧Ext m m'∧R7 m' (λi=>m.nx<=i) (Ag z) row:=by
 simp only [jL,Hl,decide_eq_true_eq] at d;by_cases h:z<0;have e:rT .i64 0 z=some (iV (-z)):=by show some (d9.int .i64 (iP (0-z)))=_;rw [K6 (by omega) (by omega),Int.zero_sub]
 have X:=G6 a [l9 (r4 4 0 [] (.slice (m.nx+1) 0 1 1)),l9 (r4 1 (-z) [] nS)];refine⟨(r4 4 0 [] (.slice (m.nx+1) 0 1 1)),_,?_,X,?_⟩;rw [enter (sf:=f107) rfl rfl];simp [f107,P6 a b,u7,h,e,Vn];rw [Ag,if_pos h];refine⟨_,[(r4 1 (-z) [] nS)],rfl,.inr ⟨m.nx+1,0,(by omega:m.nx<=m.nx+1),.inl ⟨1,by simp,by simp⟩,by simp,.inr ⟨1,T.ofList [(r4 1 (-z) [] nS)],by rw [I7 a];simp [l9];rfl,by simp,by simp,λi c=>?_⟩⟩,_,[],rfl,⟨_,[],rfl,.inl ⟨rfl,rfl⟩,rfl⟩,rfl⟩;obtain rfl:i=0:=by simpa using c
 rw [T.aD];rfl;have X:=G6 a [l9 (r4 1 z [] nS)];refine⟨(r4 1 z [] nS),_,?_,X,by rw [Ag,if_neg h];exact⟨_,[],rfl,.inl ⟨rfl,rfl⟩,rfl⟩⟩;rw [enter (sf:=f107) rfl rfl];simp [f107,P6 a b,u7,h]
theorem YP {lo:Nat}{M b:Mem}{v:d9}{l:List Ex}(h:Te lo M v l)(f:M.nx<=b.nx)(g:∀i,lo<=i->i<M.nx->b.get i=M.get i):Te lo b v l:=by obtain⟨T,a,j,k,m,d⟩:=h;exact⟨λi=>T i∧i<M.nx,a,j.keep f g,A9.mono f (λi c p=>g i (d i p) c) (λi c h=>⟨h,c⟩) _ _ k,λi o n e q h=>m i o n e q h.1,λi h=>d i h.1⟩
def C61 (n fu r:Nat):Prop:=∀(m:Mem) (row:List d9) (e:Ex),m.Ok->m.lim<=m.nx->R7 m (λ_=>True) e row->cZ e=true->gM e<=500->dZ e<=r->
 ∃row' m',l7 KW fu n (.func 61) [.agg row] m=some [⟨.agg row',m'⟩]∧Ext m m'∧R7 m' (λi=>m.nx<=i) (DT e) row'
theorem ac8 {n fu r:Nat}(hn:2<=n)(S:C61 n fu r){m:Mem}(W:m.lim<=m.nx){v:d9}{rows:List (List d9)}(a:List Ex)(h1:eD m (λ_=>True) 4 v rows)(h2:A9 m (λ_=>True) a rows)(hf:Y0 a=true)(hp:T9 a<=500)(hL:V6 a<=r)(k n0:Int)(s:By){p:Nat}(ad:p=m.nx):
  ∀(j i:Nat),i+j=a.length->∀(c3 x4 x6 out:d9) (nb:Bool) (M:Mem) (N:Nat),Ext m M->p+3<=M.nx->M.get p=some (l9 (r4 k n0 s v))->M.get (p+1)=some (l9 (r4 0 0 [] nS))->M.get (p+2)=some (l9 (r4 k n0 s out))->Te (p+3) M out (cK (a.take i))->j+1<=N->
  ∃c3' x4' x6' out' M',C8 (λenv m k=>Ow (l7 KW fu n) fu none env m k) N (wN (.agg (r4 k n0 s v)) (.ptr p 0) (iV (i:Int)) c3 x4 (.bool nb) x6 (.ptr (p+2) 0) .undef (.ptr (p+1) 0) .undef .undef .undef) M []=some [⟨.exit 0,(wN (.agg (r4 k n0 s v)) (.ptr p 0) (iV (a.length:Int)) c3' x4' (.bool (nb&&Mf (cK (a.drop i)))) x6' (.ptr (p+2) 0) .undef (.ptr (p+1) 0) .undef .undef .undef),M',[],none⟩]∧Ext m M'∧p+3<=M'.nx∧M'.get p=some (l9 (r4 k n0 s v))∧M'.get (p+1)=some (l9 (r4 0 0 [] nS))∧M'.get (p+2)=some (l9 (r4 k n0 s out'))∧Te (p+3) M' out' (cK a):=by
 have A:=A9.len h2;have ab:=K8 a;have g:=h1.slice.len;rw [A] at g;intro j;induction j with
 | zero=>
  intro i l c3 x4 x6 out nb M N E hq H Q R K hN;obtain⟨N,rfl⟩:∃k,N=k+1:=⟨N-1,by omega⟩;obtain rfl:i=a.length:=by omega
  rw [ahb] at K;refine⟨.bool false,x4,x6,out,M,?_,E,hq,H,Q,R,K⟩;rw [o7,aaJ,cK,Mf,Bool.and_true];simp [Ow,H,g]
 | succ j ih=>
  intro i l c3 x4 x6 out nb M N E hq H Q R K hN;obtain⟨N,rfl⟩:∃k,N=k+1:=⟨N-1,by omega⟩;have d:i<a.length:=by omega
  have q:i<rows.length:=by omega
  have O:(i:Int)<(a.length:Int):=by omega
  have w:∀{M:Mem},Ext m M->M.lim<=M.nx:=λE=>by rw [E.lim];exact aA W E.nx
  obtain⟨ae,o1,a1,a2,a3,a4,a5⟩:=(h1.slice.ext E).at q;have P:=A9.get h2 i d q;have a9:=P.row;have G:=a4 0 4 (by omega) (by omega);rw [q8,W9 (by omega),Y1] at G;have ac:=aV a i d;have aa:=bX a i d;have L:=DU hf i d;have V:cK (a.drop i)=DT a[i]::cK (a.drop (i+1)):=by rw [Xd d,cK]
  have ht:cK (a.take i) ++ [DT a[i]]=cK (a.take (i+1)):=by rw [qA,qA,aaI d,abN];rfl
  obtain⟨b,M1,a0,E1,X⟩:=S M rows[i] a[i] E.ok (w E) (FX E P) L (by omega) (by omega);have F1:=E.trans E1;have B:=X.row;have E2:=G6 F1.ok [l9 b];have F2:=F1.trans E2;have I:(ext M1 [l9 b]).get M1.nx=some (l9 b):=by rw [r9 F1.ok];rfl
  obtain⟨z,M2,t,E3⟩:=ac6 F2.ok (w F2) (e:=DT a[i]) (R7.mono E2.nx (λi l _=>E2.old i l) (λ_ _ _=>trivial) _ _ X) (YG _ L) (n-1) fu;rw [adb (by omega)] at t;have E123:=(E1.trans E2).trans E3;have F3:=E.trans E123;have n1:=E1.nx;have n2:(ext M1 [l9 b]).nx=M1.nx+1:=by simp
  have n3:=E3.nx;have J:M2.get M1.nx=some (l9 b):=(E3.old _ (by omega)).trans I;have a8:∀i o n e,out=.sliceU i o n e->i<M.nx:=λi o n e Y=>by obtain⟨T,a6,F,_⟩:=K;exact (F.lt Y).2
  have k0:M2.get p=some (l9 (r4 k n0 s v)):=(E123.old _ (by omega)).trans H;have k1:M2.get (p+1)=some (l9 (r4 0 0 [] nS)):=(E123.old _ (by omega)).trans Q;have k2:M2.get (p+2)=some (l9 (r4 k n0 s out)):=(E123.old _ (by omega)).trans R;obtain⟨C,M5,gb,u,f,n5,l5,c,po⟩:=Gp (row:=b) (y:=DT a[i]) F3.ok (LV K E123) (by rw [F3.lim];omega) (by omega) (R7.mono (m:=M1) (m':=M2) (by omega) (λi l _=>by rw [E3.old i (by omega),E2.old i l]) (λi l h=>⟨by omega,λo n e Y=>by have:=a8 i o n e Y;omega⟩) _ _ X) (by rw [tu,aer];omega);rw [ht] at u;have j0:M5.get p=some (l9 (r4 k n0 s v)):=(c _ (by omega)).trans k0;have j1:M5.get (p+1)=some (l9 (r4 0 0 [] nS)):=(c _ (by omega)).trans k1;have j2:M5.get (p+2)=some (l9 (r4 k n0 s out)):=(c _ (by omega)).trans k2;have D:p+2<M5.nx:=by omega
  have lq:M5.lim<=p+2:=by rw [l5,F3.lim];omega
  have st:=sB lq;obtain⟨c5,o5⟩:C.cells=[C]∧Go.AM.u7 C=true:=by obtain⟨T,a6,F,_⟩:=u;exact⟨F.slice.cells,F.slice.u7⟩
  have U:Te (p+3) (M5.set (p+2) (l9 (r4 k n0 s C))) C (cK (a.take (i+1))):=YP u (q9 M5.nx) (λi l _=>K5 f _ D (by omega));have F6:Ext m (M5.set (p+2) (l9 (r4 k n0 s C))):=⟨Mem.Ok.set f D _,by show m.nx<=M5.nx;omega,by show M5.lim=_;rw [l5,F3.lim],λi l=>by rw [K5 f _ D (by omega),c i (by omega),F3.old i l]⟩;obtain⟨c3',x4',x6',out',M',gg,F,q2,q3,q4,q5,q6⟩:=ih (i+1) (by omega) tt (.ptr M1.nx 0) (.bool (mG (DT a[i]))) C (nb&&mG (DT a[i])) _ N F6 (by show p+3<=M5.nx;omega) ((K5 f _ D (by omega)).trans j0) ((K5 f _ D (by omega)).trans j1) (I8 f _ D rfl) U (by omega);refine⟨c3',x4',x6',out',M',?_,F,q2,q3,q4,q5,q6⟩;have y4:=λx ls env P=>afY B.1 (x:=x) (ls:=ls) (env:=env) P;have Z:b.length=4:=B.1;have a7:Go.AM.vC (some (l9 (r4 0 0 [] nS))) 0 b=some (l9 b):=by rw [Go.AM.eX (by simp [Z]) (by simp)];simp [Z]
  have ld:Go.AM.Gw (some (l9 b)) 0 4=some (.agg b):=by rw [eU (by omega) (by omega),q8,W9 (by omega)]
  have ao:J8 b=true:=B.2;have hm:=F1.ok;have W:=w F1;rw [V,Mf,← Bool.and_assoc];rw [o7,← gg];generalize mG (DT a[i])=b0 at *;cases nb<;>simp [Ow,P6 hm W,O,g,H,a1,G,a0,Z,ao,a7,I,ld,t,J,k0,k2,Vn,y4,gb,po,st,j2,c5,o5,Go.AM.eX,L6 (i:=i) (by omega)]
theorem OX:Go.AM.u7 nS=true:=rfl
theorem YQ {n fu r:Nat}(a5:20000<=fu)(hn:60<=n)(hr:r+1<=20)(a2:C61 n fu r):C61 (n+1) fu (r+1):=by
 intro m af e c u h hf hp hL;obtain⟨k,d,s,a⟩:=e;obtain⟨v,a9,rfl,Z,q2⟩:=h;have O:=Z.slice.cells;have S:=Z.slice.u7;have f:=Z.slice.len;rw [A9.len q2] at f;have ha:Y0 a=true:=by rw [cZ] at hf;exact ((Hl _ _).mp hf).2
 have G:=Gm hf (tu a) (Gn a ha);have ac:=vO a;have ab:=K8 a;have a3:dZ (.mk k d s (cK a))<=20:=by rw [dZ] at hL ⊢;omega
 rw [gM] at hp;rw [dZ] at hL;have E0:=G6 c [l9 (r4 k d s v),l9 (r4 0 0 [] nS),l9 (r4 k d s nS)];have ad:(ext m [l9 (r4 k d s v),l9 (r4 0 0 [] nS),l9 (r4 k d s nS)]).nx=m.nx+3:=by simp
 obtain⟨B,x⟩:∃B,B=(decide ((0:Int)<(a.length:Int)) && !decide (k=3)):=⟨_,rfl⟩;obtain⟨aa,ag,ai,l,M,gg,EM,hq,g0,g1,L,hA⟩:=ac8 (by omega) a2 u a Z q2 ha (by omega) (by omega) k d s (p:=m.nx) rfl a.length 0 (by omega) .undef .undef .undef nS B (ext m [l9 (r4 k d s v),l9 (r4 0 0 [] nS),l9 (r4 k d s nS)]) fu E0 (by omega) (by rw [r9 c];rfl) (by rw [I7 c];rfl) (by rw [I7 c];rfl) (by rw [aha,cK];exact LU _ _) (by omega);rw [q8] at gg;have j:C8 (λa1 m k=>Ow (l7 KW fu n) fu none a1 m k) fu (wN (.agg (r4 k d s v)) (.ptr m.nx 0) (iV 0) .undef .undef (.bool B) .undef (.ptr (m.nx+2) 0) .undef (.ptr (m.nx+1) 0) .undef .undef .undef) (ext m [l9 (r4 k d s v),l9 (r4 0 0 [] nS),l9 (r4 k d s nS)]) []=_:=gg;obtain⟨T,a7,w1,w2,w3,w4⟩:=hA;have x2:R7 M (λi=>m.nx+3<=i) (.mk k d s (cK a)) (r4 k d s l):=
  ⟨l,a7,rfl,w1.s.mono (q9 _) (λ_ _ _=>rfl) (λi _ h=>h),A9.mono (q9 _) (λ_ _ _=>rfl) (λi _ h=>w4 i h) _ _ w2⟩
 have P:∀(M':Mem),Ext M M'->∀(w:List d9),∀(y:Ex),R7 M' (λi=>m.nx+3<=i) y w->
   (∀(β:Type) C Y (k:Mem->Option β),storeAt M' (m.nx+1) C Y k=bi (J8 Y) (ob (Go.AM.vC (M'.get (m.nx+1)) C Y) λb=>k (M'.set (m.nx+1) b)) none)∧M'.get (m.nx+1)=some (l9 (r4 0 0 [] nS))∧M'.get (m.nx+2)=some (l9 (r4 k d s l))∧
   (M'.set (m.nx+1) (l9 w)).get (m.nx+1)=some (l9 w)∧Ext m (M'.set (m.nx+1) (l9 w))∧R7 (M'.set (m.nx+1) (l9 w)) (λi=>m.nx<=i) y w:=λM' EM' w y hy=>by
  have hn:=EM'.nx;have A:m.nx+1<M'.nx:=by omega
  refine⟨λβ C Y k=>jA (by rw [EM'.lim,EM.lim];omega) C Y k,(EM'.old _ (by omega)).trans g1,(EM'.old _ (by omega)).trans L,I8 EM'.ok _ A rfl,⟨Mem.Ok.set EM'.ok A _,by show m.nx<=M'.nx;omega,by show M'.lim=_;rw [EM'.lim,EM.lim],λi hi=>by rw [K5 EM'.ok _ A (by omega),EM'.old i (by omega),EM.old i hi]⟩,R7.mono (m:=M') (m':=M'.set (m.nx+1) (l9 w)) (q9 M'.nx) (λi hi h=>K5 EM'.ok _ A (by omega)) (λi _ h=>by omega) _ _ hy⟩
 have D:∀(M':Mem) (EM':Ext M M'),_:=λM' EM'=>P M' EM' (r4 k d s l) (.mk k d s (cK a)) (FX EM' x2);have N:=x2.row.2;have e0:DT (.mk k d s a)=Ia k d s (cK a):=by rw [DT]
 rw [e0];have R:(cK a=[])↔a.length=0:=by rw [← aaB,tu]
 have ak:k=3->(B=false):=λh=>by rw [x,h];simp
 have cN:((0:Int)<(a.length:Int))↔0<a.length:=by omega
 have lp:decide ((0:Int)<(a.length:Int))=decide (¬ a.length=0):=by rw [decide_eq_decide];omega
 cases hb:(B&&Mf (cK a)) with
 | false=>
  obtain⟨I,J,s3,K,W,X⟩:=D M (Ext.refl EM.ok);have e:Ia k d s (cK a)=.mk k d s (cK a):=by unfold Ia;rw [if_pos];by_cases o:a.length=0;exact .inl (R.2 o);by_cases t:k=3;exact .inr (.inl t);refine .inr (.inr ?_);rw [x,lp,decide_eq_true o,decide_eq_false t] at hb;simpa using hb
  rw [hb] at j;refine⟨_,_,?_,W,by rw [e];exact X⟩;rw [enter (sf:=f61) rfl rfl];by_cases o:(0:Int)<(a.length:Int);all_goals have g:=o
  all_goals rw [cN] at g
  by_cases t:k=3;subst t;obtain rfl:B=false:=ak rfl;simp [f61,G9,H9,O,S,r9 c,I7 c,eY c u,ah c u,bB c,aZ c,OX,f,o,g,j,L,N,I,J,K];obtain rfl:B=true:=by rw [x,decide_eq_true o,decide_eq_false t];rfl
  simp [f61,G9,H9,O,S,r9 c,I7 c,eY c u,ah c u,bB c,aZ c,OX,f,o,g,t,j,L,N,I,J,K];obtain rfl:B=false:=by rw [x,decide_eq_false o];rfl
  simp [f61,G9,H9,O,S,r9 c,I7 c,eY c u,ah c u,bB c,aZ c,OX,f,o,g,j,L,N,I,J,K]
 | true=>
  rw [hb] at j;rw [Hl] at hb;obtain⟨a4,Q⟩:=hb;subst a4;have E:=x.symm;rw [Hl,Bool.not_eq_true',decide_eq_true_eq,decide_eq_false_iff_not] at E;obtain⟨o,t⟩:=E;have g:=cN.1 o;have c0:cK a≠[]:=λh=>by rw [R] at h;omega
  obtain⟨a6,ae⟩:=OW G c0 t Q;have lM:M.lim<=M.nx:=by rw [EM.lim];omega
  obtain⟨M1,U,E1⟩:=ag5 (V:=[]) (by simp) (by intro p hp;cases hp) fu a5 20 n (by omega) M nS (.mk k d s (cK a)) _ EM.ok lM (.inl ⟨rfl,rfl⟩) (R7.mono (q9 _) (λ_ _ _=>rfl) (λ_ _ _=>trivial) _ _ x2) G a6 a3;have hz:=Rf G;have ef:Ia k d s (cK a)=if (iq [] (.mk k d s (cK a))).2=0 then Ag (iq [] (.mk k d s (cK a))).1 else .mk k d s (cK a):=by unfold Ia;rw [if_neg (λq=>by rcases q with q | q | q;exact c0 q;exact t q;rw [Q] at q;cases q)]
  rw [ef];generalize iq [] (.mk k d s (cK a))=z at *;by_cases z2:z.2=0;rw [if_pos z2];obtain⟨w,M2,F,E2,hw⟩:=ac7 E1.ok (by rw [E1.lim];exact aA lM E1.nx) hz (n-1) fu;rw [adb (by omega)] at F;have E12:=E1.trans E2;have n1:=E1.nx;obtain⟨I,J,s3,K,W,X⟩:=P M2 E12 w _ (R7.mono (q9 _) (λ_ _ _=>rfl) (λi _ h=>by omega) _ _ hw);obtain⟨H,a0⟩:=hw.row;refine⟨w,_,?_,W,X⟩;have a8:Go.AM.vC (some (l9 (r4 0 0 [] nS))) 0 w=some (l9 w):=by rw [Go.AM.eX (by simp [H]) (by simp)];simp [H]
  have ld:Go.AM.Gw (some (l9 w)) 0 4=some (.agg w):=by rw [eU (by omega) (by omega),q8,W9 (by omega)]
  rw [enter (sf:=f61) rfl rfl];simp [f61,G9,H9,O,S,r9 c,I7 c,eY c u,ah c u,bB c,aZ c,OX,f,o,g,t,j,L,N,U,z2,F,H,a0,a8,ld,I,J,K];rw [if_neg z2];obtain⟨I,J,s3,K,W,X⟩:=D M1 E1;refine⟨_,_,?_,W,X⟩;rw [enter (sf:=f61) rfl rfl];simp [f61,G9,H9,O,S,r9 c,I7 c,eY c u,ah c u,bB c,aZ c,OX,f,o,g,t,j,L,N,U,z2,I,J,s3,K]
def C27 (n fu r:Nat):Prop:=∀(m:Mem) (v:d9) (l:List Ex),m.Ok->m.lim<=m.nx->fB m (λ_=>True) l v->Y0 l=true->T9 l<=500->V6 l<=r->
 ∃v' m',l7 KW fu n (.func 27) [v] m=some [⟨v',m'⟩]∧Ext m m'∧fB m' (λi=>m.nx<=i) (cK l) v'
theorem ac9 {n fu r:Nat}(B:C61 n fu r){m:Mem}(hm:m.Ok)(K:m.lim<=m.nx){v:d9}{rows:List (List d9)}(a:List Ex)(I:eD m (λ_=>True) 4 v rows)(J:A9 m (λ_=>True) a rows)(X:Y0 a=true)(hp:T9 a<=500)(hL:V6 a<=r):
  ∀(j i:Nat),i+j=a.length->∀(c out:d9) (M:Mem) (N:Nat),Ext m M->Te m.nx M out (cK (a.take i))->j+1<=N->
  ∃c' out' M',C8 (λenv m k=>Ot (l7 KW fu n) fu none env m k) N (XJ (iV (i:Int)) v c out nS) M []=some [⟨.exit 0,(XJ (iV (a.length:Int)) v c' out' nS),M',[],none⟩]∧Ext m M'∧Te m.nx M' out' (cK a):=by
 have g:=A9.len J;have Y:=K8 a;have b:=I.slice.len;rw [g] at b;intro j;induction j with
 | zero=>
  intro i s c out M N E p V;obtain⟨N,rfl⟩:∃k,N=k+1:=⟨N-1,by omega⟩;obtain rfl:i=a.length:=by omega
  rw [ahb] at p;refine⟨.bool false,out,M,?_,E,p⟩;rw [o7];simp [Ot,b]
 | succ j ih=>
  intro i s c out M N E p V;obtain⟨N,rfl⟩:∃k,N=k+1:=⟨N-1,by omega⟩;have d:i<a.length:=by omega
  have f:i<rows.length:=by omega
  have t:(i:Int)<(a.length:Int):=by omega
  obtain⟨a7,o1,P,a2,a3,Q,a5⟩:=(I.slice.ext E).at f;have A:=A9.get J i d f;have O:=A.row;have l:=Q 0 4 (by omega) (by omega);rw [q8,W9 (by omega),Y1] at l;have a6:=aV a i d;have W:=bX a i d;have C:=DU X i d;have ht:cK (a.take i) ++ [DT a[i]]=cK (a.take (i+1)):=by rw [qA,qA,aaI d,abN];rfl
  obtain⟨z,M2,R,E2,L⟩:=B M rows[i] a[i] E.ok (by rw [E.lim];exact aA K E.nx) (FX E A) C (by omega) (by omega);have F2:=E.trans E2;have a0:=E2.nx;have Z:=E.nx;have H:∀i o n e,out=.sliceU i o n e->i<M.nx:=λi o n e D=>by obtain⟨T,a8,G,_⟩:=p;exact (G.lt D).2
  obtain⟨v5,M5,S,q,F,n5,l5,w,po⟩:=Gp (row:=z) (y:=DT a[i]) F2.ok (LV p E2) (by rw [F2.lim];exact K) (by omega) (R7.mono (q9 _) (λ_ _ _=>rfl) (λi s h=>⟨by omega,λo n e D=>by have:=H i o n e D;omega⟩) _ _ L) (by rw [tu,aer];omega);have F5:Ext m M5:=⟨F,by omega,by rw [l5,F2.lim],λi s=>by rw [w i s,F2.old i s]⟩;have u:=L.row;rw [ht] at q;obtain⟨c',out',M',U,G,q2⟩:=ih (i+1) (by omega) tt v5 M5 N F5 q (by omega);refine⟨c',out',M',?_,G,q2⟩;have y4:=λx ls env A=>afY u.1 (x:=x) (ls:=ls) (env:=env) A;rw [o7,← U];simp [Ot,G9,b,t,P,l,R,Vn,y4,u.1,S,po,L6 (i:=i) (by omega)]
theorem YR {n fu r:Nat}(u:20000<=fu)(d:C61 n fu r):C27 (n+1) fu r:=by intro m v l f w h t y q;obtain⟨g,o,p⟩:=h;have x:=K8 l;obtain⟨C,a,M',j,E,T,e,z,A,D,B⟩:=ac9 d f w l o p t y q l.length 0 (by omega) .undef nS m fu (Ext.refl f) (by rw [aha,cK];exact LU _ _) (by omega);refine⟨a,M',?_,E,e,z.s.mono (q9 _) (λ_ _ _=>rfl) (λi _ h=>h),A9.mono (q9 _) (λ_ _ _=>rfl) (λi _ h=>B i h) _ _ A⟩;have c:C8 (λb m k=>Ot (l7 KW fu n) fu none b m k) fu (XJ (iV 0) v .undef nS nS) m []=_:=j;rw [enter (sf:=f27) rfl rfl];simp [f27,c]
theorem ag6 (fu:Nat)(a:20000<=fu):∀r n:Nat,r<=20->60+r<=n->C61 n fu r:=by
 intro r;induction r with
 | zero=>intro n b d m f e j i h g l c;cases e;rw [dZ] at c;omega
 | succ r ih=>intro n b d;obtain⟨n,rfl⟩:∃k,n=k+1:=⟨n-1,by omega⟩;exact YQ a (by omega) b (ih n (by omega) (by omega))
theorem Vp {lo:Nat}{M:Mem}{v:d9}{f:List V7}{y:V7}{row:List d9}{b:Nat}(J:M.Ok)(I:Vo lo M v f)(m:M.lim<=lo)(w:lo<=M.nx)(hb:M.get b=some (l9 row))(u:b<M.nx)(D:ig M (λi=>lo<=i∧∀o n e,v≠.sliceU i o n e) y row)(l:f.length+1<=100000):
  ∃v5 M5,(∀(s z:OF) (cf:H8) (ls:List d9) (env:T d9),s ls env=v->z ls env=.slice b 0 1 1->mO 5 96 s z cf ls env M=some [⟨v5,M5⟩])∧Vo lo M5 v5 (f ++ [y])∧M5.Ok∧M.nx<=M5.nx∧M5.lim=M.lim∧(∀i,i<lo->M5.get i=M.get i)∧∀{β:Type} (p:d9->β) q,bC v5 p q=q:=by
 obtain⟨T,d,B,C,G,H⟩:=I;have c:=D.row;have A:=H6.len C;have K:dW M 5 (.slice b 0 1 1) [row]:=
  .inr ⟨b,0,.inl ⟨1,by simp,by simp⟩,u,.inr ⟨1,Go.AM.T.ofList [row],by rw [hb];show some (P8.cells (len' row) 1 _)=_;rw [K4,c.1];rfl,by simp,by simp [c.1],λi a=>by
   obtain rfl:i=0:=by simpa using a
   rw [Go.AM.T.aD];rfl⟩⟩
 have t:d.length+1<=100000:=by rw [A];exact l
 obtain⟨v5,M5,E,x,F,g⟩:=DF (lo:=lo) (rs:=5) (bytes:=96) (r:=row) J m w (by omega) B K c.1 c.2 t ⟨by omega,by omega⟩;have L:∀i o n e,v=.sliceU i o n e->lo<=i:=λi o n e k=>by subst k;exact (B.lt rfl).1
 have N:=F.nx;refine⟨v5,M5,E,⟨λi=>((T i∨(lo<=i∧∀o n e,v≠.sliceU i o n e))∧i<M.nx),d ++ [row],x.down (by omega),H6.snoc ?_ ?_,λi o n e k h=>?_,λi h=>?_⟩,F.ok,by omega,F.lim,λi a=>g i (by omega) λo n e k=>by have:=L i o n e k;omega,λp q=>x.slice.kP p q⟩;exact H6.mono (by omega) (λi a j=>g i a λo n e k=>G i o n e k j) (λi a j=>⟨.inl j,a⟩) _ _ C;exact ig.mono (by omega) (λi a j=>g i a j.2) (λi a j=>⟨.inr j,a⟩) _ _ D;have:=(x.lt k).1;omega;rcases h.1 with h | h;exact H i h;exact h.1
theorem YS {lo:Nat}{M b:Mem}{v:d9}{l:List V7}(h:Vo lo M v l)(f:M.nx<=b.nx)(g:∀i,lo<=i->i<M.nx->b.get i=M.get i):Vo lo b v l:=by obtain⟨T,a,j,k,m,d⟩:=h;exact⟨λi=>T i∧i<M.nx,a,j.keep f g,H6.mono f (λi c p=>g i (d i p) c) (λi c h=>⟨h,c⟩) _ _ k,λi o n e q h=>m i o n e q h.1,λi h=>d i h.1⟩
def C11 (n fu r:Nat):Prop:=∀(m:Mem) (v:d9) (l:List V7),m.Ok->m.lim<=m.nx->O4 m (λ_=>True) l v->aT l=true->U2 l<=500->au l<=r->
 ∃v' m',l7 KW fu n (.func 11) [v] m=some [⟨v',m'⟩]∧Ext m m'∧O4 m' (λi=>m.nx<=i) (mH l) v'
theorem acd {n fu r:Nat}(a7:C27 n fu 20)(J:C11 n fu r)(aq:r<=20){m:Mem}(hm:m.Ok)(hl:m.lim<=m.nx){v:d9}{rows:List (List d9)}(a:List V7)(h1:eD m (λ_=>True) 5 v rows)(h2:H6 m (λ_=>True) a rows)(hf:aT a=true)(hp:U2 a<=500)(hL:au a<=r+1):
  ∀(j i:Nat),i+j=a.length->∀(c x3 out:d9) (M:Mem) (N:Nat),Ext m M->Vo m.nx M out (mH (a.take i))->j+1<=N->
  ∃c' x3' out' M',C8 (λenv m k=>Jo (l7 KW fu n) fu none env m k) N (Dl (iV (i:Int)) v c x3 out nS) M []=some [⟨.exit 0,(Dl (iV (a.length:Int)) v c' x3' out' nS),M',[],none⟩]∧Ext m M'∧Vo m.nx M' out' (mH a):=by
 have F:=H6.len h2;have ar:=U0 a;have g:=h1.slice.len;rw [F] at g;intro j;induction j with
 | zero=>
  intro i b c x3 out M N E G hN;obtain⟨N,rfl⟩:∃k,N=k+1:=⟨N-1,by omega⟩;obtain rfl:i=a.length:=by omega
  rw [ahb] at G;refine⟨.bool false,x3,out,M,?_,E,G⟩;rw [o7];simp [Jo,g]
 | succ j ih=>
  intro i b c x3 out M N E G hN;obtain⟨N,rfl⟩:∃k,N=k+1:=⟨N-1,by omega⟩;have l:i<a.length:=by omega
  have B:i<rows.length:=by omega
  have L:(i:Int)<(a.length:Int):=by omega
  have w:∀{M:Mem},Ext m M->M.lim<=M.nx:=λE=>by rw [E.lim];exact aA hl E.nx
  obtain⟨aw,o1,a1,a2,a3,a4,a5⟩:=(h1.slice.ext E).at B;have hx:=H6.get h2 i l B;have H:=hx.row.2;have D:=a4 0 5 (by omega) (by omega);rw [q8,W9 (by omega),Y1] at D;have ab:=jf a i l;have a9:=mE a i l;have aa:tQ a[i]=true:=Gq.1 hf _ (aaO l);have ht:mH (a.take i) ++ [YE a[i]]=mH (a.take (i+1)):=by rw [pz,pz,aaI l,abN];rfl
  generalize hX:a[i]=X at *;obtain⟨k,s,e,t,f⟩:=X;obtain⟨y,A,z,re,rt,rf,hR,e1,e2,t1,t2,f1,f2⟩:=hx;rw [hR] at D H;obtain⟨_,fe,ft,ff,_⟩:=JF aa;rw [stP] at ab;rw [rJ] at a9;have E0:=G6 E.ok [l9 (r5 k s y A z),.void];have F0:=E.trans E0;have gn:(ext M [l9 (r5 k s y A z),.void]).get M.nx=some (l9 (r5 k s y A z)):=by rw [r9 E.ok];rfl
  have ax:(ext M [l9 (r5 k s y A z),.void]).nx=M.nx+2:=by simp
  have av:=E.nx;obtain⟨p,M1,g1,E1,w1⟩:=a7 _ y e F0.ok (w F0) ⟨re,e1.mono F0.nx (λi b _=>F0.old i b) (λ_ _ h=>h),yH F0 e2⟩ fe (by omega) (by omega);have F1:=F0.trans E1;obtain⟨u,M2,g2,E2,w2⟩:=J _ A t F1.ok (w F1) (O4.ext ⟨rt,t1,t2⟩ F1) ft (by omega) (by omega);have F2:=F1.trans E2;obtain⟨q,M3,g3,E3,w3⟩:=J _ z f F2.ok (w F2) (O4.ext ⟨rf,f1,f2⟩ F2) ff (by omega) (by omega);have F3:=F2.trans E3;have n1:=E1.nx;have n2:=E2.nx;have n3:=E3.nx;have Zc:M1.get M.nx=some (l9 (r5 k s y A z)):=(E1.old _ (by omega)).trans gn;have I:M2.get M.nx=some (l9 (r5 k s y A z)):=(E2.old _ (by omega)).trans Zc;have a6:M3.get M.nx=some (l9 (r5 k s y A z)):=(E3.old _ (by omega)).trans I;have ao:(ext M [l9 (r5 k s y A z),.void]).get (M.nx+1)=some .void:=by rw [I7 E.ok];rfl
  have V:isVoid (M1.get (M.nx+1))=true:=by rw [E1.old _ (by omega),ao];rfl
  have W:isVoid (M2.get (M.nx+1))=true:=by rw [E2.old _ (by omega)];exact V
  have ap:isVoid (M3.get (M.nx+1))=true:=by rw [E3.old _ (by omega)];exact W
  obtain⟨ag,U,u2⟩:=w1;obtain⟨ai,Y,y2⟩:=w2;obtain⟨ah,Z,z2⟩:=w3;have ak:=bF e1.slice 99;have am:=bF t1.slice 99;have al:=bF f1.slice 99;have Q:=bF U.slice 99;have S:=bF Y.slice 99;have R:=bF Z.slice 99;have oe:=U.slice.u7;have ot:=Y.slice.u7;have ad:=Z.slice.u7;have ce:=U.slice.cells;have ct:=Y.slice.cells;have a0:=Z.slice.cells;have pe:=HZ U.slice;have pt:=HZ Y.slice;have pf:=HZ Z.slice;have an:∀i o n e,out=.sliceU i o n e->i<M.nx:=λi o n e hv=>by obtain⟨T,aj,P,_⟩:=G;exact (P.lt hv).2
  have so:bR 100 out out=true:=by obtain⟨T,aj,P,_⟩:=G;exact bF P.slice 99
  have EE:=(E0.trans E1).trans (E2.trans E3);obtain⟨M4,d⟩:∃M4,M4=M3.set (M.nx+1) (l9 (r5 k s p u q)):=⟨_,rfl⟩;have q3:M.nx+1<M3.nx:=by omega
  have ae:M4.Ok:=d▸Mem.Ok.set F3.ok q3 _;have n4:M4.nx=M3.nx:=by rw [d];rfl
  have l4:M4.lim=M3.lim:=by rw [d];rfl
  have g4:M4.get (M.nx+1)=some (l9 (r5 k s p u q)):=d▸I8 F3.ok _ q3 rfl;have C:∀i,i≠M.nx+1->M4.get i=M3.get i:=λi b=>by rw [d,K5 F3.ok _ q3 b]
  have a8:Vo m.nx M4 out (mH (a.take i)):=YS G (by omega) (λi _ b=>by rw [C i (by omega),EE.old i b]);have S1:∀i,M.nx+2<=i->(m.nx<=i∧∀o n e,out≠.sliceU i o n e):=λi h=>⟨by omega,λo n e hv=>by have:=an i o n e hv;omega⟩;have hr:ig M4 (λi=>m.nx<=i∧∀o n e,out≠.sliceU i o n e) (YE (.mk k s e t f)) (r5 k s p u q):=by
   rw [YE];refine⟨p,u,q,ag,ai,ah,rfl,U.mono (by omega) (λi b h=>by rw [C i (by omega),E3.old i (by omega),E2.old i b]) (λi _ h=>S1 i (by omega)),A9.mono (by omega) (λi b h=>by rw [C i (by omega),E3.old i (by omega),E2.old i b]) (λi _ h=>S1 i (by omega)) _ _ u2,
    Y.mono (by omega) (λi b h=>by rw [C i (by omega),E3.old i b]) (λi _ h=>S1 i (by omega)),H6.mono (by omega) (λi b h=>by rw [C i (by omega),E3.old i b]) (λi _ h=>S1 i (by omega)) _ _ y2,
    Z.mono (by omega) (λi b h=>C i (by omega)) (λi _ h=>S1 i (by omega)),H6.mono (by omega) (λi b h=>C i (by omega)) (λi _ h=>S1 i (by omega)) _ _ z2⟩
  obtain⟨v5,M5,gb,K,af,n5,l5,O,po⟩:=Vp ae a8 (by rw [l4,F3.lim];exact hl) (by omega) g4 (by omega) hr (by rw [pz,aaN,aer];omega);rw [ht] at K;have F5:Ext m M5:=⟨af,by omega,by rw [l5,l4,F3.lim],λi b=>by rw [O i b,C i (by omega),F3.old i b]⟩;obtain⟨c',x3',out',M',gg,P,q2⟩:=ih (i+1) (by omega) tt (.ptr M.nx 0) v5 M5 N F5 K (by omega);refine⟨c',x3',out',M',?_,P,q2⟩;have ac:=λx ls env hx=>akE (row:=(r5 k s p u q)) rfl (x:=x) (ls:=ls) (env:=env) hx;have hl:=w E;rw [o7,← gg];simp [Jo,P6 E.ok hl,L,g,a1,D,H,gn,Zc,I,a6,g1,g2,g3,pe,pt,pf,oe,ot,ad,ce,ct,a0,so,Jd,sZ,ak,am,al,Q,S,R,akD,ac,← d,gb,po,V,W,ap,L6 (i:=i) (by omega)]
theorem YT {n fu r:Nat}(w:20000<=fu)(e:C27 n fu 20)(d:C11 n fu r)(A:r<=20):C11 (n+1) fu (r+1):=by intro m v l g x h u z t;obtain⟨j,p,q⟩:=h;have y:=U0 l;obtain⟨G,F,a,M',o,E,T,f,B,C,H,D⟩:=acd e d A g x l p q u z t l.length 0 (by omega) .undef .undef nS m fu (Ext.refl g) (by rw [aha,mH];exact Tf _ _) (by omega);refine⟨a,M',?_,E,f,B.s.mono (q9 _) (λ_ _ _=>rfl) (λi _ h=>h),H6.mono (q9 _) (λ_ _ _=>rfl) (λi _ h=>D i h) _ _ C⟩;have c:C8 (λb m k=>Jo (l7 KW fu n) fu none b m k) fu (Dl (iV 0) v .undef .undef nS nS) m []=_:=o;rw [enter (sf:=f11) rfl rfl];simp [f11,c]
theorem ag7 (fu:Nat)(b:20000<=fu):∀r n:Nat,r<=20->110+r<=n->C11 n fu r:=by
 intro r;induction r with
 | zero=>
  intro n q p m v l o w h u x j;obtain⟨n,rfl⟩:∃k,n=k+1:=⟨n-1,by omega⟩;have c:l=[]:=by
   cases l with
   | nil=>rfl
   | cons s l=>obtain⟨k,s,e,t,f⟩:=s;rw [au,rJ] at j;omega
  subst c;obtain⟨d,g,i⟩:=h;have a:=g.slice.len;rw [H6.len i] at a;obtain⟨fu,rfl⟩:∃k,fu=k+1:=⟨fu-1,by omega⟩;refine⟨nS,m,?_,Ext.refl o,[],.inl ⟨rfl,rfl⟩,rfl⟩;rw [enter (sf:=f11) rfl rfl];simp [f11,Jo,o7,a]
 | succ r ih=>intro n q p;obtain⟨n,rfl⟩:∃k,n=k+1:=⟨n-1,by omega⟩;refine YT b ?_ (ih n (by omega) (by omega)) (by omega);obtain⟨n,rfl⟩:∃k,n=k+1:=⟨n-1,by omega⟩;exact YR b (ag6 fu b 20 n (by omega) (by omega))
theorem O4.all {m:Mem}{S:Nat->Prop}{l:List V7}{v:d9}(h:O4 m S l v){m':Mem}(E:Ext m m'):O4 m' (λ_=>True) l v:=by obtain⟨a,c,d⟩:=h;exact⟨a,c.mono E.nx (λi b _=>E.old i b) (λ_ _ _=>trivial),H6.mono E.nx (λi b _=>E.old i b) (λ_ _ _=>trivial) _ _ d⟩
theorem akG {m:Mem}(B:m.Ok)(s:m.lim<=m.nx){v:d9}{l:List V7}(h:O4 m (λ_=>True) l v)(hp:U2 l<=2000000)(o:uj l<=4000000000)(n fu:Nat)(N:320<=n)(a:20000<=fu):
  ∃m',l7 KW fu (n+1) (.func 3) [v] m=some [⟨.bool true,m'⟩]∧Ext m m':=by
 have L:∀{M:Mem},Ext m M->M.lim<=M.nx:=λE=>by rw [E.lim];exact aA s E.nx
 obtain⟨n,rfl⟩:∃k,n=k+1:=⟨n-1,by omega⟩;obtain⟨D,d,E1⟩:=akw (n:=n) (fu:=fu) (by omega) a B s h hp o;have b:∀M,l7 KW fu (n+1) (.func 7) [] M=_:=λM=>UW n fu M;by_cases hw:l.length<=520∧wS 26 l 600<=600
 case neg=>
  have e:(decide (l.length<=520)&&decide (wS 26 l 600<=600))=false:=by rw [ahl,decide_eq_false_iff_not,decide_eq_false_iff_not];omega
  rw [e] at d;refine⟨D,?_,E1⟩;rw [enter (sf:=f3) rfl rfl];simp [f3,d,b]
 have e:(decide (l.length<=520)&&decide (wS 26 l 600<=600))=true:=by rw [Hl,decide_eq_true_eq,decide_eq_true_eq];exact hw
 rw [e] at d;obtain⟨Q,w,R⟩:=Va hw.2;obtain⟨x,O,i,E2,f⟩:=akF E1.ok (L E1) (O4.ext h E1) (by omega) w n fu (by omega) a;have F2:=E1.trans E2;obtain⟨u,j,E3⟩:=akA F2.ok (L F2) (O4.ext h F2) (by omega) w n fu (by omega) a;have F3:=F2.trans E3;by_cases c:Zy l=0;rw [if_pos c] at f;rw [c] at i j;obtain⟨P,H,I⟩:=Yn (YN c);obtain⟨y,F,z,E4,t⟩:=ag7 fu a 20 (n+1) (by omega) (by omega) u v l F3.ok (L F3) (O4.ext h F3) I (by omega) H;have F4:=F3.trans E4;have C:=wI l;obtain⟨G,A,E5⟩:=afb (n+1) fu 26 a (by omega) F x y (mH l) F4.ok (L F4) (O4.all f (E3.trans E4)) (O4.all t (Ext.refl F4.ok)) (by omega) (by omega);have J:∀{β:Type} (p:d9->β) q,bC x p q=q:=λp q=>by obtain⟨r,g,_⟩:=f;exact g.slice.kP p q
 have K:∀{β:Type} (p:d9->β) q,bC y p q=q:=λp q=>by obtain⟨r,g,_⟩:=t;exact g.slice.kP p q
 refine⟨G,?_,F4.trans E5⟩;rw [enter (sf:=f3) rfl rfl];simp [f3,d,i,j,b,z,J,K,A];rw [if_neg c] at f;subst f;refine⟨u,?_,F3⟩;rw [enter (sf:=f3) rfl rfl];simp [f3,d,i,j,c,b]
end Go.Proofs.YtfddpcckppibjaaGreatDoor.TT
