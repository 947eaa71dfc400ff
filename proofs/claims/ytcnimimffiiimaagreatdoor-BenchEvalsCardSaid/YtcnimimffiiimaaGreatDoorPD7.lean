/- Evaluation of the specification and of the program with variables, and the law BenchEvals: it answers true on statements of a bounded bulk; conditions: the memory holds what the arguments say. -/
import Derived.Test.YtcnimimffiiimaaGreatDoorPD6
set_option linter.all false
namespace Go.Proofs.YtcnimimffiiimaaGreatDoor.TT
open Go Go.AM
set_option maxRecDepth 100000
set_option maxHeartbeats 16000000
theorem VY (x:Int)(n fu:Nat)(m:Mem):l9 KW fu (n+1) (.func 42) [iV x] m=some [⟨.bool (dI x),m⟩]:=by rw [enter (sf:=f42) rfl rfl];by_cases h:-9007199254740992<=x<;>simp [f42,dI,h]
theorem Ow (b:Bool)(n fu:Nat)(m:Mem):l9 KW fu (n+1) (.func 76) [.bool b] m=some [⟨iV (nN b),m⟩]:=by rw [enter (sf:=f76) rfl rfl];cases b<;>simp [f76,nN]
theorem adb (a b:Int)(n fu:Nat)(m:Mem):l9 KW fu (n+1) (.func 77) [iV a,iV b] m=some [⟨iV (kT a b),m⟩]:=by rw [enter (sf:=f77) rfl rfl];unfold kT;by_cases h:a=0<;>simp [f77,h]
theorem Zx (x:Int)(n fu:Nat)(m:Mem):l9 KW fu (n+2) (.func 132) [iV x] m=some [⟨.tuple [.int .i64 (Gx x).1,.int .i64 (Gx x).2],m⟩]:=by have g:=VY x n fu m;rw [enter (sf:=f132) rfl rfl];unfold Gx;cases h:dI x;rw [h] at g;simp [f132,g];rw [h] at g;simp [f132,g]
theorem Zy {a b:Int}(h:dI a=true)(hb:dI b=true)(n fu:Nat)(m:Mem):l9 KW fu (n+1) (.func 131) [iV a,iV b] m=some [⟨.tuple [.int .i64 (DZ a b).1,.int .i64 (DZ a b).2],m⟩]:=by
 rw [enter (sf:=f131) rfl rfl];have o:=oJ h;have p:=oJ hb;simp only [dI,gI,decide_eq_true_eq] at h hb;by_cases h1:a=0;subst h1;have e:DZ 0 b=(0,0):=by unfold DZ aL;simp
 have c:JC .i64 0 b=some (iV 0):=by show some (d9.int .i64 (tX (0*b)))=_;rw [Int.zero_mul];rfl
 rw [e];simp [f131,c];by_cases h2:b=0;subst h2;have e:DZ a 0=(0,0):=by unfold DZ aL;simp
 have c:JC .i64 a 0=some (iV 0):=by show some (d9.int .i64 (tX (a*0)))=_;rw [Int.mul_zero];rfl
 rw [e];simp [f131,h1,c];have k:kV .i64 (-a)=-a:=U8 (n:=-a) (by omega) (by omega);have l:kV .i64 (-b)=-b:=U8 (n:=-b) (by omega) (by omega);have i:=Qd a;have j:=Qd b;have f:0<aL a:=by unfold aL;omega
 have q:Er .i64 9007199254740992 (aL a)=some (iV (9007199254740992 / aL a)):=by rw [Jm (by omega) (by decide),Qe f]
 by_cases h3:9007199254740992<aL a*aL b;have e:DZ a b=(0,3):=by unfold DZ;rw [if_pos h3]
 have d:decide (9007199254740992 / aL a<aL b)=true:=decide_eq_true ((Jo f).2 (by rw [Int.mul_comm];exact h3));rw [e];simp [f131,h1,h2,Sv,wY,k,l,i,j,q,d,yN];have e:DZ a b=(a*b,0):=by unfold DZ;rw [if_neg h3]
 have d:decide (9007199254740992 / aL a<aL b)=false:=decide_eq_false λx=>h3 (by rw [Int.mul_comm];exact (Jo f).1 x);have g:=Jk a b;have c:JC .i64 a b=some (iV (a*b)):=by show some (d9.int .i64 (tX (a*b)))=_;rw [U8 (by unfold aL at g h3;omega) (by unfold aL at g h3;omega)]
 rw [e];simp [f131,h1,h2,Sv,wY,k,l,i,j,q,d,yN,c]
theorem VZ {x:Int}(h:dI x=true):Gx x=(x,0):=by unfold Gx;rw [if_pos h]
theorem ade {k a b:Int}(s:6<=k)(t:k<=16)(g:dI a=true)(hb:dI b=true)(n fu:Nat)(m:Mem):l9 KW fu (n+3) (.func 78) [iV k,iV a,iV b] m=some [⟨.tuple [.int .i64 (zO k a b).1,.int .i64 (zO k a b).2],m⟩]:=by
 have f:=Zy g hb (n+1) fu m;have c:=λx=>Zx x n fu m;have d:=λx=>Ow x (n+1) fu m;have i:=g;have j:=hb;simp only [dI,gI,decide_eq_true_eq] at i j;have w:tX (a+b)=a+b:=U8 (by omega) (by omega);have r:qZ .i64 a b=some (iV (a-b)):=by show some (d9.int .i64 (tX (a-b)))=_;rw [U8 (by omega) (by omega)]
 have l:b≠0->Er .i64 a b=some (iV (a.tdiv b)):=λh=>Jm h g;have o:b≠0->Qr .i64 a b=some (iV (a.tmod b)):=λh=>VN h;have p:b≠0->Gx (a.tdiv b)=(a.tdiv b,0):=λh=>VZ (Ea (ajF (Eb a b h) (oJ g)));have q:Gx (a.tmod b)=(a.tmod b,0):=VZ (Ea (ajF (Ma a b) (oJ g)));rw [enter (sf:=f78) rfl rfl];obtain rfl | rfl | rfl | rfl | rfl | rfl | rfl | rfl | rfl | rfl | rfl:k=6∨k=7∨k=8∨k=9∨k=10∨k=11∨k=12∨k=13∨k=14∨k=15∨k=16:=by omega
 have e:zO 6 a b=DZ a b:=rfl;simp [f78,f,e];have e:zO 7 a b=dvB a b:=rfl;rw [e];unfold dvB;by_cases h:b=0;simp [f78,h];simp [f78,h,l h,c,p h];have e:zO 8 a b=mdB a b:=rfl;rw [e];unfold mdB;by_cases h:b=0;simp [f78,h];simp [f78,h,o h,c,q];have e:zO 9 a b=Gx (a+b):=rfl;simp [f78,e,w,c];have e:zO 10 a b=Gx (a-b):=rfl;simp [f78,e,r,c];have e:zO 11 a b=(nN (Bo 11 a b),0):=rfl;simp [f78,e,d,Bo];have e:zO 12 a b=(nN (Bo 12 a b),0):=rfl;simp [f78,e,d,Bo];have e:zO 13 a b=(nN (Bo 13 a b),0):=rfl;simp [f78,e,d,Bo];have e:zO 14 a b=(nN (Bo 14 a b),0):=rfl;simp [f78,e,d,Bo];have e:zO 15 a b=(nN (Bo 15 a b),0):=rfl;simp [f78,e,d,Bo];have e:zO 16 a b=(nN (Bo 16 a b),0):=rfl;simp [f78,e,d,Bo]
def P7 (V:List (List UInt8×Int)):List (List d9):=V.map λp=>[.str p.1,.int .i64 p.2]
theorem Zz {n fu:Nat}{M:Mem}{v:d9}(V:List (List UInt8×Int))(h:aR M 2 v (P7 V))(hb:V.length<=1000)(s:By):∀(j i:Nat),i+j=V.length->∀(c2 c4:d9) (N:Nat),j+1<=N->
  ((∃c2' c4',H7 (λenv m k=>vJ (l9 KW fu n) fu none env m k) N (zM (iV (i:Int)) v c2 (.str s) c4 (iV 0)) M []=some [⟨.exit 0,(zM (iV (V.length:Int)) v c2' (.str s) c4' (iV 0)),M,[],none⟩]∧AJ (V.drop i) s=0)∨
   (∃i' c2' c4',H7 (λenv m k=>vJ (l9 KW fu n) fu none env m k) N (zM (iV (i:Int)) v c2 (.str s) c4 (iV 0)) M []=some [⟨.ret,(zM i' v c2' (.str s) c4' (.int .i64 (AJ (V.drop i) s))),M,[],none⟩])):=by
 have a:=h.len;rw [show (P7 V).length=V.length from by simp [P7]] at a;intro j;induction j with
 | zero=>
  intro i w c2 c4 N u;obtain⟨N,rfl⟩:∃k,N=k+1:=⟨N-1,by omega⟩;obtain rfl:i=V.length:=by omega
  refine .inl ⟨.bool false,c4,?_,by rw [aaC];rfl⟩;rw [A9];simp [vJ,a]
 | succ j ih=>
  intro i w c2 c4 N u;obtain⟨N,rfl⟩:∃k,N=k+1:=⟨N-1,by omega⟩;have q:i<V.length:=by omega
  have b:(i:Int)<(V.length:Int):=by omega
  obtain⟨e,t,r,y,A,B,g⟩:=h.at (i:=i) (by simp [P7];omega);have d:(P7 V)[i]'(by simp [P7];omega)=[.str V[i].1,.int .i64 V[i].2]:=by simp [P7]
  rw [d] at g;have c:=g 0 (by omega);have l:=g 1 (by omega);rw [Y5] at c;have c:ld1 (M.get e) t=some (.str V[i].1):=c;have l:ld1 (M.get e) (t+1)=some (.int .i64 V[i].2):=l;have o:V.drop i=V[i]::V.drop (i+1):=Xd q;rw [o];generalize V[i]=p at *;obtain⟨x,z⟩:=p;rw [AJ];by_cases hs:x=s;rw [if_pos hs];refine .inr ⟨iV (i:Int),.bool true,.bool true,?_⟩;rw [A9];simp [vJ,a,b,r,c,l,hs,K8];rw [if_neg hs];have f:H7 (λenv m k=>vJ (l9 KW fu n) fu none env m k) (N+1) (zM (iV (i:Int)) v c2 (.str s) c4 (iV 0)) M []=H7 (λenv m k=>vJ (l9 KW fu n) fu none env m k) N (zM (.int .i64 ((i+1:Nat):Int)) v tt (.str s) ff (iV 0)) M []:=by rw [A9];simp [vJ,a,b,r,c,hs,K8,T9 (i:=i) (by omega)]
  rw [f];exact ih (i+1) (by omega) _ _ N (by omega)
theorem adf {M:Mem}{v:d9}{V:List (List UInt8×Int)}(h:aR M 2 v (P7 V))(hb:V.length<=1000)(s:By)(n fu:Nat)(c:20000<=fu):l9 KW fu (n+1) (.func 75) [v,.str s] M=some [⟨iV (AJ V s),M⟩]:=by rcases Zz (n:=n) (fu:=fu) V h hb s V.length 0 (by omega) .undef .undef fu (by omega) with⟨c2',c4',g,e⟩ | ⟨i',c2',c4',g⟩;have b:H7 (λa m k=>vJ (l9 KW fu n) fu none a m k) fu (zM (iV 0) v .undef (.str s) .undef (iV 0)) M []=_:=g;rw [J4] at e;rw [enter (sf:=f75) rfl rfl,e];simp [f75,b];have b:H7 (λa m k=>vJ (l9 KW fu n) fu none a m k) fu (zM (iV 0) v .undef (.str s) .undef (iV 0)) M []=_:=g;rw [J4] at b;rw [enter (sf:=f75) rfl rfl];simp [f75,b]
def C44 (V:List (List UInt8×Int))(n fu r:Nat):Prop:=∀(M:Mem) (vv:d9) (x:Ex) (row:List d9),M.Ok->M.lim<=M.nx->aR M 2 vv (P7 V)->bU M (λ_=>True) x row->dw x=true->Bp x=false->fA x<=r->
 ∃M',l9 KW fu n (.func 44) [.agg row,vv] M=some [⟨.tuple [.int .i64 (fB V x).1,.int .i64 (fB V x).2],M'⟩]∧Ext M M'
theorem Qj:∀{l:List Ex},Qh l=false->∀x∈l,Bp x=false
 | [],_,x,hx=>by cases hx
 | y::l,h,x,hx=>by rw [Qh,adG] at h;rcases X4.1 hx with rfl | hx;exact h.1;exact Qj h.2 x hx
theorem Qk {V:List (List UInt8×Int)}{n fu r:Nat}(z:C44 V n fu r){M:Mem}(E:M.Ok)(y:M.lim<=M.nx){h v:d9}{rows:List (List d9)}{a:List Ex}(w:aR M 2 h (P7 V))(p:oW M (λ_=>True) 4 v rows)(q:G8 M (λ_=>True) a rows)(d:Qh a=false)(u:aj a<=r)
  {i:Nat} (e:i<a.length) (x:dw a[i]=true) {A:Mem} (b:Ext M A):
  ∃id o row M',qj v none (λid off len _=>idx len (d9.int .i64 i) λk=>some (d9.ptr id (off+k*4))) (λid off len _=>idx len (d9.int .i64 i) λk=>some (d9.ptr id (off+k*4)))=some (.ptr id o)∧MG (A.get id) o 4=some (.agg row)∧
   l9 KW fu n (.func 44) [.agg row,h] A=some [⟨.tuple [.int .i64 (fB V a[i]).1,.int .i64 (fB V a[i]).2],M'⟩]∧Ext A M'∧id<M.nx:=by
 have F:=G8.len q;obtain⟨id,o,j,B,C,s,D⟩:=(p.slice.ext b).at (i:=i) (by omega);obtain⟨_,g⟩:=aaP p (by omega) j;have m:=G8.get q i e (by omega);have l:=m.row;have c:=s 0 4 (by omega) (by omega);rw [J4,Y7 (by omega),Y5] at c;have f:fA a[i]<=r:=J2 (kI a i e) u;obtain⟨M',t,E1⟩:=z A h a[i] rows[i] b.ok (by rw [b.lim];exact J2 y b.nx) (w.ext b) (SK b m) x (Qj d _ (aaA e)) f;exact⟨id,o,rows[i],M',j,c,t,E1,g⟩
theorem adg {V:List (List UInt8×Int)}(hb:V.length<=1000)(N:∀p∈V,dI p.2=true)(fu:Nat)(T:20000<=fu):∀r n:Nat,r+8<=n->C44 V n fu r:=by
 intro r;induction r with
 | zero=>intro n hn M vv x u D J E hx I m S;cases x;rw [fA] at S;omega
 | succ r ih=>
  intro n hn M vv x u D J E hx I m S;obtain⟨n,rfl⟩:∃k,n=k+1:=⟨n-1,by omega⟩;obtain⟨k,W,s,a⟩:=x;obtain⟨v,a3,rfl,O,P⟩:=hx;have E0:=J5 D [r9 (r4 k W s v)];have l:(ext M [r9 (r4 k W s v)]).get M.nx=some (r9 (r4 k W s v)):=by rw [D6 D];rfl
  rw [fA] at S;rcases LY I with rfl | rfl | rfl | rfl | rfl | ⟨k1,k2⟩;refine⟨_,?_,E0⟩;rw [enter (sf:=f44) rfl rfl,fB,if_pos rfl];simp [f44,G7,I8,l];have gv:=adf (E.ext E0) hb s (n-1) fu T;rw [abV (by omega)] at gv;refine⟨_,?_,E0⟩;rw [enter (sf:=f44) rfl rfl,fB,if_neg (by decide),if_pos rfl];simp [f44,G7,I8,l,gv];rw [Bp] at m;simp at m;obtain⟨rfl,rfl,y,rfl,B⟩:=BL I (.inl rfl);rw [Bp,decide_eq_false (by omega),aaO] at m;obtain⟨id,o,u,M1,d,f,F,E1,j⟩:=Qk (ih n (by omega)) D J E O P m (by omega) (i:=0) (by simp) (by simpa using B) E0;simp at d;have t:=AL N B;simp only [abZ] at F;have g:(ext M [r9 (r4 4 0 [] v)]).get id=M.get id:=E0.old _ j;rw [g] at f;refine⟨M1,?_,E0.trans E1⟩;have nv:qZ .i64 0 (fB V y).1=some (.int .i64 (-(fB V y).1)):=by simp only [dI,gI,decide_eq_true_eq] at t;show some (d9.int .i64 (tX (0-(fB V y).1)))=_;rw [U8 (by omega) (by omega),Int.zero_sub]
  have e:fB V (.mk 4 0 [] [y])=(-(fB V y).1,(fB V y).2):=by rw [fB,if_neg (by decide),if_neg (by decide),Jj,if_pos rfl];rfl
  rw [enter (sf:=f44) rfl rfl,e];generalize fB V y=z at *;simp [f44,G7,I8,l,d,f,g,F,nv];obtain⟨rfl,rfl,y,rfl,B⟩:=BL I (.inr rfl);rw [Bp,decide_eq_false (by omega),aaO] at m;obtain⟨id,o,u,M1,d,f,F,E1,j⟩:=Qk (ih n (by omega)) D J E O P m (by omega) (i:=0) (by simp) (by simpa using B) E0;simp at d;have t:=AL N B;simp only [abZ] at F;have g:(ext M [r9 (r4 5 0 [] v)]).get id=M.get id:=E0.old _ j;rw [g] at f;refine⟨M1,?_,E0.trans E1⟩;have e:fB V (.mk 5 0 [] [y])=(nN (decide ((fB V y).1=0)),(fB V y).2):=by rw [fB,if_neg (by decide),if_neg (by decide),Jj,if_neg (by decide),if_pos rfl];rfl
  rw [enter (sf:=f44) rfl rfl,e];generalize fB V y=z at *;have G:=λb=>Ow b (n-1) fu M1;rw [abV (by omega)] at G;simp [f44,G7,I8,l,d,f,g,F,G];obtain⟨rfl,rfl,y,z,rfl,B,hz⟩:=Qa I k1 k2;rw [Bp,decide_eq_false (by omega),aaO] at m;obtain⟨id,o,u,M1,d,f,A,E1,j⟩:=Qk (ih n (by omega)) D J E O P m (by omega) (i:=0) (by simp) (by simpa using B) E0;have EE1:=E0.trans E1;obtain⟨a7,o2,a2,M2,K,Q,L,E2,a0⟩:=Qk (ih n (by omega)) D J E O P m (by omega) (i:=1) (by simp) (by simpa using hz) EE1;have EE2:=EE1.trans E2;simp at d K;have t:=AL N B;have U:=AL N hz;simp only [abZ,aeM] at A L;have a5:=E1.nx;have a6:=E2.nx;have a8:(ext M [r9 (r4 k 0 [] v)]).nx=M.nx+1:=by simp
  have g:(ext M [r9 (r4 k 0 [] v)]).get id=M.get id:=E0.old _ j;rw [g] at f;have c:M1.get M.nx=some (r9 (r4 k 0 [] v)):=(E1.old _ (by omega)).trans l;have C:M2.get M.nx=some (r9 (r4 k 0 [] v)):=(E2.old _ (by omega)).trans c;have e:fB V (.mk k 0 [] [y,z])=Jj k (fB V y) (fB V z):=by rw [fB,if_neg (by omega),if_neg (by omega)];rfl
  have n1:¬ k=1:=by omega
  have n2:¬ k=2:=by omega
  have n3:¬ k=3:=by omega
  have n4:¬ k=4:=by omega
  have n5:¬ k=5:=by omega
  have h:=λb M=>Ow b (n-1) fu M;rw [abV (by omega)] at h;have q:=λa b M=>adb a b (n-1) fu M;rw [abV (by omega)] at q;rw [e];generalize fB V y=Y at *;generalize fB V z=Z' at *;by_cases ho:k=17∨k=18;have R:Jj k Y Z'=if (!decide (Y.1=0))=decide (k=18) then (nN (!decide (Y.1=0)),Y.2) else (nN (!decide (Z'.1=0)),kT Y.2 Z'.2):=by rw [Jj,if_neg (by omega),if_neg (by omega),if_pos ho]
  rw [R];by_cases hs:(!decide (Y.1=0))=decide (k=18);rw [if_pos hs];refine⟨M1,?_,EE1⟩;rw [enter (sf:=f44) rfl rfl];rcases ho with rfl | rfl;have w:Y.1=0:=by simpa using hs
  rw [w] at A;simp [f44,G7,I8,l,d,f,g,A,c,h,w];have w:¬ Y.1=0:=by simpa using hs
  simp [f44,G7,I8,l,d,f,g,A,c,h,w];rw [if_neg hs];refine⟨M2,?_,EE2⟩;rw [enter (sf:=f44) rfl rfl];rcases ho with rfl | rfl;have w:¬ Y.1=0:=by simpa using hs
  simp [f44,G7,I8,l,d,f,g,A,c,C,K,Q,L,h,q,w];have w:Y.1=0:=by simpa using hs
  rw [w] at A;simp [f44,G7,I8,l,d,f,g,A,c,C,K,Q,L,h,q,w];have k3:k<=16:=by omega
  have X:¬ k=17:=by omega
  have Z:¬ k=18:=by omega
  have H:=ade k1 k3 t U (n-3) fu M2;rw [show n-3+3=n from by omega] at H;have R:Jj k Y Z'=((zO k Y.1 Z'.1).1,kT (kT Y.2 Z'.2) (zO k Y.1 Z'.1).2):=by rw [Jj,if_neg (by omega),if_neg (by omega),if_neg ho]
  rw [R];refine⟨M2,?_,EE2⟩;rw [enter (sf:=f44) rfl rfl];simp [f44,G7,I8,l,d,f,g,A,c,C,K,Q,L,q,H,n1,n2,n3,n4,n5,X,Z]
def K41 (n fu r:Nat):Prop:=∀(m:Mem) (row:List d9) (e:Ex),m.Ok->m.lim<=m.nx->bU m (λ_=>True) e row->gQ e<=10000->fA e<=r->
 ∃m',l9 KW fu n (.func 41) [.agg row] m=some [⟨.bool (Bp e),m'⟩]∧Ext m m'
theorem Wh {n fu r:Nat}(t:K41 n fu r){m:Mem}(I:m.lim<=m.nx){v:d9}{rows:List (List d9)}(a:List Ex)(z:oW m (λ_=>True) 4 v rows)(A:G8 m (λ_=>True) a rows)(hp:Z0 a<=10000)(R:aj a<=r)(k n0:Int)(s:By){p:Nat}(l:p<m.nx)(y:m.get p=some (r9 (r4 k n0 s v))):
  ∀(j i:Nat),i+j=a.length->∀(c3 x4:d9) (M:Mem) (N:Nat),Ext m M->j+1<=N->
  (Qh (a.drop i)=false∧∃c3' x4' M',H7 (λenv m k=>vH (l9 KW fu n) fu none env m k) N (zM (.agg (r4 k n0 s v)) (iV (i:Int)) (.ptr p 0) c3 x4 ff) M []=some [⟨.exit 0,(zM (.agg (r4 k n0 s v)) (iV (a.length:Int)) (.ptr p 0) c3' x4' ff),M',[],none⟩]∧Ext m M')∨
  (Qh (a.drop i)=true∧∃i' c3' x4' M',H7 (λenv m k=>vH (l9 KW fu n) fu none env m k) N (zM (.agg (r4 k n0 s v)) (iV (i:Int)) (.ptr p 0) c3 x4 ff) M []=some [⟨.ret,(zM (.agg (r4 k n0 s v)) (iV i') (.ptr p 0) c3' x4' tt),M',[],none⟩]∧Ext m M'):=by
 have h:=G8.len A;have J:=V3 a;have b:=z.slice.len;rw [h] at b;intro j;induction j with
 | zero=>
  intro i H c3 x4 M N E F;obtain⟨N,rfl⟩:∃k,N=k+1:=⟨N-1,by omega⟩;obtain rfl:i=a.length:=by omega
  have c:=(E.old _ l).trans y;refine .inl ⟨by rw [aaC];rfl,.bool false,x4,M,?_,E⟩;rw [A9];simp [vH,c,b]
 | succ j ih=>
  intro i H c3 x4 M N E F;obtain⟨N,rfl⟩:∃k,N=k+1:=⟨N-1,by omega⟩;have d:i<a.length:=by omega
  have e:i<rows.length:=by omega
  have f:(i:Int)<(a.length:Int):=by omega
  have c:=(E.old _ l).trans y;obtain⟨L,S,x,O,P,D,Q⟩:=(z.slice.ext E).at e;have C:=G8.get A i d e;have B:=C.row;have g:=D 0 4 (by omega) (by omega);rw [J4,Y7 (by omega),Y5] at g;have K:=jo a i d;have G:=kI a i d;have u:a.drop i=a[i]::a.drop (i+1):=Xd d;rw [u,Qh];obtain⟨w,q,E2⟩:=t M rows[i] a[i] E.ok (by rw [E.lim];exact J2 I E.nx) (SK E C) (by omega) (by omega);cases hc:Bp a[i] with
  | true=>rw [hc] at q;refine .inr ⟨rfl,(i:Int),.bool true,.bool true,w,?_,E.trans E2⟩;rw [A9];simp [vH,c,b,f,x,g,q]
  | false=>
   rw [hc] at q;have o:H7 (λenv m k=>vH (l9 KW fu n) fu none env m k) (N+1) (zM (.agg (r4 k n0 s v)) (iV (i:Int)) (.ptr p 0) c3 x4 ff) M []=H7 (λenv m k=>vH (l9 KW fu n) fu none env m k) N (zM (.agg (r4 k n0 s v)) (.int .i64 ((i+1:Nat):Int)) (.ptr p 0) tt ff ff) w []:=by rw [A9];simp [vH,c,b,f,x,g,q,T9 (i:=i) (by omega)]
   rw [o,aaO];exact ih (i+1) (by omega) _ _ w N (E.trans E2) (by omega)
theorem adh (fu:Nat)(x:20000<=fu):∀r n:Nat,r+1<=n->K41 n fu r:=by
 intro r;induction r with
 | zero=>intro n A m l e j q h t f;cases e;rw [fA] at f;omega
 | succ r ih=>
  intro n A m l e j q h t f;obtain⟨n,rfl⟩:∃k,n=k+1:=⟨n-1,by omega⟩;obtain⟨k,b,s,a⟩:=e;obtain⟨v,u,rfl,B,C⟩:=h;rw [gQ] at t;rw [fA] at f;have z:=V3 a;have E0:=J5 j [r9 (r4 k b s v)];have o:(ext m [r9 (r4 k b s v)]).get m.nx=some (r9 (r4 k b s v)):=by rw [D6 j];rfl
  have D:(ext m [r9 (r4 k b s v)]).nx=m.nx+1:=by simp
  rw [Bp];rcases Wh (m:=ext m [r9 (r4 k b s v)]) (n:=n) (fu:=fu) (r:=r) (ih n (by omega)) (by rw [E0.lim];exact J2 q E0.nx) a (B.mono E0.nx (λi y _=>E0.old i y) (λ_ _ h=>h)) (Vm E0 C) (by omega) (by omega) k b s (p:=m.nx) (by omega) o a.length 0 (by omega) .undef .undef (_) fu (Ext.refl E0.ok) (by omega) with⟨hc,c3',x4',M',g,E⟩ | ⟨hc,i',c3',x4',M',g,E⟩;rw [J4] at hc;have d:H7 (λc m k=>vH (l9 KW fu n) fu none c m k) fu (zM (.agg (r4 k b s v)) (iV 0) (.ptr m.nx 0) .undef .undef ff) (ext m [r9 (r4 k b s v)]) []=_:=g;have w:M'.get m.nx=some (r9 (r4 k b s v)):=(E.old _ (by omega)).trans o;refine⟨M',?_,E0.trans E⟩;rw [enter (sf:=f41) rfl rfl,hc,agf];simp [f41,G7,d,w];rw [J4] at hc;have d:H7 (λc m k=>vH (l9 KW fu n) fu none c m k) fu (zM (.agg (r4 k b s v)) (iV 0) (.ptr m.nx 0) .undef .undef ff) (ext m [r9 (r4 k b s v)]) []=_:=g;refine⟨M',?_,E0.trans E⟩;rw [enter (sf:=f41) rfl rfl,hc,Bool.or_true];simp [f41,G7,d]
theorem Ee (n:Nat)(b:Bool):dz (n+1) (.bool b) (.bool b)=true:=by cases b<;>rfl
theorem mq (p:List UInt8×Int)(V:List (List UInt8×Int))(s:List UInt8):isIn (p::V) s=(p.1==s||isIn V s):=rfl
theorem Wi {n fu:Nat}{M:Mem}{t:d9}(V:List (List UInt8×Int))(h:aR M 2 t (P7 V))(hb:V.length<=1000){v:d9}(k n0:Int)(s:By){p:Nat}(g:M.get p=some (r9 (r4 k n0 s v))):∀(j i:Nat),i+j=V.length->∀(c4:d9) (b:Bool) (N:Nat),j+1<=N->
  ∃c4',H7 (λenv m k=>DR (l9 KW fu n) fu none env m k) N (ML (.agg (r4 k n0 s v)) (.ptr p 0) (iV (i:Int)) t c4 (.bool b) .undef .undef ff) M []=some [⟨.exit 0,(ML (.agg (r4 k n0 s v)) (.ptr p 0) (iV (V.length:Int)) t c4' (.bool (b||isIn (V.drop i) s)) .undef .undef ff),M,[],none⟩]:=by
 have a:=h.len;rw [show (P7 V).length=V.length from by simp [P7]] at a;intro j;induction j with
 | zero=>
  intro i z c4 b N y;obtain⟨N,rfl⟩:∃k,N=k+1:=⟨N-1,by omega⟩;obtain rfl:i=V.length:=by omega
  refine⟨.bool false,?_⟩;rw [A9,aaC,show isIn [] s=false from rfl,agf];simp [DR,a]
 | succ j ih=>
  intro i z c4 b N y;obtain⟨N,rfl⟩:∃k,N=k+1:=⟨N-1,by omega⟩;have o:i<V.length:=by omega
  have c:(i:Int)<(V.length:Int):=by omega
  obtain⟨r,A,f,B,C,D,u⟩:=h.at (i:=i) (by simp [P7];omega);have e:(P7 V)[i]'(by simp [P7];omega)=[.str V[i].1,.int .i64 V[i].2]:=by simp [P7]
  rw [e] at u;have d:=u 0 (by omega);rw [Y5] at d;have d:ld1 (M.get r) A=some (.str V[i].1):=d;have l:V.drop i=V[i]::V.drop (i+1):=Xd o;obtain⟨c4',w⟩:=ih (i+1) (by omega) tt (b||(V[i].1==s)) N (by omega);refine⟨c4',?_⟩;rw [l,mq,← aeT,A9,← w];generalize V[i].1=x at *;cases b with
  | true=>simp [DR,a,c,g,f,d,K8,wM,Ee,T9 (i:=i) (by omega)]
  | false=>
   by_cases hs:x=s;simp [DR,a,c,g,f,d,hs,K8,wM,Ee,T9 (i:=i) (by omega)];have q:(x==s)=false:=by simpa using hs
   simp [DR,a,c,g,f,d,hs,q,K8,wM,Ee,T9 (i:=i) (by omega)]
def K43 (V:List (List UInt8×Int))(n fu r:Nat):Prop:=∀(m:Mem) (vv:d9) (row:List d9) (e:Ex),m.Ok->m.lim<=m.nx->aR m 2 vv (P7 V)->bU m (λ_=>True) e row->gQ e<=10000->fA e<=r->
 ∃m',l9 KW fu n (.func 43) [.agg row,vv] m=some [⟨.bool (!MN V e),m'⟩]∧Ext m m'
theorem Wj {V:List (List UInt8×Int)}{n fu r:Nat}(w:K43 V n fu r){m:Mem}(L:m.lim<=m.nx){t v:d9}(Q:aR m 2 t (P7 V)){rows:List (List d9)}(a:List Ex)(z:oW m (λ_=>True) 4 v rows)(A:G8 m (λ_=>True) a rows)(hp:Z0 a<=10000)(X:aj a<=r)(k n0:Int)(s:By){p:Nat}(o:p<m.nx)(y:m.get p=some (r9 (r4 k n0 s v)))(x2 D:d9):
  ∀(j i:Nat),i+j=a.length->∀(b:Bool) (c7:d9) (M:Mem) (N:Nat),Ext m M->j+1<=N->
  ∃c7' M',H7 (λenv m k=>Gp (l9 KW fu n) fu none env m k) N (ML (.agg (r4 k n0 s v)) (.ptr p 0) x2 t D (.bool b) (iV (i:Int)) c7 ff) M []=some [⟨.exit 2,(ML (.agg (r4 k n0 s v)) (.ptr p 0) x2 t D (.bool (b && !SN V (a.drop i))) (iV (a.length:Int)) c7' ff),M',[],none⟩]∧Ext m M':=by
 have h:=G8.len A;have O:=V3 a;have c:=z.slice.len;rw [h] at c;intro j;induction j with
 | zero=>
  intro i K b c7 M N E I;obtain⟨N,rfl⟩:∃k,N=k+1:=⟨N-1,by omega⟩;obtain rfl:i=a.length:=by omega
  have d:=(E.old _ o).trans y;refine⟨.bool false,M,?_,E⟩;rw [A9,aaC,show SN V []=false from rfl,ajV,akc];simp [Gp,d,c]
 | succ j ih=>
  intro i K b c7 M N E I;obtain⟨N,rfl⟩:∃k,N=k+1:=⟨N-1,by omega⟩;have e:i<a.length:=by omega
  have f:i<rows.length:=by omega
  have g:(i:Int)<(a.length:Int):=by omega
  have d:=(E.old _ o).trans y;obtain⟨R,Y,F,T,U,G,W⟩:=(z.slice.ext E).at f;have C:=G8.get A i e f;have B:=C.row;have l:=G 0 4 (by omega) (by omega);rw [J4,Y7 (by omega),Y5] at l;have P:=jo a i e;have J:=kI a i e;have x:a.drop i=a[i]::a.drop (i+1):=Xd e;cases b with
  | false=>obtain⟨c7',M',q,E'⟩:=ih (i+1) (by omega) false tt M N E (by omega);refine⟨c7',M',?_,E'⟩;rw [ag7] at q ⊢;rw [A9,← q];simp [Gp,d,c,g,T9 (i:=i) (by omega)]
  | true=>obtain⟨S,H,E2⟩:=w M t rows[i] a[i] E.ok (by rw [E.lim];exact J2 L E.nx) (Q.ext E) (SK E C) (by omega) (by omega);obtain⟨c7',M',q,E'⟩:=ih (i+1) (by omega) (!MN V a[i]) tt S N (E.trans E2) (by omega);refine⟨c7',M',?_,E'⟩;rw [x,SN,Bool.not_or,abY,A9,← q];generalize MN V a[i]=u at *;simp [Gp,d,c,g,F,l,H,T9 (i:=i) (by omega)]
theorem adi {V:List (List UInt8×Int)}(hb:V.length<=1000)(fu:Nat)(C:20000<=fu):∀r n:Nat,r+1<=n->K43 V n fu r:=by
 intro r;induction r with
 | zero=>intro n G m u t e o y q h z l;cases e;rw [fA] at l;omega
 | succ r ih=>
  intro n G m u t e o y q h z l;obtain⟨n,rfl⟩:∃k,n=k+1:=⟨n-1,by omega⟩;obtain⟨k,b,s,a⟩:=e;obtain⟨v,A,rfl,H,I⟩:=h;rw [gQ] at z;rw [fA] at l;have F:=V3 a;have E0:=J5 o [r9 (r4 k b s v)];have j:(ext m [r9 (r4 k b s v)]).get m.nx=some (r9 (r4 k b s v)):=by rw [D6 o];rfl
  have J:(ext m [r9 (r4 k b s v)]).nx=m.nx+1:=by simp
  obtain⟨g,w⟩:=Wi (n:=n) (fu:=fu) V (q.ext E0) hb k b s j V.length 0 (by omega) .undef (!decide (k=2)) fu (by omega);rw [J4] at w;have c:H7 (λf m k=>DR (l9 KW fu n) fu none f m k) fu (ML (.agg (r4 k b s v)) (.ptr m.nx 0) (iV 0) u .undef (.bool (!decide (k=2))) .undef .undef ff) (ext m [r9 (r4 k b s v)]) []=_:=w;obtain⟨B,M',x,E⟩:=Wj (m:=ext m [r9 (r4 k b s v)]) (n:=n) (fu:=fu) (r:=r) (ih n (by omega)) (by rw [E0.lim];exact J2 y E0.nx) (q.ext E0) a (H.mono E0.nx (λi D _=>E0.old i D) (λ_ _ h=>h)) (Vm E0 I) (by omega) (by omega) k b s (p:=m.nx) (by omega) j (iV (V.length:Int)) g a.length 0 (by omega) (!decide (k=2)||isIn V s) .undef (_) fu (Ext.refl E0.ok) (by omega);rw [J4] at x;have d:H7 (λf m k=>Gp (l9 KW fu n) fu none f m k) fu (ML (.agg (r4 k b s v)) (.ptr m.nx 0) (iV (V.length:Int)) u g (.bool (!decide (k=2)||isIn V s)) (iV 0) .undef ff) (ext m [r9 (r4 k b s v)]) []=_:=x
  refine⟨M',?_,E0.trans E⟩;rw [enter (sf:=f43) rfl rfl,MN,Bool.not_or,Bool.not_and,Bool.not_not];by_cases hk:k=2;subst hk;simp at c d;simp [f43,G7,j,c,d];simp [hk] at c d;simp [f43,G7,j,hk,c,d]
def Sg (V:List (List UInt8×Int))(e:Ex):Int×Int:=
 if 500<gQ e∨20<fA e then (0,2) else if (dw e && !Bp e&&V.all λp=>dI p.2)=false then (0,1) else if MN V e=true then (0,5) else fB V e
theorem ZA {n fu:Nat}{M:Mem}{q:d9}(V:List (List UInt8×Int))(h:aR M 2 q (P7 V))(hb:V.length<=1000){v:d9}(k n0:Int)(s:By)(p t:Nat):∀(j i:Nat),i+j=V.length->∀(c6:d9) (b:Bool) (N:Nat),j+1<=N->
  ∃c6',H7 (λenv m k=>Gn (l9 KW fu (n+1)) fu none env m k) N (YH (.agg (r4 k n0 s v)) (.ptr p 0) (.ptr t 0) ff (iV (i:Int)) q c6 (.bool b) .undef .undef (iV 0) (iV 0)) M []=some [⟨.exit 0,(YH (.agg (r4 k n0 s v)) (.ptr p 0) (.ptr t 0) ff (iV (V.length:Int)) q c6' (.bool (b&&(V.drop i).all λp=>dI p.2)) .undef .undef (iV 0) (iV 0)),M,[],none⟩]:=by
 have a:=h.len;rw [show (P7 V).length=V.length from by simp [P7]] at a;intro j;induction j with
 | zero=>
  intro i y c6 b N x;obtain⟨N,rfl⟩:∃k,N=k+1:=⟨N-1,by omega⟩;obtain rfl:i=V.length:=by omega
  refine⟨.bool false,?_⟩;rw [A9,aaC,List.all_nil,akc];simp [Gn,a]
 | succ j ih=>
  intro i y c6 b N x;obtain⟨N,rfl⟩:∃k,N=k+1:=⟨N-1,by omega⟩;have l:i<V.length:=by omega
  have c:(i:Int)<(V.length:Int):=by omega
  obtain⟨o,A,u,B,C,D,r⟩:=h.at (i:=i) (by simp [P7];omega);have d:(P7 V)[i]'(by simp [P7];omega)=[.str V[i].1,.int .i64 V[i].2]:=by simp [P7]
  rw [d] at r;have e:=r 1 (by omega);have e:ld1 (M.get o) (A+1)=some (.int .i64 V[i].2):=e;have g:V.drop i=V[i]::V.drop (i+1):=Xd l;obtain⟨c6',w⟩:=ih (i+1) (by omega) tt (b&&dI V[i].2) N (by omega);refine⟨c6',?_⟩;rw [g,aeU,← Bool.and_assoc,A9,← w];have f:=VY V[i].2 n fu M;generalize dI V[i].2=z at *;cases b with
  | false=>simp [Gn,a,c,T9 (i:=i) (by omega)]
  | true=>simp [Gn,a,c,u,e,f,T9 (i:=i) (by omega)]
theorem adj {m:Mem}(hm:m.Ok)(hl:m.lim<=m.nx){S:d9}{V:List (List UInt8×Int)}(hv:aR m 2 S (P7 V))(hb:V.length<=1000){row:List d9}{e:Ex}(h:bU m (λ_=>True) e row)(hp:gQ e<=10000)(T:fA e<=26)(n fu:Nat)(hn:150<=n)(y:20000<=fu):
  ∃m',l9 KW fu (n+1) (.func 14) [.agg row,S] m=some [⟨.tuple [.int .i64 (Sg V e).1,.int .i64 (Sg V e).2],m'⟩]∧Ext m m':=by
 have a1:=h;have A:∀{M:Mem},Ext m M->bU M (λ_=>True) e row:=λE=>SK E a1;have L:∀{M:Mem},Ext m M->M.lim<=M.nx:=λE=>by rw [E.lim];exact J2 hl E.nx
 obtain⟨k,b,s,a⟩:=e;obtain⟨v,a2,rfl,q1,q2⟩:=h;have E0:=J5 hm [r9 (r4 k b s v)];have o:(ext m [r9 (r4 k b s v)]).get m.nx=some (r9 (r4 k b s v)):=by rw [D6 hm];rfl
 have a4:(ext m [r9 (r4 k b s v)]).nx=m.nx+1:=by simp
 obtain⟨J,W,E1⟩:=acC n fu 1 y (by omega) (by omega) (by omega) _ (r4 k b s v) (.mk k b s a) E0.ok (L E0) (A E0) hp;have F1:=E0.trans E1;have n1:=E1.nx;have r:J.get m.nx=some (r9 (r4 k b s v)):=(E1.old _ (by omega)).trans o;obtain⟨w1,w2,w3,w4⟩:=PL (.mk k b s a) 1 (by omega);generalize hsz:rE 1 (.mk k b s a)=sz at *;obtain⟨N,z2⟩:=sz;have d:l9 KW fu n (.func 39) [.agg (r4 k b s v),iV 1] (ext m [r9 (r4 k b s v)])=some [⟨.agg [iV (N:Int),iV (z2:Int)],J⟩]:=W;have c:∀x:Int,Go.AM.G9 (iV x)=true:=λ_=>rfl;have E2:=J5 F1.ok [r9 [iV (N:Int),iV (z2:Int)]];have F2:=F1.trans E2;have t:(ext J [r9 [iV (N:Int),iV (z2:Int)]]).get m.nx=some (r9 (r4 k b s v)):=(E2.old _ (by omega)).trans r;have a5:(ext J [r9 [iV (N:Int),iV (z2:Int)]]).nx=J.nx+1:=by simp
 by_cases c0:500<gQ (.mk k b s a)∨20<fA (.mk k b s a);have e:Sg V (.mk k b s a)=(0,2):=by unfold Sg;rw [if_pos c0]
 rw [e];refine⟨_,?_,F2⟩;rw [enter (sf:=f14) rfl rfl];by_cases K:500<N;have g:(500:Int)<(N:Int):=by omega
 simp [f14,G7,I8,o,d,c,r,D6 F1.ok,G6 F1.ok,N8 F1.ok (L F1),F7 F1.ok (L F1),I6 F1.ok,H8 F1.ok,t,K,g];have O:20<z2:=by by_cases sm:fA (.mk k b s a)+1<=22∧gQ (.mk k b s a)<=500;have:=w1 sm;cases this;omega;have:=w2 sm;simp only at this;omega
 have g:¬ (500:Int)<(N:Int):=by omega
 have u:(20:Int)<(z2:Int):=by omega
 simp [f14,G7,I8,o,d,c,r,D6 F1.ok,G6 F1.ok,N8 F1.ok (L F1),F7 F1.ok (L F1),I6 F1.ok,H8 F1.ok,t,K,g,O,u];have hz:=w1 (by omega);cases hz;have K:¬ 500<gQ (.mk k b s a):=λq=>c0 (.inl q);have O:¬ 20<fA (.mk k b s a):=λq=>c0 (.inr q);have g:¬ (500:Int)<(gQ (.mk k b s a):Int):=by omega
 have u:¬ (20:Int)<(fA (.mk k b s a):Int):=by omega
 obtain⟨R,i,E3⟩:=acK fu y 26 n (by omega) _ (r4 k b s v) (.mk k b s a) F2.ok (L F2) (A F2) hp T;have F3:=F2.trans E3;have n3:=E3.nx;have w:R.get m.nx=some (r9 (r4 k b s v)):=(E3.old _ (by omega)).trans t;obtain⟨D,H,f,Q,E4⟩:∃D H,H=(dw (.mk k b s a) && !Bp (.mk k b s a))∧(dw (.mk k b s a)=true->l9 KW fu n (.func 41) [.agg (r4 k b s v)] R=some [⟨.bool (Bp (.mk k b s a)),D⟩])∧(Ext R D∧(dw (.mk k b s a)=false->D=R)):=by
  cases C:dw (.mk k b s a) with
  | true=>obtain⟨D,j,E4⟩:=adh fu y 26 n (by omega) _ (r4 k b s v) (.mk k b s a) F3.ok (L F3) (A F3) hp T;exact⟨D,_,rfl,(λ_=>j),E4,(λq=>by cases q)⟩
  | false=>exact⟨R,_,rfl,(λq=>by cases q),Ext.refl F3.ok,λ_=>rfl⟩
 obtain⟨E4,a0⟩:=E4;have F4:=F3.trans E4;have n4:=E4.nx;have I:D.get m.nx=some (r9 (r4 k b s v)):=(E4.old _ (by omega)).trans w;obtain⟨a3,gl⟩:=ZA (n:=n-1) (fu:=fu) (v:=v) V (hv.ext F4) hb k b s m.nx J.nx V.length 0 (by omega) .undef H fu (by omega);rw [J4,abV (by omega)] at gl;have l:H7 (λU m k=>Gn (l9 KW fu n) fu none U m k) fu (YH (.agg (r4 k b s v)) (.ptr m.nx 0) (.ptr J.nx 0) ff (iV 0) S .undef (.bool H) .undef .undef (iV 0) (iV 0)) D []=_:=gl;have a6:∀(G:List Out->Prop),True:=λ_=>trivial;have e0:Sg V (.mk k b s a)=if (H&&V.all λp=>dI p.2)=false then (0,1) else if MN V (.mk k b s a)=true then (0,5) else fB V (.mk k b s a):=by unfold Sg;rw [if_neg c0,f]
 rw [e0];by_cases F:(H&&V.all λp=>dI p.2)=false;rw [if_pos F];rw [F] at l;refine⟨D,?_,F4⟩;rw [enter (sf:=f14) rfl rfl];cases C:dw (.mk k b s a) with
 | true=>rw [C] at i f;have j:=Q C;rw [abY] at f;subst f;generalize Bp (.mk k b s a)=q at *;simp [f14,G7,I8,o,d,c,r,D6 F1.ok,G6 F1.ok,N8 F1.ok (L F1),F7 F1.ok (L F1),I6 F1.ok,H8 F1.ok,t,K,O,g,u,i,w,j,l]
 | false=>rw [C] at i f;obtain rfl:=a0 C;rw [ag7] at f;subst f;simp [f14,G7,I8,o,d,c,r,D6 F1.ok,G6 F1.ok,N8 F1.ok (L F1),F7 F1.ok (L F1),I6 F1.ok,H8 F1.ok,t,K,O,g,u,i,w,l]
 rw [if_neg F];have F:(H&&V.all λp=>dI p.2)=true:=by simpa using F
 rw [F] at l;rw [gI] at F;obtain⟨c2,c3⟩:=F;rw [c2] at f l;have P:=f.symm;rw [gI,Bool.not_eq_true'] at P;obtain⟨C,hc⟩:=P;have j:=Q C;rw [hc] at j;rw [C] at i;obtain⟨m5,B,E5⟩:=adi hb fu y 26 n (by omega) _ S (r4 k b s v) (.mk k b s a) F4.ok (L F4) (hv.ext F4) (A F4) hp T;have F5:=F4.trans E5;have Y:m5.get m.nx=some (r9 (r4 k b s v)):=(E5.old _ (by omega)).trans I;cases hu:MN V (.mk k b s a) with
 | true=>rw [hu] at B;rw [if_pos rfl];refine⟨m5,?_,F5⟩;rw [enter (sf:=f14) rfl rfl];simp [f14,G7,I8,o,d,c,r,D6 F1.ok,G6 F1.ok,N8 F1.ok (L F1),F7 F1.ok (L F1),I6 F1.ok,H8 F1.ok,t,K,O,g,u,i,w,j,l,I,B]
 | false=>rw [hu] at B;rw [if_neg (by decide)];have Z:∀p∈V,dI p.2=true:=λp hp=>aap.1 c3 p hp;obtain⟨m6,X,E6⟩:=adg hb Z fu y 26 n (by omega) _ S (.mk k b s a) (r4 k b s v) F5.ok (L F5) (hv.ext F5) (A F5) C hc T;refine⟨m6,?_,F5.trans E6⟩;rw [enter (sf:=f14) rfl rfl];generalize fB V (.mk k b s a)=z at *;simp [f14,G7,I8,o,d,c,r,D6 F1.ok,G6 F1.ok,N8 F1.ok (L F1),F7 F1.ok (L F1),I6 F1.ok,H8 F1.ok,t,K,O,g,u,i,w,j,l,I,B,Y,X]
theorem adk {m:Mem}(b:m.Ok)(a:m.lim<=m.nx)(s:By)(x:Int)(n fu:Nat):l9 KW fu (n+2) (.func 31) [.agg [.str s,iV x]] m=some [⟨.bool (!dI x),ext m [r9 [.str s,iV x]]⟩]:=by have g:=VL x n fu (ext m [r9 [.str s,iV x]]);rw [enter (sf:=f31) rfl rfl];simp [f31,lU b a,G9,g]
theorem ZB {n fu:Nat}{m:Mem}(G:m.Ok)(A:m.lim<=m.nx){e:d9}(V:List (List UInt8×Int))(h:aR m 2 e (P7 V))(hb:V.length<=1000):∀(j i:Nat),i+j=V.length->∀(c k b:d9) (M:Mem) (N:Nat),Ext m M->j+1<=N->
  (((V.drop i).all λp=>dI p.2)=true∧∃c' k' b' M',H7 (λenv m k=>vI (l9 KW fu (n+2)) fu none env m k) N (yL e (iV (i:Int)) (iV (V.length:Int)) c (.func (.func 31) [] []) k b (iV 0)) M []=some [⟨.exit 0,(yL e (iV (V.length:Int)) (iV (V.length:Int)) c' (.func (.func 31) [] []) k' b' (iV 0)),M',[],none⟩]∧Ext m M')∨
  (((V.drop i).all λp=>dI p.2)=false∧∃(i' c' k' b':d9) (r':Nat) (M':Mem),H7 (λenv m k=>vI (l9 KW fu (n+2)) fu none env m k) N (yL e (iV (i:Int)) (iV (V.length:Int)) c (.func (.func 31) [] []) k b (iV 0)) M []=some [⟨.ret,(yL e i' (iV (V.length:Int)) c' (.func (.func 31) [] []) k' b' (iV (r':Int))),M',[],none⟩]∧Ext m M'):=by
 intro j;induction j with
 | zero=>
  intro i y c k b M N E x;obtain⟨N,rfl⟩:∃k,N=k+1:=⟨N-1,by omega⟩;obtain rfl:i=V.length:=by omega
  refine .inl ⟨by simp,.bool false,k,b,M,?_,E⟩;rw [A9];simp [vI]
 | succ j ih=>
  intro i y c k b M N E x;obtain⟨N,rfl⟩:∃k,N=k+1:=⟨N-1,by omega⟩;have q:i<V.length:=by omega
  have d:(i:Int)<(V.length:Int):=by omega
  have v:=E.ok;have l:M.lim<=M.nx:=by rw [E.lim];exact J2 A E.nx
  have o:V.drop i=V[i]::V.drop (i+1):=Xd q;rw [o,aeU];obtain⟨s,B,t,C,D,w,F⟩:=(h.ext E).at (i:=i) (by simp [P7];omega);have f:(P7 V)[i]'(by simp [P7];omega)=[.str V[i].1,.int .i64 V[i].2]:=by simp [P7]
  have a:=w 0 2 (by omega) (by omega);rw [J4,f,Y5] at a;have a:MG (M.get s) B 2=some (.agg [.str V[i].1,.int .i64 V[i].2]):=a;have u:=adk v l V[i].1 V[i].2 n fu;have E2:=J5 v [r9 [.str V[i].1,.int .i64 V[i].2]];generalize hz:dI V[i].2=z at *;cases z with
  | true=>
   have r:=ih (i+1) (by omega) tt (iV (i:Int)) ff _ N (E.trans E2) (by omega);have g:H7 (λenv m k=>vI (l9 KW fu (n+2)) fu none env m k) (N+1) (yL e (iV (i:Int)) (iV (V.length:Int)) c (.func (.func 31) [] []) k b (iV 0)) M []=H7 (λenv m k=>vI (l9 KW fu (n+2)) fu none env m k) N (yL e (.int .i64 ((i+1:Nat):Int)) (iV (V.length:Int)) tt (.func (.func 31) [] []) (iV (i:Int)) ff (iV 0)) (ext M [r9 [.str V[i].1,.int .i64 V[i].2]]) []:=by rw [A9];simp [vI,d,t,a,u,T9 (i:=i) (by omega)]
   rw [g,abY];exact r
  | false=>refine .inr ⟨rfl,iV (i:Int),.bool true,iV (i:Int),.bool true,i,_,?_,E.trans E2⟩;rw [A9];simp [vI,d,t,a,u]
theorem adl {n fu:Nat}(j:20000<=fu){m:Mem}(f:m.Ok)(l:m.lim<=m.nx){d:d9}(V:List (List UInt8×Int))(h:aR m 2 d (P7 V))(hb:V.length<=1000):
  ∃m',l9 KW fu (n+4) (.func 30) [d,(.func (.func 31) [] [])] m=some [⟨.bool (!(V.all λp=>dI p.2)),m'⟩]∧Ext m m':=by
 have b:=h.len;rw [show (P7 V).length=V.length from by simp [P7]] at b;have i:=λ{β:Type} (p:d9->β) q=>h.ng p q;rcases ZB (n:=n) (fu:=fu) f l V h hb V.length 0 (by omega) .undef .undef .undef m fu (Ext.refl f) (by omega) with⟨ha,c',k',b',M',g,q⟩ | ⟨ha,i',c',k',b',r',M',g,q⟩;have e:H7 (λc m k=>vI (l9 KW fu (n+2)) fu none c m k) fu (yL d (iV 0) (iV (V.length:Int)) .undef (.func (.func 31) [] []) .undef .undef (iV 0)) m []=_:=g;rw [J4] at ha;have a:l9 KW fu (n+3) (.func 68) [d,(.func (.func 31) [] [])] m=some [⟨iV (-1),M'⟩]:=by rw [enter (sf:=f68) rfl rfl];simp [f68,b,e,i]
 refine⟨M',?_,q⟩;rw [enter (sf:=f30) rfl rfl];simp [f30,a,ha];have e:H7 (λc m k=>vI (l9 KW fu (n+2)) fu none c m k) fu (yL d (iV 0) (iV (V.length:Int)) .undef (.func (.func 31) [] []) .undef .undef (iV 0)) m []=_:=g;rw [J4] at ha;have a:l9 KW fu (n+3) (.func 68) [d,(.func (.func 31) [] [])] m=some [⟨iV (r':Int),M'⟩]:=by rw [enter (sf:=f68) rfl rfl];simp [f68,b,e,i]
 have o:(0:Int)<=(r':Int):=by omega
 refine⟨M',?_,q⟩;rw [enter (sf:=f30) rfl rfl];simp [f30,a,ha,o]
def oV:List (List UInt8×Int)->List UInt8->Int->List (List UInt8×Int)
 | [],s,x=>[(s,x)]
 | p::l,s,x=>if p.1=s then (s,x)::l else p::oV l s x
def bwd:List (List UInt8×Int)->List (List UInt8×Int)
 | []=>[]
 | p::l=>oV (bwd l) p.1 p.2
theorem Mh (s t:List UInt8)(x:Int):∀W:List (List UInt8×Int),AJ (oV W s x) t=if s=t then x else AJ W t
 | []=>by simp only [oV,AJ]
 | (y,n)::l=>by unfold oV;by_cases h:y=s;subst h;rw [if_pos rfl,AJ,AJ];by_cases h2:y=t;rw [if_pos h2,if_pos h2];rw [if_neg h2,if_neg h2,if_neg h2];rw [if_neg h,AJ,AJ,Mh s t x l];by_cases h2:y=t;rw [if_pos h2,if_pos h2,if_neg (λq=>h (h2.trans q.symm))];rw [if_neg h2,if_neg h2]
theorem Gz (s t:List UInt8)(x:Int):∀W:List (List UInt8×Int),isIn (oV W s x) t=(s==t||isIn W t)
 | []=>rfl
 | (y,n)::l=>by unfold oV;by_cases h:y=s;subst h;rw [if_pos rfl,mq,mq,← aeT,Bool.or_self];rw [if_neg h,mq,mq,Gz s t x l,Bool.or_left_comm]
theorem Mj (s:List UInt8)(x:Int)(hx:dI x=true):∀W:List (List UInt8×Int),(∀p∈W,dI p.2=true)->∀p∈oV W s x,dI p.2=true
 | [],_,p,hp=>by rw [oV,aA] at hp;rw [hp];exact hx
 | (y,n)::l,h,p,hp=>by unfold oV at hp;by_cases e:y=s;rw [if_pos e,X4] at hp;rcases hp with rfl | hp;exact hx;exact h p (.tail _ hp);rw [if_neg e,X4] at hp;rcases hp with rfl | hp;exact h _ (.head _);exact Mj s x hx l (λq hq=>h q (.tail _ hq)) p hp
theorem Ql (t:List UInt8):∀V:List (List UInt8×Int),AJ (bwd V) t=AJ V t
 | []=>rfl
 | (y,n)::l=>by rw [bwd,Mh,Ql t l,AJ]
theorem Mq (t:List UInt8):∀V:List (List UInt8×Int),isIn (bwd V) t=isIn V t
 | []=>rfl
 | (y,n)::l=>by rw [bwd,Gz,Mq t l,mq]
theorem Qm:∀V:List (List UInt8×Int),(∀p∈V,dI p.2=true)->∀p∈bwd V,dI p.2=true
 | [],h=>h
 | (y,n)::l,h=>Mj y n (h _ (.head _)) _ (Qm l λq hq=>h q (.tail _ hq))
mutual
theorem Wl {V W:List (List UInt8×Int)}(h:∀s,isIn V s=isIn W s):∀e:Ex,MN V e=MN W e
 | .mk k n s a=>by rw [MN,MN,h s,Wm h a]
theorem Wm {V W:List (List UInt8×Int)}(h:∀s,isIn V s=isIn W s):∀a:List Ex,SN V a=SN W a
 | []=>rfl
 | e::l=>by rw [SN,SN,Wl h e,Wm h l]
end
mutual
theorem Wn {V W:List (List UInt8×Int)}(h:∀s,AJ V s=AJ W s):∀e:Ex,fB V e=fB W e
 | .mk k n s a=>by rw [fB,fB,h s,Wo h a]
theorem Wo {V W:List (List UInt8×Int)}(h:∀s,AJ V s=AJ W s):∀a:List Ex,SL V a=SL W a
 | []=>rfl
 | e::l=>by rw [SL,SL,Wn h e,Wo h l]
end
theorem GA (s:List UInt8)(x:Int):∀(W:List (List UInt8×Int)) (i:Nat),
  (findKey eqStr (.str s) (bC (vK W)) i=some none∧oV W s x=W ++ [(s,x)])∨
  ∃j y,findKey eqStr (.str s) (bC (vK W)) i=some (some (i+j,y))∧(∃e,(bC (vK W))[j]?=some (.str s,e))∧aN (bC (vK W)) (.str s) (iV x) j=bC (vK (oV W s x))
 | [],i=>.inl ⟨rfl,rfl⟩
 | (y,n)::l,i=>by
  have st:findKey eqStr (.str s) (bC (vK ((y,n)::l))) i=bi (decide (s=y)) (some (some (i,.int .i64 n))) (findKey eqStr (.str s) (bC (vK l)) (i+1)):=by show ob (eqStr (.str s) (.str y)) (λb=>bi b (some (some (i,.int .i64 n))) (findKey eqStr (.str s) (bC (vK l)) (i+1)))=_;rw [qb,K5]
  by_cases h:y=s;subst h;refine .inr ⟨0,_,by rw [st,decide_eq_true rfl];rfl,⟨_,rfl⟩,?_⟩;rw [oV,if_pos rfl];rfl;rw [st,decide_eq_false (λq=>h q.symm),O6,oV,if_neg h];rcases GA s x l (i+1) with⟨h1,h2⟩ | ⟨j,z,h1,⟨e,h2⟩,h3⟩;exact .inl ⟨h1,by rw [h2];rfl⟩;refine .inr ⟨j+1,z,by rw [h1,aez,agp 1 j],⟨e,h2⟩,?_⟩;show (d9.str y,d9.int .i64 n)::aN (bC (vK l)) (.str s) (iV x) j=_;rw [h3];rfl
theorem adn {M:Mem}{q:Nat}{W:List (List UInt8×Int)}(m:M.lim<=q)(i:M.get q=some (.map (bC (vK W))))(s:List UInt8)(x:Int)(mp k a:OF)(cf:D7)(ls:List d9)(env:T d9)(c:mp ls env=.map q)(d:k ls env=.str s)(f:a ls env=.int .i64 x):
  E9 eqStr 1 mp k a cf ls env M=some [⟨.undef,M.set q (.map (bC (vK (oV W s x))))⟩]:=by
 rw [qM,c,d,f];have g:Nat.blt q M.lim=false:=by
  cases h:Nat.blt q M.lim with
  | false=>rfl
  | true=>have:=Xb.mp h;omega
 show bi (Nat.blt q M.lim) none (ob (msB (M.get q) eqStr 1 (.str s) (iV x)) λb=>some [(⟨.undef,M.set q b⟩:VM)])=_;have l:O5 eqStr 1 (.str s) (bC (vK W))=findKey eqStr (.str s) (bC (vK W)) 0:=by
  cases W with
  | nil=>show ob (eqStr (.str s) (.str s)) (λ_=>some none)=_;rw [qb];rfl
  | cons p L=>rfl
 rw [g,i,Pk,l];rcases GA s x W 0 with⟨g1,g2⟩ | ⟨j,y,g1,⟨e,g2⟩,g3⟩;rw [g1,g2,show bC (vK (W ++ [(s,x)]))=bC (vK W) ++ [(.str s,.int .i64 x)] from by simp [bC,vK]];rfl;rw [g1,K5];show ob (ob (bC (vK W))[0+j]? _) _=_;rw [Z8,g2,← g3];rfl
abbrev gT:P9:=.reg [⟨.a (.alloc [.str [],iV 0]),some 9,none⟩,⟨.e (.store 2 (.loc 0) (.slot 7)),none,none⟩]
abbrev gU:P9:=.block 1 (.reg [⟨.r (.load none (.slot 8)),none,none⟩,⟨.p (.fAddr 0 (.slot 9)),none,none⟩,⟨.r (.load none (.loc 0)),none,none⟩,⟨.p (.fAddr 1 (.slot 9)),none,none⟩,⟨.r (.load none (.loc 0)),none,none⟩,⟨.e (.mapSet (.prim .s) (.loc 4) (.loc 2) (.loc 0)),none,none⟩])
theorem Wp:xk gT=j4 (fq (iQ [.str [],iV 0]) (bD (some 9)) (u7 (K7 2 A8 (G5 (gL (gL (gL gH))))) j6)):=rfl
theorem Wq:xk gU=w9 1 (j4 (u6 (eB (G5 (gR (gL (gL gH))))) (j5 (H9 0 (G5 (gL (gR (gL gH))))) (u6 (eB A8) (j5 (H9 1 (G5 (gL (gR (gL gH))))) (u6 (eB A8) (u7 (E9 eqStr 1 (X9 4) aH A8) j6))))))):=rfl
structure Rg (m:Mem)(vv:d9)(L:N7)(W:List (List UInt8×Int))(M:Mem):Prop where
 ok:M.Ok
 lim:M.lim=m.lim
 nx:m.nx+5<=M.nx
 old:∀i,i<m.nx->M.get i=m.get i
 gm:M.get m.nx=some (.map (bC (vK W)))
 g8:M.get (m.nx+1)=some (r9 [.map m.nx])
 gb:M.get (m.nx+2)=some (r9 [vv])
 gd:M.get (m.nx+3)=some .deferred
 gl:M.get (m.nx+4)=some L
theorem Ws {m M:Mem}(V:m.lim<=m.nx){N a0 o p q r t u y v a b c d e f g k l:d9}{W:List (List UInt8×Int)}(I:Rg m N (.loop .ready none (kH a0 o p q r t u y (.ptr (m.nx+1) 0) v a b c d e f g k l) [none,some 7] gT gU) W M)(i:d9)(s:By)(x:Int)(n fu:Nat):
  ∃M',l9 KW fu (n+1) (.yield (m.nx+4)) [i,(.agg [.str s,iV x])] M=some [⟨.bool true,M'⟩]∧Rg m N (.loop .ready none (kH a0 o p q r t u y (.ptr (m.nx+1) 0) v a b c d e f g k l) [none,some 7] gT gU) (oV W s x) M':=by
 have A:=I.ok;have nx:=I.nx;have L:M.lim<=M.nx:=by rw [I.lim];omega
 have X:=J5 A [r9 [.str s,iV x]];have xn:(ext M [r9 [.str s,iV x]]).nx=M.nx+1:=by simp
 have U:Nat.blt (m.nx+4) M.lim=false:=by
  rw [I.lim];cases h:Nat.blt (m.nx+4) m.lim with
  | false=>rfl
  | true=>have:=Xb.mp h;omega
 have sp:aW [none,some 7] [i,(.agg [.str s,iV x])] (kH a0 o p q r t u y (.ptr (m.nx+1) 0) v a b c d e f g k l)=some (kH a0 o p q r t u (.agg [.str s,iV x]) (.ptr (m.nx+1) 0) v a b c d e f g k l):=rfl;have T:xk gT (l9 KW fu n) fu (some (m.nx+4)) (kH a0 o p q r t u (.agg [.str s,iV x]) (.ptr (m.nx+1) 0) v a b c d e f g k l) M []=some [⟨.normal,(kH a0 o p q r t u (.agg [.str s,iV x]) (.ptr (m.nx+1) 0) (.ptr M.nx 0) a b c d e f g k l),ext M [r9 [.str s,iV x]],[],none⟩]:=by rw [Wp];simp [G7,I8,N8 A L,F7 A L,I6 A,H8 A,D6 A,G6 A,G9]
 have z:∀j,j<M.nx->(ext M [r9 [.str s,iV x]]).get j=M.get j:=λj H=>X.old j H;have K:∀B:Mem,B.Ok->B.lim<=m.nx->B.get (m.nx+1)=some (r9 [.map m.nx])->B.get M.nx=some (r9 [.str s,iV x])->B.get m.nx=some (.map (bC (vK W)))->
   xk gU (l9 KW fu n) fu (some (m.nx+4)) (kH a0 o p q r t u (.agg [.str s,iV x]) (.ptr (m.nx+1) 0) (.ptr M.nx 0) a b c d e f g k l) B []=some [⟨.normal,(kH a0 o p q r t u (.agg [.str s,iV x]) (.ptr (m.nx+1) 0) (.ptr M.nx 0) a b c d e f g k l),B.set m.nx (.map (bC (vK (oV W s x)))),[],none⟩]:=by
  intro B K Y O P Q;have Z:=adn Y Q s x;rw [Wq];simp [O,P,Z]
 have E:(ext M [r9 [.str s,iV x]]).get (m.nx+4)=some (.loop .ready none (kH a0 o p q r t u y (.ptr (m.nx+1) 0) v a b c d e f g k l) [none,some 7] gT gU):=(z _ (by omega)).trans I.gl;have w:=Mem.Ok.set X.ok (show m.nx+4<(ext M [r9 [.str s,iV x]]).nx by omega) (.loop .busy none (kH a0 o p q r t u y (.ptr (m.nx+1) 0) v a b c d e f g k l) [none,some 7] gT gU);have G:=K ((ext M [r9 [.str s,iV x]]).set (m.nx+4) (.loop .busy none (kH a0 o p q r t u y (.ptr (m.nx+1) 0) v a b c d e f g k l) [none,some 7] gT gU)) w (by show (ext M _).lim<=_;rw [X.lim,I.lim];exact V)
  (by rw [K6 X.ok _ (by omega) (by omega),z _ (by omega)];exact I.g8)
  (by rw [K6 X.ok _ (by omega) (by omega),D6 A];rfl)
  (by rw [K6 X.ok _ (by omega) (by omega),z _ (by omega)];exact I.gm)
 have D:∀j,j<M.nx->j≠m.nx+4->j≠m.nx->((((ext M [r9 [.str s,iV x]]).set (m.nx+4) (.loop .busy none (kH a0 o p q r t u y (.ptr (m.nx+1) 0) v a b c d e f g k l) [none,some 7] gT gU)).set m.nx (.map (bC (vK (oV W s x))))).set (m.nx+4) (.loop .ready none (kH a0 o p q r t u y (.ptr (m.nx+1) 0) v a b c d e f g k l) [none,some 7] gT gU)).get j=M.get j:=by intro j R J S;rw [K6 (Mem.Ok.set w (by show m.nx<(ext M _).nx;omega) _) _ (by show m.nx+4<(ext M _).nx;omega) J,K6 w _ (by show m.nx<(ext M _).nx;omega) S,K6 X.ok _ (by omega) J,z j R]
 have C:=Mem.Ok.set w (show m.nx<((ext M [r9 [.str s,iV x]]).set (m.nx+4) (.loop .busy none (kH a0 o p q r t u y (.ptr (m.nx+1) 0) v a b c d e f g k l) [none,some 7] gT gU)).nx by show m.nx<(ext M _).nx;omega) (.map (bC (vK (oV W s x))));have F:((((ext M [r9 [.str s,iV x]]).set (m.nx+4) (.loop .busy none (kH a0 o p q r t u y (.ptr (m.nx+1) 0) v a b c d e f g k l) [none,some 7] gT gU)).set m.nx (.map (bC (vK (oV W s x)))))).get (m.nx+4)=some (.loop .busy none (kH a0 o p q r t u y (.ptr (m.nx+1) 0) v a b c d e f g k l) [none,some 7] gT gU):=by rw [K6 w _ (by show m.nx<(ext M _).nx;omega) (by omega),R3 X.ok _ (by omega) rfl]
 refine⟨_,?_,⟨Mem.Ok.set C (show m.nx+4<(ext M [r9 [.str s,iV x]]).nx by omega) (.loop .ready none (kH a0 o p q r t u y (.ptr (m.nx+1) 0) v a b c d e f g k l) [none,some 7] gT gU),?_,?_,?_,?_,?_,?_,?_,?_⟩⟩;show xq (l9 KW fu n) fu (m.nx+4) [i,(.agg [.str s,iV x])] M=_;unfold xq;rw [U,I.gl,O6,Dn,sp,K5,T];simp only [XK,E,Dn,G];rw [roundEnd];simp only [F,Dn];rfl;show (ext M _).lim=_;rw [X.lim,I.lim];show m.nx+5<=(ext M _).nx;omega;intro j H;rw [D j (by omega) (by omega) (by omega)];exact I.old j H;rw [K6 C _ (by show m.nx+4<(ext M _).nx;omega) (by omega),R3 w _ (by show m.nx<(ext M _).nx;omega) rfl];rw [D _ (by omega) (by omega) (by omega)];exact I.g8;rw [D _ (by omega) (by omega) (by omega)];exact I.gb;rw [D _ (by omega) (by omega) (by omega)];exact I.gd;exact R3 C _ (by show m.nx+4<(ext M _).nx;omega) rfl
theorem ZC (cf:D7)(m:Mem)(args:List d9)(l:Nat):JJ cf m args (.func (.yield l) [] [])=cf (.yield l) args m:=rfl
theorem ZE {n fu:Nat}{m:Mem}(R:m.Ok)(L:m.lim<=m.nx){B a0 r t u s v C D E b c d f g j l o p:d9}(V:List (List UInt8×Int))(h:aR m 2 B (P7 V))(hb:V.length<=1000):∀(k:Nat),k<=V.length->∀(c2 c4:d9) (M:Mem) (N:Nat),Rg m B (.loop .ready none (kH a0 r t u s v C D (.ptr (m.nx+1) 0) E b c d f g j l o p) [none,some 7] gT gU) (bwd (V.drop k)) M->k+1<=N->
  ∃c2' c4' M',H7 (λenv m k=>Pw (l9 KW fu (n+1)) fu none env m k) N (nV5 (.ptr (m.nx+2) 0) (.int .i64 ((k:Int)-1)) c2 (.func (.yield (m.nx+4)) [] []) c4) M []=some [⟨.exit 0,(nV5 (.ptr (m.nx+2) 0) (iV (-1)) c2' (.func (.yield (m.nx+4)) [] []) c4'),M',[],none⟩]∧Rg m B (.loop .ready none (kH a0 r t u s v C D (.ptr (m.nx+1) 0) E b c d f g j l o p) [none,some 7] gT gU) (bwd V) M':=by
 intro k;induction k with
 | zero=>intro K c2 c4 M N I J;obtain⟨N,rfl⟩:∃k,N=k+1:=⟨N-1,by omega⟩;refine⟨.bool false,c4,M,?_,by simpa using I⟩;rw [A9];simp [Pw]
 | succ k ih=>
  intro K c2 c4 M N I J;obtain⟨N,rfl⟩:∃k,N=k+1:=⟨N-1,by omega⟩;have z:k<V.length:=by omega
  have x:V.drop k=V[k]::V.drop (k+1):=Xd z;have Ex1:Ext m M:=⟨I.ok,by have:=I.nx;omega,I.lim,I.old⟩;obtain⟨A,P,r,t,u,s,v⟩:=(h.ext Ex1).at (i:=k) (by simp [P7];omega);have q:(P7 V)[k]'(by simp [P7];omega)=[.str V[k].1,.int .i64 V[k].2]:=by simp [P7]
  have a:=s 0 2 (by omega) (by omega);rw [J4,q,Y5] at a;have a:MG (M.get A) P 2=some (.agg [.str V[k].1,.int .i64 V[k].2]):=a;obtain⟨M2,H,I2⟩:=Ws L I (iV (k:Int)) V[k].1 V[k].2 n fu;have y:oV (bwd (V.drop (k+1))) V[k].1 V[k].2=bwd (V.drop k):=by rw [x];rfl
  rw [y] at I2;obtain⟨c2',c4',M',G,I'⟩:=ih (by omega) tt ff M2 N I2 (by omega);refine⟨c2',c4',M',?_,I'⟩;have F:=I.gb;have w:qZ .i64 (k:Int) 1=some (.int .i64 ((k:Int)-1)):=by show some (d9.int .i64 (tX ((k:Int)-1)))=_;rw [U8 (by omega) (by omega)]
  have Q:tX ((k:Int)-1)=(k:Int)-1:=U8 (by omega) (by omega);have O:(0:Int)<=(k:Int):=by omega
  have e:(((k+1:Nat):Int))-1=(k:Int):=by omega
  rw [e,A9,← G];simp [Pw,F,r,a,ZC,H,w,Q,O]
theorem ado {n fu:Nat}(B:20000<=fu){m:Mem}(D:m.Ok)(C:m.lim<=m.nx){l a0 o p q r s t u v b c d e f g i j k:d9}(V:List (List UInt8×Int))(h:aR m 2 l (P7 V))(hb:V.length<=1000){M:Mem}(I:Rg m l (.loop .ready none (kH a0 o p q r s t u (.ptr (m.nx+1) 0) v b c d e f g i j k) [none,some 7] gT gU) [] M):
  ∃M',l9 KW fu (n+2) (.func 69) [.func (.yield (m.nx+4)) [] [],.ptr (m.nx+2) 0] M=some [⟨.tuple [],M'⟩]∧Rg m l (.loop .ready none (kH a0 o p q r s t u (.ptr (m.nx+1) 0) v b c d e f g i j k) [none,some 7] gT gU) (bwd V) M':=by
 have a:=h.len;rw [show (P7 V).length=V.length from by simp [P7]] at a;obtain⟨x,y,M',A,I'⟩:=ZE (n:=n) (fu:=fu) D C V h hb V.length (lM _) .undef .undef M fu (by rw [aaC];exact I) (by omega);refine⟨M',?_,I'⟩;have z:=I.gb;have w:qZ .i64 (V.length:Int) 1=some (.int .i64 ((V.length:Int)-1)):=by show some (d9.int .i64 (tX ((V.length:Int)-1)))=_;rw [U8 (by omega) (by omega)]
 have E:tX ((V.length:Int)-1)=(V.length:Int)-1:=U8 (by omega) (by omega);rw [enter (sf:=f69) rfl rfl];simp [f69,z,a,w,E,A]
set_option maxHeartbeats 32000000
theorem adp {m:Mem}(hm:m.Ok)(hl:m.lim<=m.nx){F:d9}{V:List (List UInt8×Int)}(hv:aR m 2 F (P7 V))(hb:V.length<=1000){row:List d9}{e:Ex}(hx:bU m (λ_=>True) e row)(hp:gQ e<=10000)(n fu:Nat)(hn:150<=n)(D:20000<=fu):
  ∃m',l9 KW fu (n+5) (.func 13) [.agg row,F] m=some [⟨.tuple [.int .i64 (Sg V e).1,.int .i64 (Sg V e).2],m'⟩]∧Ext m m':=by
 have a1:=hx;have a7:∀{M:Mem},Ext m M->bU M (λ_=>True) e row:=λE=>SK E a1;obtain⟨k,c,s,a⟩:=e;obtain⟨v,ac,rfl,q1,q2⟩:=hx;have X:=q1.slice.cells;have ov:=q1.slice.G9;have E0:=J5 hm [r9 (r4 k c s v)];have L:∀{M:Mem},Ext m M->M.lim<=M.nx:=λE=>by rw [E.lim];exact J2 hl E.nx
 have l:(ext m [r9 (r4 k c s v)]).get m.nx=some (r9 (r4 k c s v)):=by rw [D6 hm];rfl
 have ae:(ext m [r9 (r4 k c s v)]).nx=m.nx+1:=by simp
 obtain⟨K,a9,E1⟩:=Vu (n:=n+2) (d:=22) (by omega) D (acA (n+3) fu 22 D (by omega) (by omega)) E0.ok (L E0) (a7 E0) hp;obtain⟨w1,w2,w3,w4⟩:=PG (.mk k c s a) 22;have F1:=E0.trans E1;have o:K.get m.nx=some (r9 (r4 k c s v)):=(E1.old _ (by omega)).trans l;generalize hsz:bE 22 (.mk k c s a)=sz at *;obtain⟨N,z2⟩:=sz;have g:l9 KW fu (n+4) (.func 28) [.agg (r4 k c s v),iV 22] (ext m [r9 (r4 k c s v)])=some [⟨.agg [iV (N:Int),iV (z2:Int)],K⟩]:=a9;have oz:Go.AM.G9 (iV (N:Int))=true∧Go.AM.G9 (iV (z2:Int))=true:=⟨rfl,rfl⟩;have E2:=J5 F1.ok [r9 [iV (N:Int),iV (z2:Int)]];have F2:=F1.trans E2;have n1:=E1.nx;have r:(ext K [r9 [iV (N:Int),iV (z2:Int)]]).get m.nx=some (r9 (r4 k c s v)):=(E2.old _ (by omega)).trans o;have y:(ext K [r9 [iV (N:Int),iV (z2:Int)]]).get K.nx=some (r9 [iV (N:Int),iV (z2:Int)]):=by rw [D6 F1.ok];rfl
 have n2:(ext K [r9 [iV (N:Int),iV (z2:Int)]]).nx=K.nx+1:=by simp
 by_cases c0:500<gQ (.mk k c s a)∨20<fA (.mk k c s a);have e:Sg V (.mk k c s a)=(0,2):=by unfold Sg;rw [if_pos c0]
 rw [e];refine⟨_,?_,F2⟩;rw [enter (sf:=f13) rfl rfl];by_cases W:500<N;have h:(500:Int)<(N:Int):=by omega
 simp [f13,G7,I8,ov,X,oz,l,g,N8 F1.ok (L F1),F7 F1.ok (L F1),I6 F1.ok,H8 F1.ok,G9,o,y,r,W,h];have y2:20<z2:=by by_cases sm:fA (.mk k c s a)<=23;have:=w1 sm;cases this;omega;have:=w2 (by omega);simp only at this;omega
 have h:¬ (500:Int)<(N:Int):=by omega
 have w:(20:Int)<(z2:Int):=by omega
 simp [f13,G7,I8,ov,X,oz,l,g,N8 F1.ok (L F1),F7 F1.ok (L F1),I6 F1.ok,H8 F1.ok,G9,o,y,r,W,h,y2,w];have hz:=w1 (by omega);cases hz;have W:¬ 500<gQ (.mk k c s a):=λq=>c0 (.inl q);have y2:¬ 20<fA (.mk k c s a):=λq=>c0 (.inr q);have h:¬ (500:Int)<(gQ (.mk k c s a):Int):=by omega
 have w:¬ (20:Int)<(fA (.mk k c s a):Int):=by omega
 have d1:decide ((500:Int)<(gQ (.mk k c s a):Int))=false:=decide_eq_false h;have d2:decide ((20:Int)<(fA (.mk k c s a):Int))=false:=decide_eq_false w;obtain⟨m3,x,E3⟩:=YX fu D 20 (n+4) (by omega) _ (r4 k c s v) (.mk k c s a) F2.ok (L F2) (a7 F2) (by omega) (by omega);have F3:=F2.trans E3;have n3:=E3.nx;have C:m3.get m.nx=some (r9 (r4 k c s v)):=(E3.old _ (by omega)).trans r;have e0:Sg V (.mk k c s a)=if (dw (.mk k c s a) && !Bp (.mk k c s a)&&V.all λp=>dI p.2)=false then (0,1) else if MN V (.mk k c s a)=true then (0,5) else fB V (.mk k c s a):=by unfold Sg;rw [if_neg c0]
 rw [e0];obtain⟨b,B,E4⟩:=adl (n:=n) D F3.ok (L F3) V (hv.ext F3) hb;cases hf:dw (.mk k c s a) with
 | false=>rw [hf] at x;rw [ag7,ag7,if_pos rfl];refine⟨m3,?_,F3⟩;rw [enter (sf:=f13) rfl rfl];simp [f13,G7,I8,ov,X,oz,l,g,N8 F1.ok (L F1),F7 F1.ok (L F1),I6 F1.ok,H8 F1.ok,G9,o,y,r,W,y2,h,w,d1,d2,x,C]
 | true=>
 rw [hf] at x;rw [abY];have F4:=F3.trans E4;have n4:=E4.nx;cases ha:(V.all λp=>dI p.2) with
 | false=>rw [ha] at B;rw [Bool.and_false,if_pos rfl];refine⟨b,?_,F4⟩;rw [enter (sf:=f13) rfl rfl];simp [f13,G7,I8,ov,X,oz,l,g,N8 F1.ok (L F1),F7 F1.ok (L F1),I6 F1.ok,H8 F1.ok,G9,o,y,r,W,y2,h,w,d1,d2,x,C,B]
 | true=>
 rw [ha] at B;rw [akc];have aa:∀p∈V,dI p.2=true:=λp hp=>aap.1 ha p hp;have f:=F4.ok;have U:=L F4;have P:b.get m.nx=some (r9 (r4 k c s v)):=(E4.old _ (by omega)).trans C;have vo:=hv.G9;have vc:=hv.cells;have X2:=J5 f [.map [],r9 [.map b.nx]];have a2:=ad5 (m:=ext b [.map [],r9 [.map b.nx]]) X2.ok (by rw [X2.lim];exact J2 U X2.nx) F vo vc (n+3) fu;rw [show (ext b [.map [],r9 [.map b.nx]]).nx=b.nx+2 from by simp,I8] at a2;have G:l9 KW fu (n+4) (.func 33) [F] (ext b [.map [],r9 [.map b.nx]])=some [⟨.func (.func 69) [] [.ptr (b.nx+2) 0],ext b [.map [],r9 [.map b.nx],r9 [F]]⟩]:=a2;have X5:=J5 f [.map [],r9 [.map b.nx],r9 [F],.deferred,(.loop .ready none (kH (.agg (r4 k c s v)) (.ptr m.nx 0) (.ptr K.nx 0) ff F ff (.func (.func 69) [] [.ptr (b.nx+2) 0]) .undef (.ptr (b.nx+1) 0) .undef .undef .undef .undef .undef .undef .undef .undef (iV 0) (iV 0)) [none,some 7] gT gU)];have af:(ext b [.map [],r9 [.map b.nx],r9 [F],.deferred,(.loop .ready none (kH (.agg (r4 k c s v)) (.ptr m.nx 0) (.ptr K.nx 0) ff F ff (.func (.func 69) [] [.ptr (b.nx+2) 0]) .undef (.ptr (b.nx+1) 0) .undef .undef .undef .undef .undef .undef .undef .undef (iV 0) (iV 0)) [none,some 7] gT gU)]).nx=b.nx+5:=by simp
 have I0:Rg b F (.loop .ready none (kH (.agg (r4 k c s v)) (.ptr m.nx 0) (.ptr K.nx 0) ff F ff (.func (.func 69) [] [.ptr (b.nx+2) 0]) .undef (.ptr (b.nx+1) 0) .undef .undef .undef .undef .undef .undef .undef .undef (iV 0) (iV 0)) [none,some 7] gT gU) [] (ext b [.map [],r9 [.map b.nx],r9 [F],.deferred,(.loop .ready none (kH (.agg (r4 k c s v)) (.ptr m.nx 0) (.ptr K.nx 0) ff F ff (.func (.func 69) [] [.ptr (b.nx+2) 0]) .undef (.ptr (b.nx+1) 0) .undef .undef .undef .undef .undef .undef .undef .undef (iV 0) (iV 0)) [none,some 7] gT gU)]):=⟨X5.ok,X5.lim,by omega,λi j=>X5.old i j,by rw [D6 f];rfl,by rw [G6 f];rfl,by rw [G6 f];rfl,by rw [G6 f];rfl,by rw [G6 f];rfl⟩;obtain⟨M7,a0,I⟩:=ado (n:=n+2) D f U V (hv.ext F4) hb I0;have n7:=I.nx;obtain⟨A,hA⟩:∃A,M7.set (b.nx+4) .dead=A:=⟨_,rfl⟩;have BJ:A.Ok:=by rw [← hA];exact Mem.Ok.set I.ok (by omega) _
 have ab:A.nx=M7.nx:=by rw [← hA];rfl
 have u:A.lim=b.lim:=by rw [← hA];exact I.lim
 have lA:A.lim<=A.nx:=by rw [u,ab];omega
 have gA:∀i,i<M7.nx->i≠b.nx+4->A.get i=M7.get i:=λi j hj=>by rw [← hA,K6 I.ok _ (by omega) hj]
 have oA:∀i,i<b.nx->A.get i=b.get i:=λi j=>by rw [gA i (by omega) (by omega)];exact I.old i j
 have S:A.get m.nx=some (r9 (r4 k c s v)):=(oA _ (by omega)).trans P;have X7:=J5 BJ [r9 [.bool false],r9 [.bool false]];have ag:(ext A [r9 [.bool false],r9 [.bool false]]).nx=A.nx+2:=by simp
 have o7:∀i,i<b.nx->(ext A [r9 [.bool false],r9 [.bool false]]).get i=b.get i:=λi j=>(X7.old i (by omega)).trans (oA i j);have vi:Vi (bwd V) (b.nx+1) b.nx A.nx (A.nx+1) (ext A [r9 [.bool false],r9 [.bool false]]) false false:=
  ⟨X7.ok,by rw [X7.lim,u];omega,by rw [X7.lim,u];omega,by omega,by omega,by omega,⟨by omega,by omega⟩,⟨by omega,by omega⟩,by omega,by omega,by rw [X7.old _ (by omega),gA _ (by omega) (by omega)];exact I.g8,by rw [X7.old _ (by omega),gA _ (by omega) (by omega)];exact I.gm,by rw [D6 BJ];rfl,by rw [G6 BJ];rfl⟩
 have Q:(ext A [r9 [.bool false],r9 [.bool false]]).get m.nx=some (r9 (r4 k c s v)):=(X7.old _ (by omega)).trans S;obtain⟨M8,Z,E8,w8⟩:=ad4 fu D 20 (n+4) (by omega) _ (λi=>i<m.nx) _ (r4 k c s v) _ _ vi (by omega) (by omega) (bU.mono (S':=λi=>i<m.nx) (by omega) (λi j _=>by rw [o7 i (by omega),F4.old i j]) (λi j _=>j) _ _ a1) (by omega) (by omega);rw [Wl (λt=>Mq t V),aaO,aaO] at w8;have n8:=E8.nx;have R:M8.get m.nx=some (r9 (r4 k c s v)):=by rw [E8.old _ (by omega) (by omega) (by omega)];exact Q
 have O:M8.get (b.nx+3)=some .deferred:=by rw [E8.old _ (by omega) (by omega) (by omega),X7.old _ (by omega),gA _ (by omega) (by omega)];exact I.gd
 have F8:∀i,i<m.nx->M8.get i=m.get i:=λi j=>by rw [E8.old i (by omega) (by omega) (by omega),o7 i (by omega),F4.old i j]
 have l8:M8.lim<=M8.nx:=by rw [E8.lim,X7.lim,u];omega
 have a8:M8.lim=m.lim:=by rw [E8.lim,X7.lim,u,F4.lim]
 have H:=w8.gc;have J:=w8.gu;have lc:=Ya (qQ KW (l9 KW fu (n+4)) fu);have b8:b.nx+3<M8.nx:=by omega
 have X8:Ext m (M8.set (b.nx+3) .dead):=⟨Mem.Ok.set E8.ok b8 _,by show m.nx<=M8.nx;omega,a8,λi j=>by rw [K6 E8.ok _ b8 (by omega),F8 i j]⟩;cases hc:Bp (.mk k c s a) with
 | true=>rw [hc] at H;rw [agh,if_pos rfl];refine⟨_,?_,X8⟩;rw [enter (sf:=f13) rfl rfl];simp [f13,G7,I8,ov,X,oz,l,g,N8 F1.ok (L F1),F7 F1.ok (L F1),I6 F1.ok,H8 F1.ok,G9,o,y,r,W,y2,h,w,d1,d2,x,C,B,P,fM,vo,vc,D6 f,G6 f,N8 f U,F7 f U,I6 f,H8 f,G,a0,I.gl,hA,N8 BJ lA,F7 BJ lA,I6 BJ,H8 BJ,D6 BJ,G6 BJ,S,Q,Z,R,H,J,lc,O]
 | false=>
 rw [hc] at H;rw [ajV,if_neg (by decide)];cases hu:MN V (.mk k c s a) with
 | true=>rw [hu] at J;rw [if_pos rfl];refine⟨_,?_,X8⟩;rw [enter (sf:=f13) rfl rfl];simp [f13,G7,I8,ov,X,oz,l,g,N8 F1.ok (L F1),F7 F1.ok (L F1),I6 F1.ok,H8 F1.ok,G9,o,y,r,W,y2,h,w,d1,d2,x,C,B,P,fM,vo,vc,D6 f,G6 f,N8 f U,F7 f U,I6 f,H8 f,G,a0,I.gl,hA,N8 BJ lA,F7 BJ lA,I6 BJ,H8 BJ,D6 BJ,G6 BJ,S,Q,Z,R,H,J,lc,O]
 | false=>
 rw [hu] at J;rw [if_neg (by decide)];have Y:=J5 E8.ok [r9 [iV 0],r9 [.func (.func 36) [] [.ptr (b.nx+1) 0],.nilFunc,.func (.func 37) [] [.ptr M8.nx 0]]];have yx:(ext M8 [r9 [iV 0],r9 [.func (.func 36) [] [.ptr (b.nx+1) 0],.nilFunc,.func (.func 37) [] [.ptr M8.nx 0]]]).nx=M8.nx+2:=by simp
 have wd:Wd (bwd V) M8.nx (b.nx+1) b.nx (ext M8 [r9 [iV 0],r9 [.func (.func 36) [] [.ptr (b.nx+1) 0],.nilFunc,.func (.func 37) [] [.ptr M8.nx 0]]]):=
  ⟨Y.ok,by rw [Y.lim];exact l8,by omega,by omega,by omega,by omega,by omega,(Y.old _ (by omega)).trans w8.g8,(Y.old _ (by omega)).trans w8.gm⟩
 obtain⟨M11,a3,E11,T⟩:=ad2 (V:=bwd V) (Qm V aa) fu 20 (n+4) (by omega) _ (λi=>i<m.nx) 0 (.mk k c s a) (r4 k c s v) wd (by rw [D6 E8.ok];rfl) (by omega)
  (bU.mono (S':=λi=>i<m.nx) (by rw [yx];omega) (λi j _=>by rw [Y.old i (by omega),F8 i j]) (λi j _=>j) _ _ a1) hf hc (by omega)
 rw [Wn (λt=>Ql t V)] at a3 T;have ad:=E11.nx;have a4:M11.get (b.nx+3)=some .deferred:=by rw [E11.old _ (by omega) (by omega),Y.old _ (by omega)];exact O
 have a5:(ext M8 [r9 [iV 0],r9 [.func (.func 36) [] [.ptr (b.nx+1) 0],.nilFunc,.func (.func 37) [] [.ptr M8.nx 0]]]).get m.nx=some (r9 (r4 k c s v)):=(Y.old _ (by omega)).trans R;have a6:(ext M8 [r9 [iV 0],r9 [.func (.func 36) [] [.ptr (b.nx+1) 0],.nilFunc,.func (.func 37) [] [.ptr M8.nx 0]]]).get (M8.nx+1)=some (r9 [.func (.func 36) [] [.ptr (b.nx+1) 0],.nilFunc,.func (.func 37) [] [.ptr M8.nx 0]]):=by rw [G6 E8.ok];rfl
 have T:M11.get M8.nx=some (r9 [.int .i64 (fB V (.mk k c s a)).2]):=T;have b3:b.nx+3<M11.nx:=by omega
 refine⟨M11.set (b.nx+3) .dead,?_,⟨Mem.Ok.set E11.ok b3 _,by show m.nx<=M11.nx;omega,?_,λi j=>?_⟩⟩;rw [enter (sf:=f13) rfl rfl];generalize fB V (.mk k c s a)=z at *;simp [f13,G7,I8,ov,X,oz,l,g,N8 F1.ok (L F1),F7 F1.ok (L F1),I6 F1.ok,H8 F1.ok,G9,o,y,r,W,y2,h,w,d1,d2,x,C,B,P,fM,vo,vc,D6 f,G6 f,N8 f U,F7 f U,I6 f,H8 f,G,a0,I.gl,hA,N8 BJ lA,F7 BJ lA,I6 BJ,H8 BJ,D6 BJ,G6 BJ,S,Q,Z,R,H,J,lc,O,N8 E8.ok l8,F7 E8.ok l8,D6 E8.ok,G6 E8.ok,I6 E8.ok,H8 E8.ok,a5,a6,a3,T,a4];show M11.lim=_;rw [E11.lim,Y.lim];exact a8;rw [K6 E11.ok _ b3 (by omega),E11.old i (by omega) (by omega),Y.old i (by omega),F8 i j]
theorem aie {m:Mem}(A:m.Ok)(J:m.lim<=m.nx){F:d9}{V:List (List UInt8×Int)}(p:aR m 2 F (P7 V)){row:List d9}{e:Ex}(B:bU m (λ_=>True) e row)(n fu:Nat)(Q:320<=n)(h:20000<=fu):
  ∃m',l9 KW fu (n+1) (.func 4) [.agg row,F] m=some [⟨.bool true,m'⟩]∧Ext m m':=by
 obtain⟨n,rfl⟩:∃k,n=k+5:=⟨n-5,by omega⟩;have r:=B;have i:∀{M:Mem},Ext m M->bU M (λ_=>True) e row:=λE=>SK E r;have L:∀{M:Mem},Ext m M->M.lim<=M.nx:=λE=>by rw [E.lim];exact J2 J E.nx
 have d:∀M,l9 KW fu (n+5) (.func 7) [] M=_:=λM=>RU (n+4) fu M;have c:=p.len;rw [show (P7 V).length=V.length from by simp [P7]] at c;obtain⟨k,b,s,a⟩:=e;obtain⟨v,D,rfl,C,U⟩:=B;have l:=C.slice.cells;have u:=C.slice.G9;have E0:=J5 A [r9 (r4 k b s v)];have f:(ext m [r9 (r4 k b s v)]).get m.nx=some (r9 (r4 k b s v)):=by rw [D6 A];rfl
 have O:(ext m [r9 (r4 k b s v)]).nx=m.nx+1:=by simp
 obtain⟨t,G,E1⟩:=acF fu h 26 (n+5) (by omega) (by omega) _ (r4 k b s v) (.mk k b s a) 600 1 E0.ok (L E0) (i E0) (by omega) (by omega) (by omega) (by omega);have g:l9 KW fu (n+5) (.func 12) [.agg (r4 k b s v),iV 600,iV 1] (ext m [r9 (r4 k b s v)])=some [⟨.int .i64 (wX 26 (.mk k b s a) 600),t⟩]:=G;have F1:=E0.trans E1;have j:t.get m.nx=some (r9 (r4 k b s v)):=(E1.old _ (by omega)).trans f;by_cases q:wX 26 (.mk k b s a) 600<=600∧V.length<=30
 case neg=>
  refine⟨t,?_,F1⟩;rw [enter (sf:=f4) rfl rfl];by_cases y:(600:Int)<wX 26 (.mk k b s a) 600;simp [f4,G7,I8,u,l,f,G9,g,y,d];have w:(30:Int)<(V.length:Int):=by omega
  have x:30<V.length:=by omega
  simp [f4,G7,I8,u,l,f,G9,g,y,c,w,x,d]
 obtain⟨q,P⟩:=q;obtain⟨R,S⟩:=Vx 26 (.mk k b s a) 600 (by omega) q;have T:gQ (.mk k b s a)<=600:=by omega
 have y:¬ (600:Int)<wX 26 (.mk k b s a) 600:=by omega
 have w:¬ (30:Int)<(V.length:Int):=by omega
 have x:¬ 30<V.length:=by omega
 obtain⟨K,H,E2⟩:=adp F1.ok (L F1) (p.ext F1) (by omega) (i F1) (by omega) n fu (by omega) h;have F2:=F1.trans E2;have o:K.get m.nx=some (r9 (r4 k b s v)):=(E2.old _ (by have:=E1.nx;omega)).trans j;obtain⟨N,I,E3⟩:=adj F2.ok (L F2) (p.ext F2) (by omega) (i F2) (by omega) (by omega) (n+4) fu (by omega) h;refine⟨N,?_,F2.trans E3⟩;rw [enter (sf:=f4) rfl rfl];generalize Sg V (.mk k b s a)=z at *;simp [f4,G7,I8,u,l,f,G9,g,y,w,x,c,j,H,o,I,d]
end Go.Proofs.YtcnimimffiiimaaGreatDoor.TT
