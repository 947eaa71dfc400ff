/- Functions of the program and of the specification, walked; conditions: the memory holds what the arguments say. -/
import Derived.Test.YtfnlnpllpfhhnaaGreatDoorQD1
import Derived.Lib.ItoaMem
import Derived.Lib.AtoiAll
import Derived.Lib.Fields
import Derived.Lib.SpaceU
import Derived.Shelf.Strings.FieldsAny
set_option linter.all false
namespace Go.Proofs.YtfnlnpllpfhhnaaGreatDoor.TT
open Go Go.AM
set_option maxRecDepth 100000
set_option maxHeartbeats 2000000
theorem aeP (a:d9)(m:Mem)(e:m.Ok)(id:Nat)(c:m.get id=some (j5 [a])):aj m 1 1 (.slice id 0 1 1)=some [a]:=by show Y0 m id 0 (Nat.mul 1 1)=_;show aU (m.get id) (λd k b=>J7 d k b 1 0)=_;rw [c];kernel_rfl
theorem ab8 (a:d9)(m:Mem)(c:m.Ok)(id:Nat)(b:m.get id=some (j5 [a]))(s x:OF)(cf:H7)(ls:List d9)(env:T d9)(hs:s ls env=nS)(d:x ls env=.slice id 0 1 1):
  lu 1 8 s x cf ls env m=some [⟨.sliceU m.nx 0 1 1,m.new (j5 [a])⟩]:=by
 show ob (lenOf (x ls env)) (λn=>ob (aj m 1 n (x ls env)) λnew=>kT m 1 8 n new (s ls env))=_;rw [d,hs];show ob (aj m 1 1 (.slice id 0 1 1)) _=_;rw [aeP a m c id b];rfl
theorem akJ (b:Int)(hb:b<20001)(x y:OF)(ls:List d9)(env:T d9)(a:x ls env=iV 20001)(c:y ls env=iV b):
  SX false x [y] ls env=some (iV b):=by
 show ob (mm2 false (x ls env) (y ls env)) _=_;rw [a,c];show some (d9.int .i64 (bi (mQ b 20001) b 20001))=_;rw [show mQ b 20001=true by rw [iO];simp;omega];rfl
theorem WB (f:G6)(h0:0<=f.made)(C:f.made<=20000)(n k:Nat)(q:20000<=k)(m:Mem)(c:m.Ok)(B:m.lim<=m.nx)(id:Nat)(d:id<m.nx)(l:m.get id=some (j5 f.bJ)):
  l8 KW k (n+2) (.func 174) [.agg (I6 id)] m=some [⟨.sliceU (m.nx+6) 0 1 2,ext m [j5 (I6 id),j5 [iV f.made],j5 [iV f.made],j5 (I6 id),j5 f.bJ,j5 [iV f.gid,iV f.made],j5 [iV f.gid,iV f.made]]⟩]:=by
 rw [enter (sf:=f174) rfl rfl];obtain⟨N,rfl⟩:∃N,k=N+3:=⟨k-3,by omega⟩;have g:(ext m [j5 (I6 id)]).get id=some (j5 f.bJ):=by rw [H6 c _ d];exact l
 have h:(ext m [j5 (I6 id),j5 [iV f.made],j5 [iV f.made]]).get id=some (j5 f.bJ):=by rw [H6 c _ d];exact l
 have i:(ext m [j5 (I6 id),j5 [iV f.made],j5 [iV f.made],j5 (I6 id),j5 f.bJ]).get id=some (j5 f.bJ):=by rw [H6 c _ d];exact l
 have j:(ext m [j5 (I6 id),j5 [iV f.made],j5 [iV f.made],j5 (I6 id),j5 f.bJ,j5 [iV f.gid,iV f.made],j5 [iV f.gid,iV f.made]]).get id=some (j5 f.bJ):=by rw [H6 c _ d];exact l
 have u:∀(s x:OF) e b a,s b a=nS->x b a=.slice (m.nx+1) 0 1 1->
   lu 1 8 s x e b a (ext m [j5 (I6 id),j5 [iV f.made]])=some [⟨.sliceU (m.nx+2) 0 1 1,ext m [j5 (I6 id),j5 [iV f.made],j5 [iV f.made]]⟩]:=by
  intro s x e b a r t;rw [ab8 (iV f.made) _ (I5 c _) (m.nx+1) (by rw [l5 c];rfl) s x e b a r t,← jC];simp
 have v:=aeO f n (N+3) q (ext m [j5 (I6 id),j5 [iV f.made],j5 [iV f.made]]) (I5 c _) (by simp;omega) id;have w:∀(s x:OF) e b a,s b a=nS->x b a=.slice (m.nx+5) 0 1 1->
   lu 2 16 s x e b a (ext m [j5 (I6 id),j5 [iV f.made],j5 [iV f.made],j5 (I6 id),j5 f.bJ,j5 [iV f.gid,iV f.made]]) =
    some [⟨.sliceU (m.nx+6) 0 1 2,ext m [j5 (I6 id),j5 [iV f.made],j5 [iV f.made],j5 (I6 id),j5 f.bJ,j5 [iV f.gid,iV f.made],j5 [iV f.gid,iV f.made]]⟩]:=by
  intro s x e b a r t;rw [RD (iV f.gid) (iV f.made) _ (I5 c _) (m.nx+5) (by rw [l5 c];rfl) s x e b a r t,← jC];simp
 have y:=akJ f.made (by omega);have z:decide (-1<f.made)=true:=by simp;omega
 have A:decide (f.made<20001)=true:=by simp;omega
 have o:-1<f.made:=by omega
 have p:f.made<20001:=by omega
 simp only [I6] at g h i j u v w ⊢;simp [f174,zQ,Cr,FW,Kk,OM,Ug,l9,bD c B,A8,J3,S9,g,h,i,j,u,v,w,y,z,A,o,p,show lI 1=1 from Z8 (by decide) (by decide)]
@[simp] theorem aGp (f:G6)(h:2<f.bJ.length):f.bJ[2]'h=iV f.nom:=id rfl
@[simp] theorem aGq (f:G6)(h:3<f.bJ.length):f.bJ[3]'h=iV f.tlo:=id rfl
@[simp] theorem aGr (f:G6)(h:4<f.bJ.length):f.bJ[4]'h=iV f.thi:=id rfl
noncomputable def vF (a b:List d9):Z6:=.cells (len' a) 2 (T.ofList [a,b])
theorem RG {g:Type}{es:Nat}{a:List d9}(h:a.length=es+es)(k:Z6->Option g):jR es 2 a k=k (vF (a.take es) (a.drop es)):=by
 show ob (ob (takeN es a) λr=>ob (ob (takeN es (gQ es a)) λf=>ob (rowsOf es 0 (gQ es (gQ es a))) λb=>some (f::b)) λb=>some (r::b)) (λc=>k (.cells es 2 (T.ofList c)))=_;have i:(a.drop es).length=es:=by simp;omega
 have d:(a.drop es).drop es=[]:=zu (by omega);have e:(a.drop es).take es=a.drop es:=aaF (by omega);rw [iw _ _ (by omega),I9,eT,iw _ _ (by omega),I9,eT,d,e];show k (.cells es 2 (T.ofList [a.take es,a.drop es]))=k (.cells (len' (a.take es)) 2 (T.ofList [a.take es,a.drop es]));rw [K7,adX,ae2 (by omega)]
theorem Ky (es:Nat)(zero:List d9)(ps:List (Nat×Nat×OF))(ls:List d9)(env:T d9)(nid:Nat):I8 es 2 zero ps ls env nid=ob (lay ps ls env (zero++zero)) λcells=>if cells.length=es+es then some (.slice nid 0 2 2,some (vF (cells.take es) (cells.drop es))) else jR es 2 cells λb=>some (.slice nid 0 2 2,some b):=by show ob (lay ps ls env (cZ zero (cZ zero []))) (λcells=>jR es 2 cells λb=>some (d9.slice nid 0 2 2,some b))=_;rw [V8,V8,acH];congr 1;funext cells;split;rename_i h;rw [RG h];rfl
theorem aeQ (a b c d:d9)(m:Mem)(i:m.Ok)(id:Nat)(f:m.get id=some (vF [a,b] [c,d]))(s x:OF)(cf:H7)(ls:List d9)(env:T d9)(hs:s ls env=nS)(g:x ls env=.slice id 0 2 2):
  lu 2 16 s x cf ls env m=some [⟨.sliceU m.nx 0 2 2,m.new (vF [a,b] [c,d])⟩]:=by
 show ob (lenOf (x ls env)) (λn=>ob (aj m 2 n (x ls env)) λnew=>kT m 2 16 n new (s ls env))=_;rw [g,hs];show ob (aj m 2 2 (.slice id 0 2 2)) _=_;rw [show aj m 2 2 (.slice id 0 2 2)=some [a,b,c,d] by
  show aU (m.get id) (λh k e=>J7 h k e 4 0)=_;rw [f];kernel_rfl]
 rfl
theorem aeR (a b c d e f:d9)(m:Mem)(l:m.Ok)(id:Nat)(h:m.get id=some (vF [a,b,c] [d,e,f]))(s x:OF)(cf:H7)(ls:List d9)(env:T d9)(hs:s ls env=nS)(i:x ls env=.slice id 0 2 2):
  lu 3 24 s x cf ls env m=some [⟨.sliceU m.nx 0 2 3,m.new (vF [a,b,c] [d,e,f])⟩]:=by
 show ob (lenOf (x ls env)) (λn=>ob (aj m 3 n (x ls env)) λnew=>kT m 3 24 n new (s ls env))=_;rw [i,hs];show ob (aj m 3 2 (.slice id 0 2 2)) _=_;rw [show aj m 3 2 (.slice id 0 2 2)=some [a,b,c,d,e,f] by
  show aU (m.get id) (λj k g=>J7 j k g 6 0)=_;rw [h];kernel_rfl]
 rfl
theorem aeS (f:G6)(h0:0<=f.made)(C:f.made<=20000)(n r:Nat)(t:20000<=r)(m:Mem)(j:m.Ok)(E:m.lim<=m.nx)(id:Nat)(u:id<m.nx)(D:m.get id=some (j5 f.bJ)):
  ∃p q m',l8 KW r (n+3) (.func 175) [.agg (I6 id)] m=some [⟨.agg [.sliceU p 0 2 3,.sliceU q 0 2 2],m'⟩]∧Ext m m':=by
 rw [enter (sf:=f175) rfl rfl];obtain⟨N,rfl⟩:∃N,r=N+2:=⟨r-2,by omega⟩;have o:∀y,(ext m y).get id=some (j5 f.bJ):=λy=>by rw [H6 j _ u];exact D
 have l:=o [j5 (I6 id),j5 [nS,nS],j5 [nS,nS],j5 (I6 id),j5 [iV f.made],j5 [iV f.made],j5 (I6 id),j5 f.bJ,j5 [iV f.gid,iV f.made],j5 [iV f.gid,iV f.made]];have z:=WB f h0 C n (N+2) t (ext m [j5 (I6 id),j5 [nS,nS],j5 [nS,nS]]) (I5 j _) (by simp;omega) id (by simp;omega) (o _);have A:∀(a b c d e g:Int) (s x:OF) k i h,s i h=nS->x i h=.slice (m.nx+11) 0 2 2->
   lu 3 24 s x k i h (ext m [j5 (I6 id),j5 [nS,nS],j5 [nS,nS],j5 (I6 id),j5 [iV f.made],j5 [iV f.made],j5 (I6 id),j5 f.bJ,j5 [iV f.gid,iV f.made],j5 [iV f.gid,iV f.made],j5 f.bJ,vF [iV a,iV b,iV c] [iV d,iV e,iV g]])=some [⟨.sliceU (m.nx+12) 0 2 3,ext m [j5 (I6 id),j5 [nS,nS],j5 [nS,nS],j5 (I6 id),j5 [iV f.made],j5 [iV f.made],j5 (I6 id),j5 f.bJ,j5 [iV f.gid,iV f.made],j5 [iV f.gid,iV f.made],j5 f.bJ,vF [iV a,iV b,iV c] [iV d,iV e,iV g],vF [iV a,iV b,iV c] [iV d,iV e,iV g]]⟩]:=by
  intro a b c d e g s x k i h v w;rw [aeR (iV a) (iV b) (iV c) (iV d) (iV e) (iV g) _ (I5 j _) (m.nx+11) (by rw [l5 j];rfl) s x k i h v w,← jC];simp
 have B:∀(a b c d e g:Int) (s x:OF) k i h,s i h=nS->x i h=.slice (m.nx+13) 0 2 2->
   lu 2 16 s x k i h (ext m [j5 (I6 id),j5 [nS,nS],j5 [.sliceU (m.nx+12) 0 2 3,nS],j5 (I6 id),j5 [iV f.made],j5 [iV f.made],j5 (I6 id),j5 f.bJ,j5 [iV f.gid,iV f.made],j5 [iV f.gid,iV f.made],j5 f.bJ,vF [iV a,iV b,iV c] [iV d,iV e,iV g],vF [iV a,iV b,iV c] [iV d,iV e,iV g],vF [iV 1,iZ] [iV 1,iZ]])=some [⟨.sliceU (m.nx+14) 0 2 2,ext m [j5 (I6 id),j5 [nS,nS],j5 [.sliceU (m.nx+12) 0 2 3,nS],j5 (I6 id),j5 [iV f.made],j5 [iV f.made],j5 (I6 id),j5 f.bJ,j5 [iV f.gid,iV f.made],j5 [iV f.gid,iV f.made],j5 f.bJ,vF [iV a,iV b,iV c] [iV d,iV e,iV g],vF [iV a,iV b,iV c] [iV d,iV e,iV g],vF [iV 1,iZ] [iV 1,iZ],vF [iV 1,iZ] [iV 1,iZ]]⟩]:=by
  intro a b c d e g s x k i h v w;rw [aeQ (iV 1) iZ (iV 1) iZ _ (I5 j _) (m.nx+13) (by rw [l5 j];rfl) s x k i h v w,← jC];simp
 refine⟨m.nx+12,m.nx+14,ext m [j5 (I6 id),j5 [.sliceU (m.nx+12) 0 2 3,.sliceU (m.nx+14) 0 2 2],j5 [.sliceU (m.nx+12) 0 2 3,.sliceU (m.nx+14) 0 2 2],j5 (I6 id),j5 [iV f.made],j5 [iV f.made],j5 (I6 id),j5 f.bJ,j5 [iV f.gid,iV f.made],j5 [iV f.gid,iV f.made],j5 f.bJ,vF [iZ,iV 1,iV (lI (f.nom+f.thi))] [iV 1,iZ,iV (lI (lI (-f.nom)-f.tlo))],vF [iZ,iV 1,iV (lI (f.nom+f.thi))] [iV 1,iZ,iV (lI (lI (-f.nom)-f.tlo))],vF [iV 1,iZ] [iV 1,iZ],vF [iV 1,iZ] [iV 1,iZ]],?_,r9 j _⟩;simp only [I6] at l z A B ⊢;simp [f175,Kl,OO,Uh,l9,bD j E,A8,Ky,S9,l,z,A,B,show lI 1=1 from Z8 (by decide) (by decide)]
theorem RH (f:G6)(h:U9 f=true):0<=f.made∧f.made<=20000:=by simp only [U9,rW,decide_eq_true_eq] at h;exact h.2.2.2.2.1
theorem akK (f:G6)(A:Z9 f.gn)(hb:Z9 f.gd)(n s:Nat)(c:20000<=s)(m:Mem)(l:m.Ok)(w:m.lim<=m.nx)(id:Nat)(t:id<m.nx)(B:m.get id=some (j5 f.bJ)):
  ∃m',l8 KW s (n+5) (.func 88) [.agg (I6 id)] m=some [⟨iV (bif U9 f then 0 else 1),m'⟩]∧Ext m m':=by
 rw [enter (sf:=f88) rfl rfl];obtain⟨N,rfl⟩:∃N,s=N+2:=⟨s-2,by omega⟩;have g:=Wv (n+3) (N+2) 0 0 0 1000000 (ext m [j5 (I6 id)]) (I5 l _);have d:(ext m [j5 (I6 id),j5 [iZ,iZ]]).get id=some (j5 f.bJ):=by rw [H6 l _ t];exact B
 have E2:=r9 l [j5 (I6 id),j5 [iZ,iZ]];obtain⟨b,r,E3⟩:=aeC f A hb (n+1) (N+2) c _ (I5 l [j5 (I6 id),j5 [iZ,iZ]]);have a:b.get m.nx=some (j5 (I6 id)):=by rw [E3.old _ (by simp),j6 l];rfl
 have o:b.get id=some (j5 f.bJ):=by rw [E3.old _ (by simp;omega)];exact d
 have E23:=E2.trans E3;have C:b.lim<=b.nx:=by rw [E23.lim];have:=E23.nx;omega
 have E:m.nx+2<=b.nx:=by have:=E3.nx;simpa using this
 have e:b.Ok:=E3.ok;cases hgb:U9 f with
 | false=>rw [hgb] at r;refine⟨b,?_,E23⟩;simp only [I6] at g d r a ⊢;simp [f88,Wh,l9,bD l w,A8,g,d,r,a]
 | true=>
  rw [hgb] at r;obtain⟨u,v⟩:=RH f hgb;have h:=aeM (n+3) (N+2) c b e C id;have i:=aeN (n+3) (N+2) c (ext b [j5 (I6 id)]) (I5 e _) (by simp;omega) id;have x:(ext b [j5 (I6 id)]).get m.nx=some (j5 (I6 id)):=by rw [H6 e _ (by omega)];exact a
  have y:(ext b [j5 (I6 id),j5 (I6 id)]).get m.nx=some (j5 (I6 id)):=by rw [H6 e _ (by omega)];exact a
  have j:=WB f u v (n+2) (N+2) c (ext b [j5 (I6 id),j5 (I6 id)]) (I5 e _) (by simp;omega) id (by simp;omega) (by rw [H6 e _ (by omega)];exact o);have z:(ext b [j5 (I6 id),j5 (I6 id),j5 (I6 id),j5 [iV f.made],j5 [iV f.made],j5 (I6 id),j5 f.bJ,j5 [iV f.gid,iV f.made],j5 [iV f.gid,iV f.made]]).get m.nx=some (j5 (I6 id)):=by rw [H6 e _ (by omega)];exact a
  obtain⟨p,q,D,k,E5⟩:=aeS f u v (n+1) (N+2) c (ext b [j5 (I6 id),j5 (I6 id),j5 (I6 id),j5 [iV f.made],j5 [iV f.made],j5 (I6 id),j5 f.bJ,j5 [iV f.gid,iV f.made],j5 [iV f.gid,iV f.made]]) (I5 e _) (by simp;omega) id (by simp;omega) (by rw [H6 e _ (by omega)];exact o);refine⟨D,?_,E23.trans ((r9 e _).trans E5)⟩;simp only [I6] at g d r a h i x y z j k ⊢;simp [f88,Na,Wd,Wh,l9,bD l w,A8,S9,g,d,r,a,o,h,i,j,x,y,z,k,show lI 1=1 from Z8 (by decide) (by decide)]
theorem aeT {m:Mem}{f:G6}{p0:Nat}{v:d9}{xs:List Int}(r:Y9 m v xs)(hb:xs.length<1000000)(n s:Nat):
  ∀(j i:Nat),i+j=xs.length->∀(N:Nat),j<N->∀(a0 a1:d9),
   ∃x k b0 b1,J5 (λenv m k=>BF (l8 KW s (n+5)) s none env m k) N (aaV (.agg f.cells) (.ptr p0 0) (iV 6) fV fV fV fV fV uV uV uV tV (iN i) v a0 a1 uV fV) m []=some [⟨x,(aaV (.agg f.cells) (.ptr p0 0) (iV 6) fV fV fV fV fV uV uV uV tV (iN k) v b0 b1 uV fV),m,[],none⟩]∧x=(bif Z0 (okB xs) j i then bP.exit 1 else .ret):=by
 intro j;induction j with
 | zero=>
  intro i F N E a0 a1;obtain⟨N,rfl⟩:∃M,N=M+1:=⟨N-1,by omega⟩;refine⟨.exit 1,i,fV,a1,?_,rfl⟩;rw [l9];have h:¬ i<xs.length:=by omega
  have c:=r.len;simp [BF,h,c]
 | succ j ih=>
  intro i F N E a0 a1;obtain⟨N,rfl⟩:∃M,N=M+1:=⟨N-1,by omega⟩;have h:i<xs.length:=by omega
  have c:=r.len;obtain⟨p,d,_,e⟩:=r.at h;have B:=kP h;have g:okB xs i=true->∃x k b0 b1,J5 (λenv m k=>BF (l8 KW s (n+5)) s none env m k) (N+1) (aaV (.agg f.cells) (.ptr p0 0) (iV 6) fV fV fV fV fV uV uV uV tV (iN i) v a0 a1 uV fV) m []=some [⟨x,(aaV (.agg f.cells) (.ptr p0 0) (iV 6) fV fV fV fV fV uV uV uV tV (iN k) v b0 b1 uV fV),m,[],none⟩]∧x=(bif Z0 (okB xs) (j+1) i then bP.exit 1 else .ret):=by
   intro a;obtain⟨x,k,b0,b1,C,D⟩:=ih (i+1) (by omega) N (by omega) tV fV;refine⟨x,k,b0,b1,?_,by rw [D];simp [Z0,a]⟩;rw [l9,← C];simp only [okB,B,rW,aiL,decide_eq_true_eq] at a;obtain⟨⟨z,A⟩,w⟩:=a;by_cases h0:i=0;have b:¬ 0<i:=by omega
   simp [BF,h,c,d,e,z,A,b,bH,Z7 (i:=i) (by omega)];have l:i-1<xs.length:=by omega
   obtain⟨q,t,_,u⟩:=r.at l;have w:=w.resolve_left h0;rw [kP l] at w;have b:0<i:=by omega
   have y:¬ xs[i]<=xs[i-1]:=by omega
   simp [BF,h,c,d,e,t,u,z,A,b,y,bH,Z7 (i:=i) (by omega),pR (i:=i) b (by omega)]
  cases a:okB xs i with
  | true=>exact g a
  | false=>
   refine⟨.ret,i,tV,tV,?_,by simp [Z0,a]⟩;rw [l9];simp only [okB,B] at a;by_cases h0:i=0;have o:(decide (1<=xs[i])&&decide (xs[i]<=1099511627776))=false:=by simpa [h0] using a
   simp [BF,h,c,d,e,o,bH];have l:i-1<xs.length:=by omega
   obtain⟨q,t,_,u⟩:=r.at l;have b:0<i:=by omega
   rw [kP l,show decide (i=0)=false from decide_eq_false h0,arP] at a;cases o:(decide (1<=xs[i])&&decide (xs[i]<=1099511627776)) with
   | false=>simp [BF,h,c,d,e,o,bH]
   | true=>rw [o,adW] at a;have y:xs[i]<=xs[i-1]:=(by simpa using a);simp [BF,h,c,d,e,t,u,o,b,y,bH,pR (i:=i) b (by omega)]
def qy (f:G6)(a b l:List Int):Bool:=if f.kind=1 then Nj f else if f.kind=2 then U9 f else if f.kind=3 then RB f else if f.kind=4 then tJ f else if f.kind=5 then eG f a b else if f.kind=6 then LM f l else if f.kind=7 then UA f else false
theorem axw {m:Mem}{f:G6}{a b l:List Int}(c:m.Ok)(j:m.lim<=m.nx)(i:aN m f a b l)(n d:Nat)(g:20000<=d)(h:f.kind=1):∃m',l8 KW d (n+6) (.func 47) [.agg f.cells] m=some [⟨.bool (Nj f),m'⟩]∧Ext m m':=by rw [enter (sf:=f47) rfl rfl];have e:=Ux (n+4) d f.flo f.fhi 0 1000000 (ext m [j5 f.cells]) (I5 c _);exact⟨ext m [j5 f.cells,j5 [iV f.flo,iV f.fhi]],by simp [f47,o9,w9,j6 c,l5 c,o8 c,o7 c,A8,h,e,Nj],r9 c _⟩
theorem axx {m:Mem}{f:G6}{a b l:List Int}(c:m.Ok)(o:m.lim<=m.nx)(k:aN m f a b l)(n d:Nat)(g:20000<=d)(h:Z9 f.gn)(hb:Z9 f.gd)(i:f.kind=2):∃m',l8 KW d (n+6) (.func 47) [.agg f.cells] m=some [⟨.bool (U9 f),m'⟩]∧Ext m m':=by rw [enter (sf:=f47) rfl rfl];obtain⟨j,e,E1⟩:=akK f h hb n d g (ext m [j5 f.cells,j5 f.bJ]) (I5 c _) (by simp;omega) (m.nx+1) (by simp) (by rw [l5 c];rfl);refine⟨j,?_,(r9 c _).trans E1⟩;simp only [I6] at e;cases hgb:U9 f<;>rw [hgb] at e<;>simp [f47,o9,w9,j6 c,l5 c,o8 c,o7 c,A8,i,J3,e]
theorem axy {m:Mem}{f:G6}{a b l:List Int}(c:m.Ok)(i:m.lim<=m.nx)(h:aN m f a b l)(n e:Nat)(g:20000<=e)(d:f.kind=3):∃m',l8 KW e (n+6) (.func 47) [.agg f.cells] m=some [⟨.bool (RB f),m'⟩]∧Ext m m':=by
 rw [enter (sf:=f47) rfl rfl];cases h0:(decide (1<=f.ug)&&decide (f.ug<=1099511627776)) with
 | true=>
  cases h1:(decide (0<=f.ud)&&decide (f.ud<=20000)) with
  | true=>exact⟨ext m [j5 f.cells],by simp [f47,o9,w9,j6 c,l5 c,o8 c,o7 c,A8,d,bH,iR,RB,h0,h1],r9 c _⟩
  | false=>exact⟨ext m [j5 f.cells],by simp [f47,o9,w9,j6 c,l5 c,o8 c,o7 c,A8,d,bH,iR,RB,h0,h1],r9 c _⟩
 | false=>exact⟨ext m [j5 f.cells],by simp [f47,o9,w9,j6 c,l5 c,o8 c,o7 c,A8,d,bH,iR,RB,h0],r9 c _⟩
theorem axz {m:Mem}{f:G6}{a b l:List Int}(c:m.Ok)(j:m.lim<=m.nx)(i:aN m f a b l)(n g:Nat)(h:20000<=g)(e:f.kind=4):∃m',l8 KW g (n+6) (.func 47) [.agg f.cells] m=some [⟨.bool (tJ f),m'⟩]∧Ext m m':=by
 rw [enter (sf:=f47) rfl rfl];have d:=Ux (n+4) g f.ll f.lh 0 20000 (ext m [j5 f.cells]) (I5 c _);cases h0:(decide (1<=f.lg)&&decide (f.lg<=1099511627776)) with
 | true=>
  cases h1:(decide (0<=f.ll)&&decide (f.ll<=f.lh)&&decide (f.lh<=20000)) with
  | true=>
   cases h2:(decide (0<=f.lw)&&decide (f.lw<=1048576)) with
   | true=>exact⟨ext m [j5 f.cells,j5 [iV f.ll,iV f.lh]],by simp [f47,o9,w9,j6 c,l5 c,o8 c,o7 c,A8,e,d,bH,tJ,h0,h1,h2],r9 c _⟩
   | false=>exact⟨ext m [j5 f.cells,j5 [iV f.ll,iV f.lh]],by simp [f47,o9,w9,j6 c,l5 c,o8 c,o7 c,A8,e,d,bH,tJ,h0,h1,h2],r9 c _⟩
  | false=>exact⟨ext m [j5 f.cells,j5 [iV f.ll,iV f.lh]],by simp [f47,o9,w9,j6 c,l5 c,o8 c,o7 c,A8,e,d,bH,tJ,h0,h1],r9 c _⟩
 | false=>exact⟨ext m [j5 f.cells],by simp [f47,o9,w9,j6 c,l5 c,o8 c,o7 c,A8,e,d,bH,tJ,h0],r9 c _⟩
theorem axA {m:Mem}{f:G6}{a b l:List Int}(c:m.Ok)(o:m.lim<=m.nx)(r:aN m f a b l)(n q:Nat)(t:20000<=q)(j:f.kind=5):∃m',l8 KW q (n+6) (.func 47) [.agg f.cells] m=some [⟨.bool (eG f a b),m'⟩]∧Ext m m':=by
 rw [enter (sf:=f47) rfl rfl];have d:=r.a.A8;have e:=r.b.A8;have p:I7 f.cmp=true:=by simp [G6.cmp,d,e,show ∀k x,A8 (.int k x)=true from λ_ _=>rfl,-G6.aZ]
 have s:=r.ext (r9 c [j5 f.cells,j5 f.cmp]);have g:=aaX s.a r.la (n+3) q t;have h:=aaX s.b r.lb (n+3) q t;rw [show (Z0 (okB a) a.length 0&&decide (a.length<=6))=rQ a from rfl] at g;rw [show (Z0 (okB b) b.length 0&&decide (b.length<=6))=rQ b from rfl] at h;have i:=Ux (n+4) q f.hlo f.hhi (-10000) 10000 (ext m [j5 f.cells,j5 f.cmp]) (I5 c _);cases h0:decide (f.cid=0) with
 | true=>
  cases h1:(decide (0<=f.cday)&&decide (f.cday<=20000)) with
  | true=>
   cases h2:(decide (-1125899906842624<=f.diff)&&decide (f.diff<=1125899906842624)) with
   | true=>
    cases h3:(decide (0<=f.err)&&decide (f.err<=1073741824)) with
    | true=>
     cases h4:(decide (-10000<=f.hlo)&&decide (f.hlo<=f.hhi)&&decide (f.hhi<=10000)) with
     | true=>
      cases h5:rQ a with
      | true=>
       cases h6:rQ b with
       | true=>exact⟨ext m [j5 f.cells,j5 f.cmp,j5 [iV f.hlo,iV f.hhi]],by simp [f47,bD c o,A8,j,d,e,p,g,h,i,bH,iR,eG,h0,h1,h2,h3,h4,h5,h6],r9 c _⟩
       | false=>exact⟨ext m [j5 f.cells,j5 f.cmp,j5 [iV f.hlo,iV f.hhi]],by simp [f47,bD c o,A8,j,d,e,p,g,h,i,bH,iR,eG,h0,h1,h2,h3,h4,h5,h6],r9 c _⟩
      | false=>exact⟨ext m [j5 f.cells,j5 f.cmp,j5 [iV f.hlo,iV f.hhi]],by simp [f47,bD c o,A8,j,d,e,p,g,h,i,bH,iR,eG,h0,h1,h2,h3,h4,h5],r9 c _⟩
     | false=>exact⟨ext m [j5 f.cells,j5 f.cmp,j5 [iV f.hlo,iV f.hhi]],by simp [f47,bD c o,A8,j,d,e,p,g,h,i,bH,iR,eG,h0,h1,h2,h3,h4],r9 c _⟩
    | false=>exact⟨ext m [j5 f.cells,j5 f.cmp],by simp [f47,bD c o,A8,j,d,e,p,g,h,i,bH,iR,eG,h0,h1,h2,h3],r9 c _⟩
   | false=>exact⟨ext m [j5 f.cells,j5 f.cmp],by simp [f47,bD c o,A8,j,d,e,p,g,h,i,bH,iR,eG,h0,h1,h2],r9 c _⟩
  | false=>exact⟨ext m [j5 f.cells,j5 f.cmp],by simp [f47,bD c o,A8,j,d,e,p,g,h,i,bH,iR,eG,h0,h1],r9 c _⟩
 | false=>exact⟨ext m [j5 f.cells,j5 f.cmp],by simp [f47,bD c o,A8,j,d,e,p,g,h,i,bH,iR,eG,h0],r9 c _⟩
theorem axB {m:Mem}{f:G6}{a b l:List Int}(c:m.Ok)(v:m.lim<=m.nx)(i:aN m f a b l)(n g:Nat)(s:20000<=g)(o:f.kind=6):∃m',l8 KW g (n+6) (.func 47) [.agg f.cells] m=some [⟨.bool (LM f l),m'⟩]∧Ext m m':=by
 rw [enter (sf:=f47) rfl rfl];have j:=i.ext (r9 c [j5 f.cells]);have p:=j.l;have h:=p.len;obtain⟨x,k,t,u,e,d⟩:=aeT (f:=f) (p0:=m.nx) p (by have:=i.ll;omega) n g l.length 0 (by omega) g (by have:=i.ll;omega) uV uV;have q:decide (2<=((l.length:Nat):Int))=decide (2<=l.length):=by rw [acB];simp;omega
 have r:decide (((l.length:Nat):Int)<=5)=decide (l.length<=5):=by rw [acB];simp;omega
 refine⟨ext m [j5 f.cells],?_,r9 c _⟩;cases ha:Z0 (okB l) l.length 0 with
 | false=>rw [ha] at d;simp only [cond_false] at d;subst d;simp [o9,w9,j6 c,l5 c,o8 c,o7 c,A8,h] at e;simp [f47,o9,w9,j6 c,l5 c,o8 c,o7 c,A8,o,e,LM,ha]
 | true=>
  rw [ha] at d;simp only [cond_true] at d;subst d;simp [o9,w9,j6 c,l5 c,o8 c,o7 c,A8,h] at e;cases h1:(decide (0<=f.mday)&&decide (f.mday<=19999)) with
  | true=>simp [f47,o9,w9,j6 c,l5 c,o8 c,o7 c,A8,o,e,h,LM,ha,bH,h1,q,r]
  | false=>simp [f47,o9,w9,j6 c,l5 c,o8 c,o7 c,A8,o,e,h,LM,ha,bH,h1]
theorem axC {m:Mem}{f:G6}{a b l:List Int}(c:m.Ok)(i:m.lim<=m.nx)(h:aN m f a b l)(n e:Nat)(g:20000<=e)(d:f.kind=7):∃m',l8 KW e (n+6) (.func 47) [.agg f.cells] m=some [⟨.bool (UA f),m'⟩]∧Ext m m':=by
 rw [enter (sf:=f47) rfl rfl];cases h0:(decide (1<=f.tr)&&decide (f.tr<=6)) with
 | true=>
  cases h1:(decide (1<=f.tn)&&decide (f.tn<=60)) with
  | true=>
   cases h2:decide (f.tr=f.room) with
   | true=>
    cases h3:decide (f.tn=f.no) with
    | true=>exact⟨ext m [j5 f.cells],by simp [f47,o9,w9,j6 c,l5 c,o8 c,o7 c,A8,d,bH,UA,h0,h1,h2,h3],r9 c _⟩
    | false=>exact⟨ext m [j5 f.cells],by simp [f47,o9,w9,j6 c,l5 c,o8 c,o7 c,A8,d,bH,UA,h0,h1,h2,h3],r9 c _⟩
   | false=>exact⟨ext m [j5 f.cells],by simp [f47,o9,w9,j6 c,l5 c,o8 c,o7 c,A8,d,bH,UA,h0,h1,h2],r9 c _⟩
  | false=>exact⟨ext m [j5 f.cells],by simp [f47,o9,w9,j6 c,l5 c,o8 c,o7 c,A8,d,bH,UA,h0,h1],r9 c _⟩
 | false=>exact⟨ext m [j5 f.cells],by simp [f47,o9,w9,j6 c,l5 c,o8 c,o7 c,A8,d,bH,UA,h0],r9 c _⟩
theorem axD {m:Mem}{f:G6}{a b l:List Int}(c:m.Ok)(r:m.lim<=m.nx)(q:aN m f a b l)(n d:Nat)(p:20000<=d)(e:f.kind≠1)(g:f.kind≠2)(h:f.kind≠3)(i:f.kind≠4)(j:f.kind≠5)(k:f.kind≠6)(o:f.kind≠7):∃m',l8 KW d (n+6) (.func 47) [.agg f.cells] m=some [⟨fV,m'⟩]∧Ext m m':=by rw [enter (sf:=f47) rfl rfl];exact⟨ext m [j5 f.cells],by simp [f47,o9,w9,j6 c,l5 c,o8 c,o7 c,A8,e,g,h,i,j,k,o],r9 c _⟩
theorem akL {m:Mem}{f:G6}{a b l:List Int}(h:m.Ok)(g:m.lim<=m.nx)(e:aN m f a b l)(n d:Nat)(c:20000<=d)(i:Z9 f.gn)(hb:Z9 f.gd):∃m',l8 KW d (n+6) (.func 47) [.agg f.cells] m=some [⟨.bool (qy f a b l),m'⟩]∧Ext m m':=by unfold qy;by_cases h1:f.kind=1;rw [if_pos h1];exact axw h g e n d c h1;rw [if_neg h1];by_cases h2:f.kind=2;rw [if_pos h2];exact axx h g e n d c i hb h2;rw [if_neg h2];by_cases h3:f.kind=3;rw [if_pos h3];exact axy h g e n d c h3;rw [if_neg h3];by_cases h4:f.kind=4;rw [if_pos h4];exact axz h g e n d c h4;rw [if_neg h4];by_cases h5:f.kind=5;rw [if_pos h5];exact axA h g e n d c h5;rw [if_neg h5];by_cases h6:f.kind=6;rw [if_pos h6];exact axB h g e n d c h6;rw [if_neg h6];by_cases h7:f.kind=7;rw [if_pos h7];exact axC h g e n d c h7;rw [if_neg h7];exact axD h g e n d c h1 h2 h3 h4 h5 h6 h7
def RI (f:G6)(a b l:List Int):Bool:=bO f (Q7 f) a b l (if f.kind=5 then a else []) (if f.kind=5 then b else []) (if f.kind=6 then l else [])
def kC (f:G6):Bool:=(decide (1<=f.room)&&decide (f.room<=6))&&((decide (1<=f.no)&&decide (f.no<=60))&&(decide (0<=f.known)&&decide (f.known<=1099511627776)))
def iA (f:G6)(a b l:List Int):Bool:=kC f&&(qy f a b l&&RI f a b l)
theorem akM {m:Mem}{f:G6}{a b l:List Int}(c:m.Ok)(s:m.lim<=m.nx)(o:aN m f a b l)(n e:Nat)(i:20000<=e)(v:Z9 f.gn)(hb:Z9 f.gd):∃m',l8 KW e (n+7) (.func 14) [.agg f.cells] m=some [⟨.bool (iA f a b l),m'⟩]∧Ext m m':=by
 rw [enter (sf:=f14) rfl rfl];have p:=o.ext (r9 c [j5 f.cells]);obtain⟨d,k,E1⟩:=akL (I5 c [j5 f.cells]) (by simp;omega) p n e i v hb;have j:d.Ok:=E1.ok;have E01:=(r9 c [j5 f.cells]).trans E1;have w:d.lim<=d.nx:=by rw [E01.lim];have:=E01.nx;omega
 have q:d.get m.nx=some (j5 f.cells):=by rw [E1.old _ (by simp),j6 c];rfl
 have x:∀r,(ext d r).get m.nx=some (j5 f.cells):=λr=>by rw [H6 j _ (by have:=E1.nx;simp at this;omega)];exact q
 have g:=o.ext E01;have t:=akC j w g (n+5) e;have B:=[j5 f.cells,j5 (Q7 f).cells,j5 (Q7 f).cells];have h:=g.ext (r9 j [j5 f.cells,j5 (Q7 f).cells,j5 (Q7 f).cells]);have u:=ab5 (I5 j _) h (Wz h) (n+3) e i;have y:=x [j5 f.cells,j5 (Q7 f).cells,j5 (Q7 f).cells];cases h0:(decide (1<=f.room)&&decide (f.room<=6)) with
 | true=>
  cases h1:(decide (1<=f.no)&&decide (f.no<=60)) with
  | true=>
   cases h2:(decide (0<=f.known)&&decide (f.known<=1099511627776)) with
   | true=>
    cases hF:qy f a b l with
    | false=>rw [hF] at k;exact⟨d,by simp [f14,bD c s,A8,bH,Kv,iA,kC,h0,h1,h2,hF,k,q],E01⟩
    | true=>rw [hF] at k;exact⟨ext d ([j5 f.cells,j5 (Q7 f).cells,j5 (Q7 f).cells] ++ [j5 f.cells,j5 (Q7 f).cells,j5 f.cmp,j5 (Q7 f).cmp]),by simp [f14,bD c s,A8,bH,Kv,iA,kC,h0,h1,h2,hF,k,q,t,y,u,o.same,RI],E01.trans (r9 j ([j5 f.cells,j5 (Q7 f).cells,j5 (Q7 f).cells] ++ [j5 f.cells,j5 (Q7 f).cells,j5 f.cmp,j5 (Q7 f).cmp]))⟩
   | false=>exact⟨ext m [j5 f.cells],by simp [f14,o9,w9,j6 c,l5 c,o8 c,o7 c,A8,bH,Kv,iA,kC,h0,h1,h2],r9 c _⟩
  | false=>exact⟨ext m [j5 f.cells],by simp [f14,o9,w9,j6 c,l5 c,o8 c,o7 c,A8,bH,Kv,iA,kC,h0,h1],r9 c _⟩
 | false=>exact⟨ext m [j5 f.cells],by simp [f14,o9,w9,j6 c,l5 c,o8 c,o7 c,A8,bH,Kv,iA,kC,h0],r9 c _⟩
theorem P6 (f:IU)(k:d9)(e:d9×d9)(es:List (d9×d9))(i:Nat):findKey f k (e::es) i=ob (f k e.1) λb=>bi b (some (some (i,e.2))) (findKey f k es (i+1)):=rfl
theorem P9 (f:IU)(k:d9)(i:Nat):findKey f k [] i=some none:=rfl
noncomputable def fieldMap:List (d9×d9):=[(iV 1,.agg [.func (.func 129) [] [],.func (.func 131) [] []]),(iV 2,.agg [.func (.func 132) [] [],.func (.func 133) [] []]),(iV 3,.agg [.func (.func 134) [] [],.func (.func 136) [] []]),(iV 4,.agg [.func (.func 137) [] [],.func (.func 138) [] []]),(iV 5,.agg [.func (.func 139) [] [],.func (.func 141) [] []]),(iV 6,.agg [.func (.func 142) [] [],.func (.func 144) [] []]),(iV 7,.agg [.func (.func 145) [] [],.func (.func 146) [] []])]
theorem dV (f:IU)(n:Nat)(zero:d9)(ok:Bool)(mp k:OF)(ls:List d9)(env:T d9)(m:Mem)(id:Nat)(es:List (d9×d9))(h:mp ls env=.map id)(a:m.get id=some (.map es)):
  kS f n zero ok mp k ls env m=ob (fI f n (k ls env) es) λr=>found ok zero r:=by
 show AR (mp ls env) _ _=_;rw [h];show YJ (m.get id) _=_;rw [a];rfl
theorem ab9 (n c:Nat)(m:Mem)(d:m.Ok)(b:m.lim<=m.nx):l8 KW c (n+1) (.func 78) [] m=some [⟨.map m.nx,ext m [.map fieldMap]⟩]:=by
 rw [enter (sf:=f78) rfl rfl];have a:Nat.blt m.nx m.lim=false:=by have:=Ea b [];rwa [Ap] at this
 simp [f78,bD d b,A8,Ck,a,OC,wz,U2,P6,P9,ah,fieldMap]
theorem Yf (f:G6):I7 (aD f).cells=true:=rfl
def BJ (f:G6)(a b l:List Int):Bool:=bO (Q7 f) f (if f.kind=5 then a else []) (if f.kind=5 then b else []) (if f.kind=6 then l else []) a b l
theorem axE {m:Mem}{f:G6}{a b l:List Int}(e:m.Ok)(y:m.lim<=m.nx)(A:aN m f a b l)(n i:Nat)(x:20000<=i)(z:Z9 f.gn)(hb:Z9 f.gd)(q:f.kind≠1)(r:f.kind≠2)(s:f.kind≠3)(t:f.kind≠4)(u:f.kind≠5)(v:f.kind≠6)(w:f.kind≠7):∃m',l8 KW i (n+11) (.func 36) [.agg f.cells] m=some [⟨fV,m'⟩]∧Ext m m':=by
 rw [enter (sf:=f36) rfl rfl];have h:=ab9 (n+9) i (ext m [j5 f.cells,.void]) (I5 e _) (by simp;omega);have d:∀(j k:OF) g c,j g c=.map (m.nx+2)->k g c=iV f.kind->kS iC 1 (.agg [.nilFunc,.nilFunc]) true j k g c (ext m [j5 f.cells,.void,.map fieldMap])=some (.tuple [.agg [.nilFunc,.nilFunc],fV]):=by intro j k g c o p;rw [dV _ _ _ _ _ _ _ _ _ _ fieldMap o (by rw [l5 e];rfl),p];simp [fieldMap,U2,P6,P9,ah,q,r,s,t,u,v,w];rfl
 exact⟨ext m [j5 f.cells,j5 [.nilFunc,.nilFunc],.map fieldMap],by simp [f36,bD e y,A8,h,d,J2,isVoid,S9],r9 e _⟩
theorem wH {m:Mem}{f:G6}{a b l:List Int}(e:m.Ok)(q:m.lim<=m.nx)(u:aN m f a b l)(n j:Nat)(w:20000<=j){A B:FuncId}{P:Bool}
  (v:(ob (fI iC 1 (iV f.kind) fieldMap) λr=>found true (.agg [.nilFunc,.nilFunc]) r)=some (.tuple [.agg [.func (.func A) [] [],.func (.func B) [] []],tV]))
  (N:∀M:Mem,M.Ok->M.lim<=M.nx->aN M f a b l->∃m1,l8 KW j (n+10) (.func A) [.agg f.cells] M=some [⟨.bool P,m1⟩]∧Ext M m1)
  (O:∀(M:Mem) (p:Nat),M.Ok->M.lim<=p->p<M.nx->aN M f a b l->M.get p=some (j5 (aD f).cells)->∃m',l8 KW j (n+10) (.func B) [.ptr p 0,.agg f.cells] M=some [⟨.tuple [],m'⟩]∧m'.Ok∧m'.lim=M.lim∧M.nx<=m'.nx∧(∀i,i<M.nx->i≠p->m'.get i=M.get i)∧m'.get p=some (j5 (Q7 f).cells)):
  ∃m',l8 KW j (n+11) (.func 36) [.agg f.cells] m=some [⟨.bool (kC f&&(P&&BJ f a b l)),m'⟩]∧Ext m m':=by
 rw [enter (sf:=f36) rfl rfl];have d:=ab9 (n+9) j (ext m [j5 f.cells,.void]) (I5 e _) (by simp;omega);have c:∀(C k:OF) t g,C t g=.map (m.nx+2)->k t g=iV f.kind->kS iC 1 (.agg [.nilFunc,.nilFunc]) true C k t g (ext m [j5 f.cells,.void,.map fieldMap])=some (.tuple [.agg [.func (.func A) [] [],.func (.func B) [] []],tV]):=by intro C k t g I J;rw [dV _ _ _ _ _ _ _ _ _ _ fieldMap I (by rw [l5 e];rfl),J];exact v
 have E0:=r9 e [j5 f.cells,j5 [.func (.func A) [] [],.func (.func B) [] []],.map fieldMap];obtain⟨m1,F,E1⟩:=N (ext m [j5 f.cells,j5 [.func (.func A) [] [],.func (.func B) [] []],.map fieldMap]) (I5 e _) (by simp;omega) (u.ext E0);have h:m1.Ok:=E1.ok;have E01:=E0.trans E1;have X:m.nx+3<=m1.nx:=by have:=E1.nx;simpa using this
 have S:m1.lim<=m1.nx:=by rw [E01.lim];omega
 have D:m1.get m.nx=some (j5 f.cells):=by rw [E1.old _ (by simp),j6 e];rfl
 have H:m1.get (m.nx+1)=some (j5 [.func (.func A) [] [],.func (.func B) [] []]):=by rw [E1.old _ (by simp),l5 e];rfl
 have s:(ext m1 [j5 (aD f).cells]).get m.nx=some (j5 f.cells):=by rw [H6 h _ (by omega)];exact D
 have E:(ext m1 [j5 (aD f).cells]).get (m.nx+1)=some (j5 [.func (.func A) [] [],.func (.func B) [] []]):=by rw [H6 h _ (by omega)];exact H
 obtain⟨m2,K,y,z,T,G,V⟩:=O (ext m1 [j5 (aD f).cells]) m1.nx (I5 h _) (by simp;omega) (by simp) ((u.ext E01).ext (r9 h _)) (by rw [j6 h];rfl);have U:m1.nx+1<=m2.nx:=by simpa using T
 have E02:Ext m m2:=⟨y,by omega,by rw [z,Ap];exact E01.lim,λi Q=>by rw [G i (by simp;omega) (by omega),H6 h _ (by omega)];exact E01.old i Q⟩;have W:m2.get m.nx=some (j5 f.cells):=by rw [G _ (by simp;omega) (by omega)];exact s
 have o:=u.ext E02;have L:=akB y (by rw [E02.lim];omega) (Wz o) o (n+7) j w;have R:[d9.int .i64 f.room,iV f.no,iV f.known,iV f.kind,iZ,iZ,iZ,iZ,iZ,iZ,iZ,iZ,iZ,iZ,iZ,iZ,iZ,iZ,iZ,iZ,iZ,iZ,nS,nS,iZ,iZ,iZ,iZ,iZ,nS,iZ,iZ]=(aD f).cells:=rfl;have x:=Yf f;by_cases h0:(decide (1<=f.room)&&decide (f.room<=6))=true;by_cases h1:(decide (1<=f.no)&&decide (f.no<=60))=true;by_cases h2:(decide (0<=f.known)&&decide (f.known<=1099511627776))=true;cases P with
 | false=>exact⟨m1,by simp [f36,bD e q,A8,d,c,J2,isVoid,S9,dU,Ku,kC,h0,h1,h2,F,D],E01⟩
 | true=>exact⟨_,by simp [f36,bD e q,A8,d,c,J2,isVoid,S9,dU,Ku,kC,ku h S,h0,h1,h2,F,D,H,R,x,s,E,K,W,V,L,BJ],E02.trans (r9 y ([j5 (Q7 f).cells,j5 f.cells,j5 (Q7 f).cells,(Q7 f).nm,j5 f.cells,f.nm]++(bif dQ (Q7 f) f then [j5 (Q7 f).cmp,j5 f.cmp] else [])))⟩
 exact⟨_,by simp [f36,bD e q,A8,d,c,J2,isVoid,S9,dU,Ku,kC,h0,h1,h2],E0⟩;exact⟨_,by simp [f36,bD e q,A8,d,c,J2,isVoid,S9,dU,Ku,kC,h0,h1],E0⟩;exact⟨_,by simp [f36,bD e q,A8,d,c,J2,isVoid,S9,dU,Ku,kC,h0],E0⟩
theorem axF {m:Mem}{f:G6}{a b l:List Int}(s:m.Ok)(r:m.lim<=m.nx)(q:aN m f a b l)(n c:Nat)(h:20000<=c)(t:Z9 f.gn)(hb:Z9 f.gd)(j:f.kind=1):∃m',l8 KW c (n+11) (.func 36) [.agg f.cells] m=some [⟨.bool (kC f&&(Nj f&&BJ f a b l)),m'⟩]∧Ext m m':=
 wH s r q n c h (by rw [j];rfl) (λM d e i=>aea (n+8) c f M d e) λM p d e i k o=>by
  have:=aem (g:=aD f) d e i k o (n+9) c
  rwa [show ({aD f with flo:=f.flo,fhi:=f.fhi}:G6)=Q7 f by simp [Q7,j]] at this
theorem axG {m:Mem}{f:G6}{a b l:List Int}(t:m.Ok)(s:m.lim<=m.nx)(r:aN m f a b l)(n c:Nat)(d:20000<=c)(q:Z9 f.gn)(hb:Z9 f.gd)(j:f.kind=2):∃m',l8 KW c (n+11) (.func 36) [.agg f.cells] m=some [⟨.bool (kC f&&(U9 f&&BJ f a b l)),m'⟩]∧Ext m m':=
 wH t s r n c d (by rw [j];rfl) (λM e h i=>aeL q hb e h (n+1) c d) λM p e h i k o=>by
  have:=aen (g:=aD f) e h i k o (n+9) c
  rwa [show ({aD f with gid:=f.gid,made:=f.made,nom:=f.nom,tlo:=f.tlo,thi:=f.thi,gn:=f.gn,gd:=f.gd,wear:=f.wear}:G6)=Q7 f by simp [Q7,j]] at this
theorem axH {m:Mem}{f:G6}{a b l:List Int}(s:m.Ok)(r:m.lim<=m.nx)(q:aN m f a b l)(n c:Nat)(h:20000<=c)(t:Z9 f.gn)(hb:Z9 f.gd)(j:f.kind=3):∃m',l8 KW c (n+11) (.func 36) [.agg f.cells] m=some [⟨.bool (kC f&&(RB f&&BJ f a b l)),m'⟩]∧Ext m m':=
 wH s r q n c h (by rw [j];rfl) (λM d e i=>aeb (n+7) c f M d e) λM p d e i k o=>by
  have:=aeo (g:=aD f) d e i k o (n+9) c
  rwa [show ({aD f with ug:=f.ug,ud:=f.ud}:G6)=Q7 f by simp [Q7,j]] at this
theorem axI {m:Mem}{f:G6}{a b l:List Int}(s:m.Ok)(r:m.lim<=m.nx)(q:aN m f a b l)(n c:Nat)(h:20000<=c)(t:Z9 f.gn)(hb:Z9 f.gd)(j:f.kind=4):∃m',l8 KW c (n+11) (.func 36) [.agg f.cells] m=some [⟨.bool (kC f&&(tJ f&&BJ f a b l)),m'⟩]∧Ext m m':=
 wH s r q n c h (by rw [j];rfl) (λM d e i=>aeh (n+7) c f M d e) λM p d e i k o=>by
  have:=aep (g:=aD f) d e i k o (n+9) c
  rwa [show ({aD f with lg:=f.lg,ll:=f.ll,lh:=f.lh,lw:=f.lw}:G6)=Q7 f by simp [Q7,j]] at this
theorem axJ {m:Mem}{f:G6}{a b l:List Int}(s:m.Ok)(r:m.lim<=m.nx)(q:aN m f a b l)(n c:Nat)(d:20000<=c)(t:Z9 f.gn)(hb:Z9 f.gd)(j:f.kind=5):∃m',l8 KW c (n+11) (.func 36) [.agg f.cells] m=some [⟨.bool (kC f&&(eG f a b&&BJ f a b l)),m'⟩]∧Ext m m':=
 wH s r q n c d (by rw [j];rfl) (λM e h i=>aej e h i n c d) λM p e h i k o=>by
  have:=aer (g:=aD f) e h i k o (n+9) c
  rwa [show ({aD f with cid:=f.cid,cday:=f.cday,A:=f.A,B:=f.B,diff:=f.diff,err:=f.err,hlo:=f.hlo,hhi:=f.hhi}:G6)=Q7 f by simp [Q7,j]] at this
theorem axK {m:Mem}{f:G6}{a b l:List Int}(s:m.Ok)(r:m.lim<=m.nx)(q:aN m f a b l)(n c:Nat)(d:20000<=c)(t:Z9 f.gn)(hb:Z9 f.gd)(j:f.kind=6):∃m',l8 KW c (n+11) (.func 36) [.agg f.cells] m=some [⟨.bool (kC f&&(LM f l&&BJ f a b l)),m'⟩]∧Ext m m':=
 wH s r q n c d (by rw [j];rfl) (λM e h i=>aek e h i (n+6) c d) λM p e h i k o=>by
  have:=aes (g:=aD f) e h i k o (n+9) c
  rwa [show ({aD f with mday:=f.mday,L:=f.L}:G6)=Q7 f by simp [Q7,j]] at this
theorem axL {m:Mem}{f:G6}{a b l:List Int}(s:m.Ok)(r:m.lim<=m.nx)(q:aN m f a b l)(n c:Nat)(i:20000<=c)(t:Z9 f.gn)(hb:Z9 f.gd)(j:f.kind=7):∃m',l8 KW c (n+11) (.func 36) [.agg f.cells] m=some [⟨.bool (kC f&&(UA f&&BJ f a b l)),m'⟩]∧Ext m m':=
 wH s r q n c i (by rw [j];rfl) (λM d e h=>ael d e h (n+8) c) λM p d e h k o=>by
  have:=aeu (g:=aD f) d e h k o (n+9) c
  rwa [show ({aD f with tr:=f.tr,tn:=f.tn}:G6)=Q7 f by simp [Q7,j]] at this
theorem U8 {α:Type} [DecidableEq α](x y:α):decide (x=y)=decide (y=x):=by rw [acB];simp [eq_comm]
theorem UC (f g:G6):dQ f g=dQ g f:=by simp only [dQ,U8 f.room g.room,U8 f.no g.no,U8 f.known g.known,U8 f.kind g.kind,U8 f.flo g.flo,U8 f.fhi g.fhi,U8 f.gid g.gid,U8 f.made g.made,U8 f.nom g.nom,U8 f.tlo g.tlo,U8 f.thi g.thi,U8 f.gn g.gn,U8 f.gd g.gd,U8 f.wear g.wear,U8 f.ug g.ug,U8 f.ud g.ud,U8 f.lg g.lg,U8 f.ll g.ll,U8 f.lh g.lh,U8 f.lw g.lw,U8 f.tr g.tr,U8 f.tn g.tn]
theorem UD (f g:G6)(a b l c b' d:List Int):bO f g a b l c b' d=bO g f c b' d a b l:=by simp only [bO,UC f g,nQ,U8 f.cid g.cid,U8 f.cday g.cday,U8 f.diff g.diff,U8 f.err g.err,U8 f.hlo g.hlo,U8 f.hhi g.hhi,U8 f.mday g.mday,U8 a c,U8 b b',U8 l d]
theorem abb (f:G6)(a b l:List Int):BJ f a b l=RI f a b l:=UD ..
theorem akN {m:Mem}{f:G6}{a b l:List Int}(i:m.Ok)(h:m.lim<=m.nx)(g:aN m f a b l)(n d:Nat)(c:20000<=d)(e:Z9 f.gn)(hb:Z9 f.gd):∃m',l8 KW d (n+11) (.func 36) [.agg f.cells] m=some [⟨.bool (iA f a b l),m'⟩]∧Ext m m':=by unfold iA qy;rw [← abb];by_cases h1:f.kind=1;rw [if_pos h1];exact axF i h g n d c e hb h1;by_cases h2:f.kind=2;rw [if_neg h1];rw [if_pos h2];exact axG i h g n d c e hb h2;by_cases h3:f.kind=3;rw [if_neg h1];rw [if_neg h2];rw [if_pos h3];exact axH i h g n d c e hb h3;by_cases h4:f.kind=4;rw [if_neg h1];rw [if_neg h2];rw [if_neg h3];rw [if_pos h4];exact axI i h g n d c e hb h4;by_cases h5:f.kind=5;rw [if_neg h1];rw [if_neg h2];rw [if_neg h3];rw [if_neg h4];rw [if_pos h5];exact axJ i h g n d c e hb h5;by_cases h6:f.kind=6;rw [if_neg h1];rw [if_neg h2];rw [if_neg h3];rw [if_neg h4];rw [if_neg h5];rw [if_pos h6];exact axK i h g n d c e hb h6;by_cases h7:f.kind=7;rw [if_neg h1];rw [if_neg h2];rw [if_neg h3];rw [if_neg h4];rw [if_neg h5];rw [if_neg h6];rw [if_pos h7];exact axL i h g n d c e hb h7;rw [if_neg h1];rw [if_neg h2];rw [if_neg h3];rw [if_neg h4];rw [if_neg h5];rw [if_neg h6];rw [if_neg h7];rw [aCU,Bool.and_false];exact axE i h g n d c e hb h1 h2 h3 h4 h5 h6 h7
structure FR where
 f:G6
 a:List Int
 b:List Int
 l:List Int
structure Z4 (m:Mem)(r:FR):Prop where
 a:Y9 m r.f.A r.a
 b:Y9 m r.f.B r.b
 l:Y9 m r.f.L r.l
 ga:Z9 r.f.gn
 gb:Z9 r.f.gd
 nb:Z9 r.f.no
theorem Z4.ext {m c:Mem}(h:Ext m c){r:FR}(k:Z4 m r):Z4 c r:=⟨k.a.ext h,k.b.ext h,k.l.ext h,k.ga,k.gb,k.nb⟩
def FR.small (r:FR):Bool:=decide (r.a.length<=9)&&(decide (r.b.length<=9)&&decide (r.l.length<=9))
theorem Z4.at {m:Mem}{r:FR}(k:Z4 m r)(h:r.small=true):aN m r.f r.a r.b r.l:=by simp only [FR.small,rW,decide_eq_true_eq] at h;exact⟨k.a,k.b,k.l,by omega,by omega,by omega⟩
def dn (m:Mem)(v:d9)(fs:List FR):Prop:=
 (v=nS∧fs=[])∨∃id,((∃c,v=.slice id 0 fs.length c)∨v=.sliceU id 0 fs.length 32)∧id<m.nx∧(fs=[]∨∃c rows,m.get id=some (.cells 32 c rows)∧fs.length<=c∧∀i (h:i<fs.length),rows.get i=some fs[i].f.cells)
theorem dn.ext {m b:Mem}(h:Ext m b){v:d9}{fs:List FR}(a:dn m v fs):dn b v fs:=by rcases a with a | ⟨id,h1,h2,h3⟩;exact .inl a;refine .inr ⟨id,h1,aP h2 h.nx,?_⟩;rcases h3 with h3 | ⟨c,rows,h4,h5,h6⟩;exact .inl h3;exact .inr ⟨c,rows,(h.old id h2).trans h4,h5,h6⟩
theorem dn.len {m:Mem}{v:d9}{a:List FR}(h:dn m v a):xE v (some (d9.int .i64 0)) (λ_ _ n _=>some (iV n)) (λ_ _ n _=>some (iV n))=some (iV a.length):=by rcases h with⟨rfl,rfl⟩ | ⟨id,⟨c,rfl⟩ | rfl,_⟩<;>rfl
theorem dn.cells {m:Mem}{v:d9}{a:List FR}(h:dn m v a):v.cells=[v]:=by rcases h with⟨rfl,rfl⟩ | ⟨id,⟨c,rfl⟩ | rfl,_⟩<;>rfl
theorem dn.aY {m:Mem}{v:d9}{b:List FR}(h:dn m v b){a:Type}(p:d9->a)(q:a):jf v p q=q:=by rcases h with⟨rfl,rfl⟩ | ⟨id,⟨c,rfl⟩ | rfl,_⟩<;>rfl
theorem dn.at {m:Mem}{v:d9}{b:List FR}(h:dn m v b){i:Nat}(hi:i<b.length):
  ∃id,xE v none (λid off len _=>idx len (iV i) λk=>some (d9.ptr id (off+k*32))) (λid off len _=>idx len (iV i) λk=>some (d9.ptr id (off+k*32)))=some (.ptr id (i*32))∧id<m.nx∧
   YR (m.get id) (i*32) 32=some (.agg b[i].f.cells)∧ld1 (m.get id) (i*32)=some (iV b[i].f.room)∧ld1 (m.get id) (i*32+1)=some (iV b[i].f.no)∧ld1 (m.get id) (i*32+3)=some (iV b[i].f.kind):=by
 rcases h with⟨_,rfl⟩ | ⟨id,hv,h2,h3⟩;simp at hi;rcases h3 with rfl | ⟨c,rows,h4,h5,h6⟩;simp at hi;have e:=h6 i hi;have d:i<c:=by omega
 refine⟨id,?_,h2,?_,?_,?_,?_⟩;rcases hv with⟨c',rfl⟩ | rfl;simp only [vw];rw [au _ _ _ hi];simp;simp only [rM];rw [au _ _ _ hi];simp;rw [h4];have a:=wo (rs:=32) (j:=0) (k:=32) (by omega) d e (G6.len _) (by omega);rw [acy] at a;unfold YR;rw [dG,a,I9,abR,aaF (by rw [G6.len];omega)];have a:=gM (rs:=32) (j:=0) (by omega) d e;rw [acy] at a;rw [h4,ld1,dG,a];exact G6.c0 _;have a:=gM (rs:=32) (j:=1) (by omega) d e
 skip
 rw [h4,ld1,dG,a];exact G6.c1 _;have a:=gM (rs:=32) (j:=3) (by omega) d e
 skip
 rw [h4,ld1,dG,a];exact G6.c3 _
abbrev By:=List UInt8
def RJ (b:UInt8):List By->List By
 | []=>[[b]]
 | w::ws=>(b::w)::ws
def splitB (c:UInt8):By->List By
 | []=>[[]]
 | b::l=>if b=c then []::splitB c l else RJ b (splitB c l)
theorem mK (c:UInt8):∀l,∃w ws,splitB c l=w::ws
 | []=>⟨[],[],rfl⟩
 | b::l=>by obtain⟨w,ws,h⟩:=mK c l;by_cases hb:b=c;exact⟨[],w::ws,by rw [splitB,if_pos hb,h]⟩;exact⟨b::w,ws,by rw [splitB,if_neg hb,h];rfl⟩
theorem CF (c:UInt8):∀(w l h:By) (t:List By),(∀b∈w,b≠c)->splitB c l=h::t->splitB c (w++l)=(w++h)::t
 | [],l,h,t,_,e=>e
 | b::w,l,h,t,hw,e=>by show splitB c (b::(w++l))=_;rw [splitB,if_neg (hw b (by simp)),CF c w l h t (λx hx=>hw x (by simp [hx])) e];rfl
theorem pU (c:UInt8):∀(ws:List By) (w:By),(∀b∈w,b≠c)->(∀x∈ws,∀b∈x,b≠c)->splitB c (w++(ws.map (c :: ·)).flatten)=w::ws
 | [],w,hw,_=>by have:=CF c w [] [] [] hw rfl;simpa using this
 | x::ws,w,hw,hs=>by
  have ih:=pU c ws x (hs x (by simp)) (λy hy=>hs y (by simp [hy]));have e:splitB c (c::(x++(ws.map (c :: ·)).flatten))=[]::x::ws:=by rw [splitB,if_pos rfl,ih]
  have:=CF c w _ _ _ hw e;simpa using this
def Tok (w:By):Prop:=w≠[]∧∀b∈w,33<=b.toNat∧b.toNat<127
theorem WC {b:UInt8}(h:33<=b.toNat∧b.toNat<127):Lib.isSp b=false:=by
 have a:∀c:UInt8,c.toNat<33->(b==c)=false:=λc d=>by
  cases e:b==c with
  | false=>rfl
  | true=>have e:=eq_of_beq e;rw [e] at h;omega
 unfold Lib.isSp;rw [a 9 (by decide),a 10 (by decide),a 11 (by decide),a 12 (by decide),a 13 (by decide),a 32 (by decide)];rfl
theorem uG:∀(w cur l:By),(∀b∈w,Lib.isSp b=false)->Lib.fieldsGo cur (w++l)=Lib.fieldsGo (cur++w) l
 | [],cur,l,_=>by simp
 | b::w,cur,l,h=>by show Lib.fieldsGo cur (b::(w++l))=_;rw [Lib.fieldsGo_more _ _ _ (h b (by simp)),uG w _ l (λx hx=>h x (by simp [hx]))];simp
theorem zV:∀(ws:List By) (w:By) (s:UInt8) (rest:By),Tok w->(∀x∈ws,Tok x)->Lib.isSp s=true->Lib.fieldsGo [] (w++(ws.map (32 :: ·)).flatten++s::rest)=w::ws++Lib.fieldsGo [] rest
 | [],w,s,rest,hw,_,hs=>by
  have e:w++(([]:List By).map (32 :: ·)).flatten++s::rest=w++(s::rest):=by simp
  rw [e,uG w _ _ (λb hb=>WC (hw.2 b hb)),aaE,Lib.fieldsGo_end _ _ _ hs hw.1];rfl
 | x::ws,w,s,rest,hw,hx,hs=>by
  have e:w++((x::ws).map (32 :: ·)).flatten++s::rest=w++(32::(x++(ws.map (32 :: ·)).flatten++s::rest)):=by simp
  rw [e,uG w _ _ (λb hb=>WC (hw.2 b hb)),aaE,Lib.fieldsGo_end _ _ _ (by decide) hw.1,
   zV ws x s rest (hx x (by simp)) (λy hy=>hx y (by simp [hy])) hs];rfl
theorem abd (d:Nat)(h:d<10):(UInt8.ofNat (48+d)).toNat=48+d:=by show (48+d)%256=_;omega
theorem oZ (u:Nat):∀b∈Lib.decDigits u,48<=b.toNat∧b.toNat<=57:=by
 induction u using Nat.strongRecOn with
 | _ u ih=>intro b a;rw [Lib.decDigits] at a;split at a;rename_i h;simp only [nA] at a;subst a;rw [abd _ h];omega;rename_i h;rcases O5.1 a with a | a;exact ih (u / 10) (by omega) b a;simp only [nA] at a;subst a;rw [abd _ (adK _ (by omega))];omega
theorem qI (u:Nat):Lib.decDigits u≠[]:=by have a:=Lib.decDigits_length u;have b:=Lib.nDigits_pos u;intro h;rw [h] at a;simp at a;omega
theorem Kz (n:Int):∀b∈Lib.itoa n,45<=b.toNat∧b.toNat<=57:=by intro b a;unfold Lib.itoa at a;split at a;rcases O9.1 a with rfl | a;decide;have:=oZ _ b a;omega;have:=oZ _ b a;omega
theorem WE (n:Int):Lib.itoa n≠[]:=by unfold Lib.itoa;split;simp;exact qI _
theorem abe (n:Int):Tok (Lib.itoa n):=⟨WE n,λb a=>by have:=Kz n b a;omega⟩
theorem KA:∀(l:By) (acc:Nat) (c:UInt8) (u:Nat),Lib.parseUint10 acc l=.ok u->Lib.parseUint10 acc (l ++ [c])=Lib.parseUint10 u [c]
 | [],acc,c,u,h=>by simp only [Lib.parseUint10] at h;injection h with h;subst h;rfl
 | b::l,acc,c,u,h=>by show Lib.parseUint10 acc (b::(l ++ [c]))=_;rw [Lib.parseUint10] at h ⊢;split at h;rename_i h1;split at h;cases h;rename_i h2;split at h;cases h;rename_i h3;rw [if_pos h1,if_neg h2,if_neg h3,KA l _ c u h];cases h
theorem KC (u d:Nat)(a:d<10)(h:u*10+d<18446744073709551616):Lib.parseUint10 u [UInt8.ofNat (48+d)]=.ok (u*10+d):=by rw [Lib.parseUint10,abd d a,if_pos (by omega),if_neg (by omega),if_neg (by omega),Lib.parseUint10];congr 1;omega
theorem KD (u:Nat):u<18446744073709551616->Lib.parseUint10 0 (Lib.decDigits u)=.ok u:=by
 induction u using Nat.strongRecOn with
 | _ u ih=>intro a;rw [Lib.decDigits];split;rename_i h;rw [KC 0 u h (by omega)];congr 1;omega;rename_i h;rw [KA _ _ _ _ (ih (u / 10) (by omega) (by omega)),KC _ _ (adK _ (by omega)) (by omega)];congr 1;omega
theorem Nl {n:Int}(h0:-9223372036854775808<=n)(d:n<9223372036854775808):Lib.atoiAll (Lib.itoa n)=.ok n:=by
 unfold Lib.itoa;split;rename_i h;have e:Lib.parseMag (Lib.decDigits n.natAbs)=.ok n.natAbs:=by rw [Lib.parseMag,if_neg (qI _),KD _ (by omega)]
 have a:(45:UInt8).toNat=45:=rfl;simp only [Lib.atoiAll,a,or_true,if_true,e];rw [if_neg (by simp),if_neg (by simp;omega)];simp;omega;rename_i h;have e:Lib.parseMag (Lib.decDigits n.toNat)=.ok n.toNat:=by rw [Lib.parseMag,if_neg (qI _),KD _ (by omega)]
 cases hd:Lib.decDigits n.toNat with
 | nil=>exact absurd hd (qI _)
 | cons c r=>
  have f:=oZ n.toNat c (by rw [hd];simp);rw [hd] at e;have b:¬ (c.toNat=43∨c.toNat=45):=by omega
  have a:¬ c.toNat=45:=by omega
  simp only [Lib.atoiAll,if_neg b,e];rw [if_neg (by omega),if_neg (by omega),if_neg a];congr 1;omega
def kD (acc:Nat):By->Nat
 | []=>acc
 | b::l=>kD (if 48<=b.toNat∧b.toNat<=57 then 10*acc+(b.toNat-48) else acc) l
def kE (s:By):Int:=if s.head?=some 45 then -(kD 0 (s.take 18):Nat) else (kD 0 (s.take 18):Nat)
theorem KE:∀(l m:By) (acc:Nat),kD acc (l++m)=kD (kD acc l) m
 | [],m,acc=>rfl
 | b::l,m,acc=>by show kD acc (b::(l++m))=_;rw [kD,kD,KE l m]
theorem RL (u:Nat):kD 0 (Lib.decDigits u)=u:=by
 induction u using Nat.strongRecOn with
 | _ u ih=>rw [Lib.decDigits];split;rename_i h;rw [kD,kD,abd _ h,if_pos (by omega)];omega;rename_i h;have a:=adK u (show 0<10 by omega);rw [KE,ih (u / 10) (by omega),kD,kD,abd _ a,if_pos (by omega)];omega
theorem Iq:∀(l:By) (acc:Nat),kD acc l<(acc+1)*10^l.length
 | [],acc=>by simp [kD]
 | b::l,acc=>by rw [kD];have h1:=Iq l (if 48<=b.toNat∧b.toNat<=57 then 10*acc+(b.toNat-48) else acc);refine aP h1 ?_;rw [acA,agS,adL (10^l.length) 10,← Nat.mul_assoc];refine U0 _ ?_;split<;>omega
theorem mh:∀(k u:Nat),u<10^(k+1)->Lib.nDigits u<=k+1
 | 0,u,h=>by rw [Lib.nDigits_small (by simpa using h)];omega
 | k+1,u,h=>by by_cases hu:u<10;rw [Lib.nDigits_small hu];omega;rw [agS] at h;have:=mh k (u / 10) (by omega);rw [Lib.nDigits_big hu];omega
theorem Nn {n:Int}(h0:-100000000000000000<n)(d:n<100000000000000000):kE (Lib.itoa n)=n:=by
 have a:(10:Nat)^17=100000000000000000:=by decide
 unfold Lib.itoa;split;rename_i h;have b:(Lib.decDigits n.natAbs).length<=17:=by rw [Lib.decDigits_length];exact mh 16 _ (by rw [a];omega)
 unfold kE;rw [if_pos (show (45::Lib.decDigits n.natAbs).head?=some 45 from rfl),aaF (by simp;omega),kD];have:¬ (48<=(45:UInt8).toNat∧(45:UInt8).toNat<=57):=by decide
 rw [if_neg this,RL];omega;rename_i h;have b:(Lib.decDigits n.toNat).length<=17:=by rw [Lib.decDigits_length];exact mh 16 _ (by rw [a];omega)
 unfold kE;rw [if_neg,aaF (by omega),RL];omega;cases hd:Lib.decDigits n.toNat with
 | nil=>simp
 | cons c r=>have e:=oZ n.toNat c (by rw [hd];simp);simp;rintro rfl;have:(45:UInt8).toNat=45:=rfl;omega
theorem abf (s:By):-9223372036854775808<=kE s∧kE s<9223372036854775808:=by
 have h:=Iq (s.take 18) 0;have a:(s.take 18).length<=18:=by rw [adX];omega
 have b:=ajJ (n:=10) (by decide) a;have e:(10:Nat)^18=1000000000000000000:=by decide
 unfold kE;split<;>omega
def K4:By:=[102,97,99,116]
def rR:By:=[102,105,108,109]
def mo:By:=[103,97,117,103,101]
def CG:By:=[117,115,101]
def rT:By:=[108,111,97,110]
def U4:By:=[99,111,109,112,97,114,101]
def vG:By:=[109,105,120]
def dO:By:=[119,105,116,104,100,114,97,119]
def kA:By:=[97]
def kB:By:=[98]
def D7 (w:By)(l:List Int):By:=w++(l.map λn=>32::Lib.itoa n).flatten
theorem Gg (w:By):D7 w []=w:=by simp [D7]
theorem UE (w:By)(l:List Int)(n:Int):D7 w (l ++ [n])=D7 w l++(32::Lib.itoa n):=by simp [D7]
theorem UF (w:By)(n:Int)(l:List Int):D7 w (n::l)=D7 (w++(32::Lib.itoa n)) l:=by simp [D7]
def G9 (r:FR):List Int:=[r.f.room,r.f.no,r.f.known,r.f.kind]
def T9 (r:FR):By:=
 if r.f.kind=1 then D7 rR [r.f.flo,r.f.fhi]
 else if r.f.kind=2 then D7 mo [r.f.gid,r.f.made,r.f.nom,r.f.tlo,r.f.thi,r.f.gn,r.f.gd,r.f.wear]
 else if r.f.kind=3 then D7 CG [r.f.ug,r.f.ud]
 else if r.f.kind=4 then D7 rT [r.f.lg,r.f.ll,r.f.lh,r.f.lw]
 else if r.f.kind=5 then D7 U4 [r.f.cday,r.f.diff,r.f.err,r.f.hlo,r.f.hhi]++D7 (32::kA) r.a++D7 (32::kB) r.b
 else if r.f.kind=6 then D7 vG [r.f.mday]++D7 [] r.l
 else if r.f.kind=7 then D7 dO [r.f.tr,r.f.tn]
 else []
def D8 (r:FR):By:=D7 K4 (G9 r) ++ [10]++T9 r ++ [10]
def bf (l:List Int):List By:=l.map Lib.itoa
def kU (r:FR):By×List By:=
 if r.f.kind=1 then (rR,bf [r.f.flo,r.f.fhi])
 else if r.f.kind=2 then (mo,bf [r.f.gid,r.f.made,r.f.nom,r.f.tlo,r.f.thi,r.f.gn,r.f.gd,r.f.wear])
 else if r.f.kind=3 then (CG,bf [r.f.ug,r.f.ud])
 else if r.f.kind=4 then (rT,bf [r.f.lg,r.f.ll,r.f.lh,r.f.lw])
 else if r.f.kind=5 then (U4,bf [r.f.cday,r.f.diff,r.f.err,r.f.hlo,r.f.hhi]++kA::(bf r.a++kB::bf r.b))
 else if r.f.kind=6 then (vG,bf (r.f.mday::r.l))
 else if r.f.kind=7 then (dO,bf [r.f.tr,r.f.tn])
 else ([],[])
theorem iB (w:By)(l:List Int):D7 w l=w++((bf l).map (32 :: ·)).flatten:=by simp only [D7,bf,aCN];rfl
theorem wI (r:FR):T9 r=(kU r).1++((kU r).2.map (32 :: ·)).flatten:=by unfold T9 kU;by_cases h1:r.f.kind=1;simp only [if_pos h1,iB];by_cases h2:r.f.kind=2;simp only [if_neg h1,if_pos h2,iB];by_cases h3:r.f.kind=3;simp only [if_neg h1,if_neg h2,if_pos h3,iB];by_cases h4:r.f.kind=4;simp only [if_neg h1,if_neg h2,if_neg h3,if_pos h4,iB];by_cases h5:r.f.kind=5;simp only [if_neg h1,if_neg h2,if_neg h3,if_neg h4,if_pos h5,iB];simp;by_cases h6:r.f.kind=6;simp only [if_neg h1,if_neg h2,if_neg h3,if_neg h4,if_neg h5,if_pos h6,iB];simp [bf];by_cases h7:r.f.kind=7;simp only [if_neg h1,if_neg h2,if_neg h3,if_neg h4,if_neg h5,if_neg h6,if_pos h7,iB];simp only [if_neg h1,if_neg h2,if_neg h3,if_neg h4,if_neg h5,if_neg h6,if_neg h7];rfl
theorem eB (l:List Int):∀x∈bf l,Tok x:=λx a=>by obtain⟨n,_,rfl⟩:=acE.1 a;exact abe n
theorem nE {w:By}(h:(!w.isEmpty&&w.all λb=>decide (33<=b.toNat)&&decide (b.toNat<127))=true):Tok w:=by simp only [rW,acI,decide_eq_true_eq] at h;exact⟨by rintro rfl;simp at h,h.2⟩
theorem Au:Tok K4:=nE (by decide)
theorem akO:Tok kA:=nE (by decide)
theorem akP:Tok kB:=nE (by decide)
def kindOk (r:FR):Prop:=1<=r.f.kind∧r.f.kind<=7
theorem Av {r:FR}(b:kindOk r):Tok (kU r).1∧∀x∈(kU r).2,Tok x:=by unfold kU;obtain⟨c,d⟩:=b;by_cases h1:r.f.kind=1;simp only [if_pos h1];exact⟨nE (by decide),eB _⟩;by_cases h2:r.f.kind=2;simp only [if_neg h1,if_pos h2];exact⟨nE (by decide),eB _⟩;by_cases h3:r.f.kind=3;simp only [if_neg h1,if_neg h2,if_pos h3];exact⟨nE (by decide),eB _⟩;by_cases h4:r.f.kind=4;simp only [if_neg h1,if_neg h2,if_neg h3,if_pos h4];exact⟨nE (by decide),eB _⟩;by_cases h5:r.f.kind=5;simp only [if_neg h1,if_neg h2,if_neg h3,if_neg h4,if_pos h5];refine⟨nE (by decide),λx a=>?_⟩;rcases O5.1 a with a | a;exact eB _ x a;rcases O9.1 a with rfl | a;exact akO;rcases O5.1 a with a | a;exact eB _ x a;rcases O9.1 a with rfl | a;exact akP;exact eB _ x a;by_cases h6:r.f.kind=6;simp only [if_neg h1,if_neg h2,if_neg h3,if_neg h4,if_neg h5,if_pos h6];exact⟨nE (by decide),eB _⟩;by_cases h7:r.f.kind=7;simp only [if_neg h1,if_neg h2,if_neg h3,if_neg h4,if_neg h5,if_neg h6,if_pos h7];exact⟨nE (by decide),eB _⟩;omega
def WG (r:FR):List By:=K4::bf (G9 r)++(kU r).1::(kU r).2
theorem RN {r:FR}(c:kindOk r):Lib.fields (D8 r)=WG r:=by
 obtain⟨d,f⟩:=Av c;have a:=zV (bf (G9 r)) K4 10 ((kU r).1++((kU r).2.map (32 :: ·)).flatten++10 :: []) Au (eB _) (by decide);have b:=zV (kU r).2 (kU r).1 10 [] d f (by decide);have e:D8 r=K4++((bf (G9 r)).map (32 :: ·)).flatten++10::((kU r).1++((kU r).2.map (32 :: ·)).flatten++10 :: []):=by rw [D8,wI,iB];simp
 rw [Lib.fields,e,a,b];simp [WG,Lib.fieldsGo]
theorem abg {ws:List By}(h:∀x∈ws,Tok x):∀b∈(ws.map (32 :: ·)).flatten,b.toNat<128∧b≠10:=λb a=>by obtain⟨l,d,c⟩:=List.mem_flatten.1 a;obtain⟨w,e,rfl⟩:=acE.1 d;rcases O9.1 c with rfl | a;decide;have:=(h w e).2 b a;exact⟨by omega,by rintro rfl;exact absurd this.1 (by decide)⟩
theorem CJ {w:By}(h:Tok w){c:UInt8}(d:c.toNat<33):∀b∈w,b≠c:=λb a e=>by have:=(h.2 b a).1;rw [e] at this;omega
theorem Ir {w:By}{ws:List By}(c:Tok w)(h:∀x∈ws,Tok x):∀b∈w++(ws.map (32 :: ·)).flatten,b.toNat<128∧b≠10:=λb a=>by rcases O5.1 a with a | a;exact⟨by have:=c.2 b a;omega,CJ c (by decide) b a⟩;exact abg h b a
theorem Gh (r:FR):D7 K4 (G9 r)=K4++((bf (G9 r)).map (32 :: ·)).flatten:=iB _ _
theorem UG {r:FR}(d:kindOk r):∀b∈D8 r,b.toNat<128:=λb a=>by
 obtain⟨e,f⟩:=Av d;rw [D8,wI,Gh] at a;have c:(10:UInt8).toNat<128:=by decide
 simp only [O5,nA] at a;rcases a with ((a | rfl) | a) | rfl;exact (Ir Au (eB _) b (O5.2 a)).1;exact c;exact (Ir e f b (O5.2 a)).1;exact c
theorem KF {r:FR}(d:kindOk r):splitB 10 (D8 r)=[D7 K4 (G9 r),T9 r,[]]:=by
 obtain⟨e,f⟩:=Av d;have:=pU 10 [T9 r,[]] (D7 K4 (G9 r)) (λb a=>by
  rw [Gh] at a;exact (Ir Au (eB _) b a).2) (λx c b a=>by
  rcases O9.1 c with rfl | c;rw [wI] at a;exact (Ir e f b a).2;simp at c;subst c;simp at a)
 rw [← this];congr 1;simp [D8]
theorem UH (r:FR):splitB 32 (D7 K4 (G9 r))=K4::bf (G9 r):=by rw [Gh];exact pU 32 _ _ (CJ Au (by decide)) (λx a=>CJ (eB _ x a) (by decide))
theorem UJ {r:FR}(a:kindOk r):splitB 32 (T9 r)=(kU r).1::(kU r).2:=by obtain⟨c,d⟩:=Av a;rw [wI];exact pU 32 _ _ (CJ c (by decide)) (λx b=>CJ (d x b) (by decide))
set_option maxHeartbeats 4000000
def FR.cn (r:FR):FR:=⟨{r.f with A:=nS,B:=nS,L:=nS},r.a,r.b,r.l⟩
abbrev FR.valid (r:FR):Bool:=iA r.f r.a r.b r.l
theorem abh (f:G6)(A B L:d9)(a b l:List Int):qy {f with A:=A,B:=B,L:=L} a b l=qy f a b l:=by unfold qy Nj U9 RB tJ eG LM UA;rfl
theorem aeU {f g f' g':G6}(d:{f with A:=nS,B:=nS,L:=nS}=({f' with A:=nS,B:=nS,L:=nS}:G6))
  (e:{g with A:=nS,B:=nS,L:=nS}=({g' with A:=nS,B:=nS,L:=nS}:G6)) (a b l c b' l':List Int):
  bO f g a b l c b' l'=bO f' g' a b l c b' l':=by
 obtain⟨f1,f2,f3,f4,f5,f6,f7,f8,f9,h,i,j,k,m,n,o,p,q,r,s,t,u,A,B,v,w,x,y,z,L,C,D⟩:=f;obtain⟨g1,g2,g3,g4,g5,g6,g7,g8,g9,E,F,G,H,I,J,K,M,N,O,P,Q,R,A',B',S,T,U,V,W,L',X,Y⟩:=g;obtain⟨p1,p2,p3,p4,p5,p6,p7,p8,p9,Z,a0,a1,a2,a3,a4,a5,a6,a7,a8,a9,aa,ab,A2,B2,ac,ad,ae,af,ag,L2,ah,ai⟩:=f';obtain⟨q1,q2,q3,q4,q5,q6,q7,q8,q9,aj,ak,al,am,an,ao,ap,aq,ar,au,av,aw,ax,A3,B3,ay,az,b0,b1,b2,L3,b3,b4⟩:=g';simp only [G6.mk.injEq,true_and,and_true] at d e;obtain⟨rfl,rfl,rfl,rfl,rfl,rfl,rfl,rfl,rfl,rfl,rfl,rfl,rfl,rfl,rfl,rfl,rfl,rfl,rfl,rfl,rfl,rfl,rfl,rfl,rfl,rfl,rfl,rfl,rfl⟩:=d;obtain⟨rfl,rfl,rfl,rfl,rfl,rfl,rfl,rfl,rfl,rfl,rfl,rfl,rfl,rfl,rfl,rfl,rfl,rfl,rfl,rfl,rfl,rfl,rfl,rfl,rfl,rfl,rfl,rfl,rfl⟩:=e;unfold bO dQ nQ;rfl
theorem aeV (f:G6):({Q7 {f with A:=nS,B:=nS,L:=nS} with A:=nS,B:=nS,L:=nS}:G6)={Q7 f with A:=nS,B:=nS,L:=nS}:=by unfold Q7;simp only;by_cases h1:f.kind=1;simp only [if_pos h1];rfl;by_cases h2:f.kind=2;simp only [if_neg h1,if_pos h2];rfl;by_cases h3:f.kind=3;simp only [if_neg h1,if_neg h2,if_pos h3];rfl;by_cases h4:f.kind=4;simp only [if_neg h1,if_neg h2,if_neg h3,if_pos h4];rfl;by_cases h5:f.kind=5;simp only [if_neg h1,if_neg h2,if_neg h3,if_neg h4,if_pos h5];rfl;by_cases h6:f.kind=6;simp only [if_neg h1,if_neg h2,if_neg h3,if_neg h4,if_neg h5,if_pos h6];rfl;by_cases h7:f.kind=7;simp only [if_neg h1,if_neg h2,if_neg h3,if_neg h4,if_neg h5,if_neg h6,if_pos h7];rfl;simp only [if_neg h1,if_neg h2,if_neg h3,if_neg h4,if_neg h5,if_neg h6,if_neg h7];rfl
theorem lG (r:FR):r.cn.valid=r.valid:=by show iA _ r.a r.b r.l=iA _ r.a r.b r.l;unfold iA RI;refine congr (congrArg _ (show kC _=kC _ from rfl)) (congr (congrArg _ (abh r.f _ _ _ _ _ _)) ?_);exact aeU rfl (aeV r.f) _ _ _ _ _ _
theorem wJ (r:FR):D8 r.cn=D8 r:=rfl
theorem jo {r:FR}(h:r.valid=true):kindOk r:=by simp only [FR.valid,iA,qy,rW] at h;obtain⟨_,h,_⟩:=h;unfold kindOk;by_cases h1:r.f.kind=1;omega;by_cases h2:r.f.kind=2;omega;by_cases h3:r.f.kind=3;omega;by_cases h4:r.f.kind=4;omega;by_cases h5:r.f.kind=5;omega;by_cases h6:r.f.kind=6;omega;by_cases h7:r.f.kind=7;omega;rw [if_neg h1,if_neg h2,if_neg h3,if_neg h4,if_neg h5,if_neg h6,if_neg h7] at h;cases h
def Sm (n:Int):Prop:=-1125899906842624<=n∧n<=1125899906842624
theorem Pg {xs:List Int}(h:Z0 (okB xs) xs.length 0=true):∀n∈xs,Sm n:=by
 have a:∀(j i:Nat),Z0 (okB xs) j i=true->∀t,i<=t->t<i+j->okB xs t=true:=by
  intro j;induction j with
  | zero=>intro i _ t b c;omega
  | succ j ih=>intro i h t b c;simp only [Z0,rW] at h;by_cases ht:t=i;subst ht;exact h.1;exact ih (i+1) h.2 t (by omega) (by omega)
 intro n e;obtain⟨i,d,rfl⟩:=alQ e;have:=a _ _ h i (by omega) (by omega);simp only [okB,rW,decide_eq_true_eq,kP d] at this;unfold Sm;omega
theorem nG {r:FR}(h:r.valid=true):∀n∈G9 r,Sm n:=by have b:=jo h;simp only [FR.valid,iA,kC,rW,decide_eq_true_eq] at h;unfold kindOk at b;intro n a;simp only [G9,O9,ald,or_false] at a;unfold Sm;rcases a with rfl | rfl | rfl | rfl<;>omega
structure akQ (r:FR):Prop where
 k1:r.f.kind=1->Sm r.f.flo∧Sm r.f.fhi
 k2:r.f.kind=2->Sm r.f.gid∧Sm r.f.made∧Sm r.f.nom∧Sm r.f.tlo∧Sm r.f.thi∧Sm r.f.gn∧Sm r.f.gd∧Sm r.f.wear
 k3:r.f.kind=3->Sm r.f.ug∧Sm r.f.ud
 k4:r.f.kind=4->Sm r.f.lg∧Sm r.f.ll∧Sm r.f.lh∧Sm r.f.lw
 k5:r.f.kind=5->(Sm r.f.cday∧Sm r.f.diff∧Sm r.f.err∧Sm r.f.hlo∧Sm r.f.hhi)∧(∀n∈r.a,Sm n)∧(∀n∈r.b,Sm n)∧r.a.length<=6∧r.b.length<=6
 k6:r.f.kind=6->Sm r.f.mday∧(∀n∈r.l,Sm n)∧r.l.length<=5
 k7:r.f.kind=7->Sm r.f.tr∧Sm r.f.tn
theorem gu {r:FR}(h:r.valid=true):akQ r:=by simp only [FR.valid,iA,qy,rW] at h;obtain⟨_,h,_⟩:=h;refine⟨λa=>?_,λa=>?_,λa=>?_,λa=>?_,λa=>?_,λa=>?_,λa=>?_⟩;rw [if_pos a] at h;simp only [Nj,rW,decide_eq_true_eq] at h;unfold Sm;omega;rw [if_neg (by omega),if_pos a] at h;simp only [U9,Gf,rW,decide_eq_true_eq] at h;unfold Sm;omega;rw [if_neg (by omega),if_neg (by omega),if_pos a] at h;simp only [RB,rW,decide_eq_true_eq] at h;unfold Sm;omega;rw [if_neg (by omega),if_neg (by omega),if_neg (by omega),if_pos a] at h;simp only [tJ,rW,decide_eq_true_eq] at h;unfold Sm;omega;rw [if_neg (by omega),if_neg (by omega),if_neg (by omega),if_neg (by omega),if_pos a] at h;simp only [eG,rQ,rW,decide_eq_true_eq] at h;obtain⟨b,d,e,c,k,⟨f,g⟩,i,j⟩:=h;exact⟨by unfold Sm;omega,Pg f,Pg i,g,j⟩;rw [if_neg (by omega),if_neg (by omega),if_neg (by omega),if_neg (by omega),if_neg (by omega),if_pos a] at h;simp only [LM,rW,decide_eq_true_eq] at h;obtain⟨b,d,e,c⟩:=h;exact⟨by unfold Sm;omega,Pg b,c⟩;rw [if_neg (by omega),if_neg (by omega),if_neg (by omega),if_neg (by omega),if_neg (by omega),if_neg (by omega),if_pos a] at h;simp only [UA,rW,decide_eq_true_eq] at h;unfold Sm;omega
def nH (r:FR):FR:=⟨Q7 r.f,if r.f.kind=5 then r.a else [],if r.f.kind=5 then r.b else [],if r.f.kind=6 then r.l else []⟩
theorem aeW {f g:G6}(h:dQ f g=true)(U:f.cid=g.cid∧f.cday=g.cday∧f.diff=g.diff∧f.err=g.err∧f.hlo=g.hlo∧f.hhi=g.hhi)(V:f.mday=g.mday):
  ({f with A:=nS,B:=nS,L:=nS}:G6)={g with A:=nS,B:=nS,L:=nS}:=by
 obtain⟨W,X,Y,Z,f5,f6,f7,f8,f9,a,b,c,d,e,i,j,k,l,m,n,o,p,A,B,q,r,s,t,u,L,v,w⟩:=f;obtain⟨g1,g2,g3,g4,g5,g6,g7,g8,g9,x,y,z,C,D,E,F,G,H,I,J,K,M,A',B',N,O,P,Q,R,L',S,T⟩:=g;simp only [dQ,rW,decide_eq_true_eq] at h;obtain⟨⟨rfl,rfl⟩,rfl,rfl,⟨rfl,rfl⟩,⟨rfl,rfl,rfl,rfl,rfl,rfl,rfl,rfl⟩,⟨rfl,rfl⟩,⟨rfl,rfl,rfl,rfl⟩,rfl,rfl⟩:=h;obtain⟨rfl,rfl,rfl,rfl,rfl,rfl⟩:=U;obtain rfl:=V;rfl
theorem WH {r s:FR}:bO r.f s.f r.a r.b r.l s.a s.b s.l=true↔r.cn=s.cn:=by
 constructor;intro h;simp only [bO,nQ,rW,decide_eq_true_eq] at h;obtain⟨h1,⟨j,k,m,n,o,p,q,t⟩,h3,h4⟩:=h;unfold FR.cn;rw [aeW h1 ⟨j,k,m,n,o,p⟩ h3,q,t,h4];intro h;have c:r.cn.f=s.cn.f:=by rw [h]
 have d:r.a=s.a:=by have:r.cn.a=s.cn.a:=by rw [h]
                    exact this
 have e:r.b=s.b:=by have:r.cn.b=s.cn.b:=by rw [h]
                    exact this
 have i:r.l=s.l:=by have:r.cn.l=s.cn.l:=by rw [h]
                    exact this
 obtain⟨f,a,b,l⟩:=r;obtain⟨g,a',b',l'⟩:=s;obtain⟨f1,f2,f3,f4,f5,f6,f7,f8,f9,u,v,w,x,y,z,C,D,E,F,G,H,I,A,B,J,K,M,N,O,L,P,Q⟩:=f;obtain⟨g1,g2,g3,g4,g5,g6,g7,g8,g9,R,S,T,U,V,W,X,Y,Z,a0,a1,a2,a3,A',B',a4,a5,a6,a7,a8,L',a9,aa⟩:=g;simp only [FR.cn,G6.mk.injEq,true_and,and_true] at c;simp only at d e i;subst d e i;obtain⟨rfl,rfl,rfl,rfl,rfl,rfl,rfl,rfl,rfl,rfl,rfl,rfl,rfl,rfl,rfl,rfl,rfl,rfl,rfl,rfl,rfl,rfl,rfl,rfl,rfl,rfl,rfl,rfl,rfl⟩:=c;simp [bO,dQ,nQ]
theorem CK {r:FR}(h:r.valid=true):r.cn=(nH r).cn:=by simp only [FR.valid,iA,RI,rW] at h;exact WH.1 h.2.2
def KG (w:By):Option Int:=match Lib.atoiAll w with
 | .ok v=>some v
 | _=>none
theorem Np {n:Int}(h:Sm n):KG (Lib.itoa n)=some n:=by unfold Sm at h;rw [KG,Nl (by omega) (by omega)]
def pN {α:Type}:List By->(Int->List By->Option α)->Option α
 | [],_=>none
 | w::ws,k=>(KG w).bind λv=>k v ws
def pW {α:Type}(s:By):List By->(List By->Option α)->Option α
 | [],_=>none
 | w::ws,k=>if w=s then k ws else none
def Ii (e:By):List By->Option (List Int×List By)
 | []=>some ([],[])
 | w::ws=>if w=e then some ([],w::ws) else (KG w).bind λv=>(Ii e ws).bind λp=>some (v::p.1,p.2)
def zF (room no known kind:Int):G6:=aD ⟨room,no,known,kind,0,0,0,0,0,0,0,0,0,0,0,0,0,0,0,0,0,0,nS,nS,0,0,0,0,0,nS,0,0⟩
def parseBody (h:G6)(ws:List By):Option FR:=
 if h.kind=1 then pW rR ws λws=>pN ws λlo ws=>pN ws λhi ws=>some ⟨{h with flo:=lo,fhi:=hi},[],[],[]⟩
 else if h.kind=2 then pW mo ws λws=>pN ws λgid ws=>pN ws λmade ws=>pN ws λnom ws=>pN ws λtlo ws=>pN ws λthi ws=>pN ws λgn ws=>pN ws λgd ws=>pN ws λwear ws=>some ⟨{h with gid:=gid,made:=made,nom:=nom,tlo:=tlo,thi:=thi,gn:=gn,gd:=gd,wear:=wear},[],[],[]⟩
 else if h.kind=3 then pW CG ws λws=>pN ws λug ws=>pN ws λud ws=>some ⟨{h with ug:=ug,ud:=ud},[],[],[]⟩
 else if h.kind=4 then pW rT ws λws=>pN ws λlg ws=>pN ws λll ws=>pN ws λlh ws=>pN ws λlw ws=>some ⟨{h with lg:=lg,ll:=ll,lh:=lh,lw:=lw},[],[],[]⟩
 else if h.kind=5 then pW U4 ws λws=>pN ws λcday ws=>pN ws λdiff ws=>pN ws λerr ws=>pN ws λhlo ws=>pN ws λhhi ws=>pW kA ws λws=>(Ii kB ws).bind λp=>pW kB p.2 λws=>(Ii [] ws).bind λq=>some ⟨{h with cday:=cday,diff:=diff,err:=err,hlo:=hlo,hhi:=hhi},p.1,q.1,[]⟩
 else if h.kind=6 then pW vG ws λws=>pN ws λmday ws=>(Ii [] ws).bind λp=>some ⟨{h with mday:=mday},[],[],p.1⟩
 else if h.kind=7 then pW dO ws λws=>pN ws λtr ws=>pN ws λtn ws=>some ⟨{h with tr:=tr,tn:=tn},[],[],[]⟩
 else none
def parse (ws:List By):Option FR:=
 pW K4 ws λws=>pN ws λroom ws=>pN ws λno ws=>pN ws λknown ws=>pN ws λkind ws=>parseBody (zF room no known kind) ws
theorem nI {α:Type}(s:By)(ws:List By)(k:List By->Option α):pW s (s::ws) k=k ws:=by rw [pW,if_pos rfl]
theorem bn {α:Type}{n:Int}(h:Sm n)(ws:List By)(k:Int->List By->Option α):pN (Lib.itoa n::ws) k=k n ws:=by rw [pN,Np h];rfl
theorem Gi {e:By}(he:∀n:Int,Lib.itoa n≠e):∀(l:List Int) (t:List By),(∀n∈l,Sm n)->(t=[]∨∃u,t=e::u)->Ii e (bf l++t)=some (l,t)
 | [],t,_,ht=>by rcases ht with rfl | ⟨u,rfl⟩;rfl;show Ii e (e::u)=_;rw [Ii,if_pos rfl]
 | n::l,t,hl,ht=>by show Ii e (Lib.itoa n::(bf l++t))=_;rw [Ii,if_neg (he n),Np (hl n (by simp)),Gi he l t (λx hx=>hl x (by simp [hx])) ht];rfl
theorem Iu (n:Int):Lib.itoa n≠kB:=λh=>by have:=Kz n 98 (by rw [h];decide);exact absurd this.2 (by decide)
theorem pV (r:FR):(nH r).cn=⟨{Q7 r.f with A:=nS,B:=nS,L:=nS},(nH r).a,(nH r).b,(nH r).l⟩:=rfl
theorem UK {r:FR}(h:r.valid=true):parse (WG r)=some r.cn:=by
 have o:=nG h;have g:=gu h;have t:=jo h;obtain⟨F,G⟩:=t;simp only [G9,O9,ald,or_false,forall_eq_or_imp,forall_eq] at o;obtain⟨B,C,D,E⟩:=o;have q:parse (WG r)=parseBody (zF r.f.room r.f.no r.f.known r.f.kind) ((kU r).1::(kU r).2):=by show parse (K4::Lib.itoa r.f.room::Lib.itoa r.f.no::Lib.itoa r.f.known::Lib.itoa r.f.kind::((kU r).1::(kU r).2))=_;rw [parse,nI,bn B,bn C,bn D,bn E]
 rw [q,CK h];have s:(zF r.f.room r.f.no r.f.known r.f.kind).kind=r.f.kind:=rfl;unfold parseBody kU;rw [s];have u:=Gi (e:=kB) Iu;have p:=Gi (e:=[]) WE;by_cases h1:r.f.kind=1;obtain⟨c,d⟩:=g.k1 h1;simp only [if_pos h1];show pW rR (rR::Lib.itoa r.f.flo::Lib.itoa r.f.fhi :: []) _=_;rw [nI,bn c,bn d,pV];simp [nH,Q7,h1,aD,zF];by_cases h2:r.f.kind=2;obtain⟨c,d,k,m,n,v,w,x⟩:=g.k2 h2;simp only [if_neg h1,if_pos h2];show pW mo (mo::Lib.itoa r.f.gid::Lib.itoa r.f.made::Lib.itoa r.f.nom::Lib.itoa r.f.tlo::Lib.itoa r.f.thi::Lib.itoa r.f.gn::Lib.itoa r.f.gd::Lib.itoa r.f.wear :: []) _=_;rw [nI,bn c,bn d,bn k,bn m,bn n,bn v,bn w,bn x,pV];simp [nH,Q7,h2,aD,zF];by_cases h3:r.f.kind=3;obtain⟨c,d⟩:=g.k3 h3;simp only [if_neg h1,if_neg h2,if_pos h3];show pW CG (CG::Lib.itoa r.f.ug::Lib.itoa r.f.ud :: []) _=_;rw [nI,bn c,bn d,pV];simp [nH,Q7,h3,aD,zF];by_cases h4:r.f.kind=4;obtain⟨c,d,k,m⟩:=g.k4 h4;simp only [if_neg h1,if_neg h2,if_neg h3,if_pos h4];show pW rT (rT::Lib.itoa r.f.lg::Lib.itoa r.f.ll::Lib.itoa r.f.lh::Lib.itoa r.f.lw :: []) _=_;rw [nI,bn c,bn d,bn k,bn m,pV];simp [nH,Q7,h4,aD,zF];by_cases h5:r.f.kind=5;obtain⟨⟨c,d,k,m,n⟩,y,z,_,_⟩:=g.k5 h5;have j:r.f.cid=0:=by have i:=h;simp only [FR.valid,iA,qy,rW] at i;obtain⟨_,i,_⟩:=i;rw [if_neg h1,if_neg h2,if_neg h3,if_neg h4,if_pos h5] at i;simp only [eG,rW,decide_eq_true_eq] at i;exact i.1
 simp only [if_neg h1,if_neg h2,if_neg h3,if_neg h4,if_pos h5];show pW U4 (U4::Lib.itoa r.f.cday::Lib.itoa r.f.diff::Lib.itoa r.f.err::Lib.itoa r.f.hlo::Lib.itoa r.f.hhi::kA::(bf r.a++kB::bf r.b)) _=_;rw [nI,bn c,bn d,bn k,bn m,bn n,nI,u r.a _ y (.inr ⟨_,rfl⟩),U1,nI];have:=p r.b [] z (.inl rfl);rw [acH] at this;rw [this,U1,pV];simp [nH,Q7,h5,aD,zF,j];by_cases h6:r.f.kind=6;obtain⟨c,A,_⟩:=g.k6 h6;simp only [if_neg h1,if_neg h2,if_neg h3,if_neg h4,if_neg h5,if_pos h6];show pW vG (vG::Lib.itoa r.f.mday::bf r.l) _=_;have:=p r.l [] A (.inl rfl);rw [acH] at this;rw [nI,bn c,this,U1,pV];simp [nH,Q7,h6,aD,zF];by_cases h7:r.f.kind=7;obtain⟨c,d⟩:=g.k7 h7;simp only [if_neg h1,if_neg h2,if_neg h3,if_neg h4,if_neg h5,if_neg h6,if_pos h7];show pW dO (dO::Lib.itoa r.f.tr::Lib.itoa r.f.tn :: []) _=_;rw [nI,bn c,bn d,pV];simp [nH,Q7,h7,aD,zF];omega
def kV (text:By)(r:FR):Prop:=r.valid=true∧D8 r=text
theorem tK {text:By}{r:FR}(h:kV text r):parse (Lib.fieldsD text)=some r.cn:=by obtain⟨a,rfl⟩:=h;have b:=jo a;rw [Lib.fieldsD_ascii _ (UG b),RN b,UK a]
theorem UL {text:By}{r s:FR}(h:kV text r)(k:kV text s):r.cn=s.cn:=by have:=(tK h).symm.trans (tK k);exact su this
def zW (many:Nat)(l:List Int):List Int:=l++List.replicate (many-l.length) 0
def dK (w:List By)(many:Nat):List Int:=zW many ((w.drop 1).map kE)
def aI:Nat->List By->List Int×List Int
 | _,[]=>([],[])
 | k,w::ws=>if w=kA then aI 1 ws else if w=kB then aI 2 ws
  else if k=1 then (kE w::(aI k ws).1,(aI k ws).2) else if k=2 then ((aI k ws).1,kE w::(aI k ws).2) else aI k ws
def zX (h:G6)(n:List Int)(w:List By):FR:=
 if h.kind=1 then ⟨{h with flo:=n.getD 0 0,fhi:=n.getD 1 0},[],[],[]⟩
 else if h.kind=2 then ⟨{h with gid:=n.getD 0 0,made:=n.getD 1 0,nom:=n.getD 2 0,tlo:=n.getD 3 0,thi:=n.getD 4 0,gn:=n.getD 5 0,gd:=n.getD 6 0,wear:=n.getD 7 0},[],[],[]⟩
 else if h.kind=3 then ⟨{h with ug:=n.getD 0 0,ud:=n.getD 1 0},[],[],[]⟩
 else if h.kind=4 then ⟨{h with lg:=n.getD 0 0,ll:=n.getD 1 0,lh:=n.getD 2 0,lw:=n.getD 3 0},[],[],[]⟩
 else if h.kind=5 then ⟨{h with cday:=n.getD 0 0,diff:=n.getD 1 0,err:=n.getD 2 0,hlo:=n.getD 3 0,hhi:=n.getD 4 0},(aI 0 w).1,(aI 0 w).2,[]⟩
 else if h.kind=6 then ⟨{h with mday:=n.getD 0 0},[],[],(dK w 0).drop (min (w.length-1) 1)⟩
 else if h.kind=7 then ⟨{h with tr:=n.getD 0 0,tn:=n.getD 1 0},[],[],[]⟩
 else ⟨h,[],[],[]⟩
def abj (l0:By):G6:=zF ((dK (splitB 32 l0) 4).getD 0 0) ((dK (splitB 32 l0) 4).getD 1 0) ((dK (splitB 32 l0) 4).getD 2 0) ((dK (splitB 32 l0) 4).getD 3 0)
def RO (l0 l1:By):FR:=zX (abj l0) (dK (splitB 32 l1) 8) (splitB 32 l1)
theorem Eu {n:Int}(h:Sm n):kE (Lib.itoa n)=n:=by unfold Sm at h;exact Nn (by omega) (by omega)
theorem CP:∀(l:List Int),(∀n∈l,Sm n)->(bf l).map kE=l
 | [],_=>rfl
 | n::l,h=>by show kE (Lib.itoa n)::(bf l).map kE=_;rw [Eu (h n (by simp)),CP l (λx hx=>h x (by simp [hx]))]
theorem jc (w:By)(l:List Int)(a:Nat)(h:∀n∈l,Sm n):dK (w::bf l) a=zW a l:=by rw [dK,List.drop_succ_cons,abR,CP l h]
theorem Ph (n:Int):Lib.itoa n≠kA:=λh=>by have:=Kz n 97 (by rw [h];decide);exact absurd this.2 (by decide)
theorem WI:∀(l:List Int) (t:List By),(∀n∈l,Sm n)->aI 1 (bf l++t)=(l++(aI 1 t).1,(aI 1 t).2)
 | [],t,_=>rfl
 | n::l,t,h=>by show aI 1 (Lib.itoa n::(bf l++t))=_;rw [aI,if_neg (Ph n),if_neg (Iu n),if_pos rfl,Eu (h n (by simp)),WI l t (λx hx=>h x (by simp [hx]))];rfl
theorem WJ:∀(l:List Int),(∀n∈l,Sm n)->aI 2 (bf l)=([],l)
 | [],_=>rfl
 | n::l,h=>by show aI 2 (Lib.itoa n::bf l)=_;rw [aI,if_neg (Ph n),if_neg (Iu n),if_neg (by omega),if_pos rfl,Eu (h n (by simp)),WJ l (λx hx=>h x (by simp [hx]))]
theorem WK:∀(l:List Int) (t:List By),aI 0 (bf l++t)=aI 0 t
 | [],t=>rfl
 | n::l,t=>by show aI 0 (Lib.itoa n::(bf l++t))=_;rw [aI,if_neg (Ph n),if_neg (Iu n),if_neg (by omega),if_neg (by omega),WK l t]
theorem UM {r:FR}(h:r.valid=true):RO (D7 K4 (G9 r)) (T9 r)=r.cn:=by
 have u:=nG h;have c:=gu h;have k:=jo h;have o:abj (D7 K4 (G9 r))=zF r.f.room r.f.no r.f.known r.f.kind:=by unfold abj;rw [UH,jc _ _ _ u];rfl
 have s:(zF r.f.room r.f.no r.f.known r.f.kind).kind=r.f.kind:=rfl;rw [RO,o,UJ k,CK h,pV];obtain⟨C,D⟩:=k;unfold zX kU;rw [s];by_cases h1:r.f.kind=1;simp only [if_pos h1];rw [jc _ _ _ (by simpa using c.k1 h1)];simp [nH,Q7,h1,aD,zF,zW];by_cases h2:r.f.kind=2;simp only [if_neg h1,if_pos h2];rw [jc _ _ _ (by simpa using c.k2 h2)];simp [nH,Q7,h2,aD,zF,zW];by_cases h3:r.f.kind=3;simp only [if_neg h1,if_neg h2,if_pos h3];rw [jc _ _ _ (by simpa using c.k3 h3)];simp [nH,Q7,h3,aD,zF,zW];by_cases h4:r.f.kind=4;simp only [if_neg h1,if_neg h2,if_neg h3,if_pos h4];rw [jc _ _ _ (by simpa using c.k4 h4)];simp [nH,Q7,h4,aD,zF,zW];by_cases h5:r.f.kind=5;obtain⟨q,z,A,_,_⟩:=c.k5 h5;have e:r.f.cid=0:=by have d:=h;simp only [FR.valid,iA,qy,rW] at d;obtain⟨_,d,_⟩:=d;rw [if_neg h1,if_neg h2,if_neg h3,if_neg h4,if_pos h5] at d;simp only [eG,rW,decide_eq_true_eq] at d;exact d.1
 simp only [if_neg h1,if_neg h2,if_neg h3,if_neg h4,if_pos h5];have g:∃t,dK (U4::(bf [r.f.cday,r.f.diff,r.f.err,r.f.hlo,r.f.hhi]++kA::(bf r.a++kB::bf r.b))) 8=r.f.cday::r.f.diff::r.f.err::r.f.hlo::r.f.hhi::t:=by obtain⟨j,v,w,x,y⟩:=q;refine⟨(kA::(bf r.a++kB::bf r.b)).map kE++List.replicate (8-((bf [r.f.cday,r.f.diff,r.f.err,r.f.hlo,r.f.hhi]++kA::(bf r.a++kB::bf r.b)).map kE).length) 0,?_⟩;rw [dK,zW,List.drop_succ_cons,abR,afj,CP [r.f.cday,r.f.diff,r.f.err,r.f.hlo,r.f.hhi] (by simp;exact⟨j,v,w,x,y⟩)];rfl
 obtain⟨t,g⟩:=g;have p:aI 0 (U4::(bf [r.f.cday,r.f.diff,r.f.err,r.f.hlo,r.f.hhi]++kA::(bf r.a++kB::bf r.b)))=(r.a,r.b):=by rw [aI,if_neg (by decide),if_neg (by decide),if_neg (by omega),if_neg (by omega),WK,aI,if_pos rfl,WI _ _ z,aI,if_neg (by decide),if_pos rfl,WJ _ A];simp
 rw [g,p];simp [nH,Q7,h5,aD,zF,e];by_cases h6:r.f.kind=6;obtain⟨j,B,_⟩:=c.k6 h6;have m:∀n∈r.f.mday::r.l,Sm n:=λn i=>by rcases O9.1 i with rfl | i;exact j;exact B n i
 simp only [if_neg h1,if_neg h2,if_neg h3,if_neg h4,if_neg h5,if_pos h6];rw [jc _ _ _ m,jc _ _ _ m];simp [nH,Q7,h6,aD,zF,zW,bf];by_cases h7:r.f.kind=7;simp only [if_neg h1,if_neg h2,if_neg h3,if_neg h4,if_neg h5,if_neg h6,if_pos h7];rw [jc _ _ _ (by simpa using c.k7 h7)];simp [nH,Q7,h7,aD,zF,zW];omega
def jq:By:=[114,101,99,111,114,100]
def Pj (n:Nat):By->Nat
 | []=>n
 | b::l=>Pj ((31*n+b.toNat+1)%2147483647) l
def rU (s:By):Nat:=Pj 0 s
theorem Nq:∀(l:By) (n:Nat) (b:UInt8),Pj n (l ++ [b])=(31*Pj n l+b.toNat+1)%2147483647
 | [],n,b=>rfl
 | c::l,n,b=>by show Pj n (c::(l ++ [b]))=_;rw [Pj,Nq l,Pj]
theorem WL:∀(l:By) (n:Nat),n<2147483647->Pj n l<2147483647
 | [],n,h=>h
 | c::l,n,h=>by rw [Pj];exact WL l _ (adK _ (by omega))
theorem Iw (s:By):rU s<2147483647:=WL s 0 (by omega)
theorem Nr {s:By}{i:Nat}(h:i<s.length):rU (s.take (i+1))=(31*rU (s.take i)+(s[i]).toNat+1)%2147483647:=by rw [O4 h];exact Nq _ _ _
def wK:Nat->By->List By
 | 0,_=>[]
 | k+1,s=>if s=[] then [] else s.take 64::wK k (s.drop 64)
def chunks (s:By):List By:=wK s.length s
theorem Hl:∀(k j:Nat) (s:By),s.length<=k->s.length<=j->wK k s=wK j s
 | 0,j,s,hk,hj=>by obtain rfl:=abm.1 (show s.length=0 by omega);cases j<;>simp [wK]
 | k+1,0,s,hk,hj=>by obtain rfl:=abm.1 (show s.length=0 by omega);simp [wK]
 | k+1,j+1,s,hk,hj=>by rw [wK,wK];by_cases h:s=[];rw [if_pos h,if_pos h];have hp:=abY.2 h;rw [if_neg h,if_neg h,Hl k j (s.drop 64) (by simp;omega) (by simp;omega)]
theorem mM {s:By}(h:s≠[]):chunks s=s.take 64::chunks (s.drop 64):=by obtain⟨k,a⟩:∃k,s.length=k+1:=⟨s.length-1,by have:=abY.2 h;omega⟩;rw [chunks,a,wK,if_neg h,chunks,Hl k (s.drop 64).length _ (by simp;omega) (aA _)]
theorem fM:chunks []=[]:=rfl
theorem kF:∀(n:Nat) (s:By),s.length<=n->(chunks s).length<=s.length
 | 0,s,h=>by obtain rfl:=abm.1 (show s.length=0 by omega);simp [fM]
 | n+1,s,h=>by by_cases hs:s=[];subst hs;simp [fM];have hp:=abY.2 hs;rw [mM hs];have:=kF n (s.drop 64) (by simp;omega);simp at this ⊢;omega
def oJ (n:Int)(s:By):List By:=D7 jq [n,((chunks s).length:Int),(s.length:Int),(rU s:Int)]::chunks s
end Go.Proofs.YtfnlnpllpfhhnaaGreatDoor.TT
namespace Go.Proofs.YtfnlnpllpfhhnaaGreatDoor.TT
open Go Go.AM
theorem uH:∀(f:Nat) (cur l:By),((Lib.fieldsGoD f cur l).map List.length).sum<=cur.length+l.length∧∀w∈Lib.fieldsGoD f cur l,w≠[]
 | 0,cur,l=>by rw [Lib.fieldsGoD];split;simp;rename_i h;simp;exact h
 | f+1,cur,l=>by rw [Lib.fieldsGoD];split;split;simp;rename_i h;simp;exact h;split;obtain⟨h1,h2⟩:=uH f [] (l.drop (Lib.decodeL l).2);simp only [at1,W9,alm] at h1;split;simp only [aaE];exact⟨by omega,h2⟩;rename_i h;refine⟨by simp;omega,λw hw=>?_⟩;rcases O9.1 (by simpa using hw) with rfl | hw;exact h;exact h2 w hw;obtain⟨h1,h2⟩:=uH f (cur++l.take (Lib.decodeL l).2) (l.drop (Lib.decodeL l).2);simp only [acp,adX,alm] at h1;exact⟨by omega,h2⟩
theorem WM:∀(ws:List By),(∀w∈ws,w≠[])->ws.length<=(ws.map List.length).sum∧∀w∈ws,w.length<=(ws.map List.length).sum
 | [],_=>⟨by simp,by simp⟩
 | w::ws,h=>by obtain⟨h1,h2⟩:=WM ws (λx hx=>h x (by simp [hx]));have h0:=abY.2 (h w (by simp));refine⟨by simp;omega,λx hx=>?_⟩;rcases O9.1 hx with rfl | hx;simp;have:=h2 x hx;simp;omega
theorem RP (s:By):(Lib.fieldsD s).length<=s.length∧∀w∈Lib.fieldsD s,w.length<=s.length:=by obtain⟨a,b⟩:=uH (s.length+1) [] s;obtain⟨c,d⟩:=WM _ b;simp only [at1,W9] at a;exact⟨nM c a,λw e=>nM (d w e) a⟩
theorem KH {n:Int}(h:Sm n):(Lib.itoa n).length<=17:=by
 have a:(10:Nat)^16=10000000000000000:=by decide
 unfold Sm at h;unfold Lib.itoa;split;have:=mh 15 n.natAbs (by rw [a];omega);rw [acA,Lib.decDigits_length];omega;have:=mh 15 n.toNat (by rw [a];omega);rw [Lib.decDigits_length];omega
theorem aL (w:By):∀(l:List Int),(∀n∈l,Sm n)->(D7 w l).length<=w.length+18*l.length
 | [],_=>by rw [Gg];simp
 | n::l,h=>by rw [UF];have h1:=aL (w++32::Lib.itoa n) l (λx hx=>h x (by simp [hx]));have h2:=KH (h n (by simp));simp at h1 ⊢;omega
theorem kR {r:FR}(h:r.valid=true):(T9 r).length<=400:=by have c:=gu h;have i:=jo h;obtain⟨n,o⟩:=i;unfold T9;by_cases h1:r.f.kind=1;rw [if_pos h1];have:=aL rR [r.f.flo,r.f.fhi] (by simpa using c.k1 h1);simp [rR] at this ⊢;omega;by_cases h2:r.f.kind=2;rw [if_neg h1,if_pos h2];have:=aL mo [r.f.gid,r.f.made,r.f.nom,r.f.tlo,r.f.thi,r.f.gn,r.f.gd,r.f.wear] (by simpa using c.k2 h2);simp [mo] at this ⊢;omega;by_cases h3:r.f.kind=3;rw [if_neg h1,if_neg h2,if_pos h3];have:=aL CG [r.f.ug,r.f.ud] (by simpa using c.k3 h3);simp [CG] at this ⊢;omega;by_cases h4:r.f.kind=4;rw [if_neg h1,if_neg h2,if_neg h3,if_pos h4];have:=aL rT [r.f.lg,r.f.ll,r.f.lh,r.f.lw] (by simpa using c.k4 h4);simp [rT] at this ⊢;omega;by_cases h5:r.f.kind=5;rw [if_neg h1,if_neg h2,if_neg h3,if_neg h4,if_pos h5];obtain⟨q,j,k,p,s⟩:=c.k5 h5;have d:=aL U4 [r.f.cday,r.f.diff,r.f.err,r.f.hlo,r.f.hhi] (by simpa using q);have e:=aL (32::kA) r.a j;have g:=aL (32::kB) r.b k;simp [U4,kA,kB] at d e g ⊢;omega;by_cases h6:r.f.kind=6;rw [if_neg h1,if_neg h2,if_neg h3,if_neg h4,if_neg h5,if_pos h6];obtain⟨q,m,t⟩:=c.k6 h6;have d:=aL vG [r.f.mday] (by simpa using q);have e:=aL [] r.l m;simp [vG] at d e ⊢;omega;by_cases h7:r.f.kind=7;rw [if_neg h1,if_neg h2,if_neg h3,if_neg h4,if_neg h5,if_neg h6,if_pos h7];have:=aL dO [r.f.tr,r.f.tn] (by simpa using c.k7 h7);simp [dO] at this ⊢;omega;omega
theorem jJ {r:FR}(h:r.valid=true):(D7 K4 (G9 r)).length<=76:=by have:=aL K4 (G9 r) (nG h);simp [K4,G9] at this ⊢;omega
theorem jK {r:FR}(h:r.valid=true):(D8 r).length<=478:=by have a:=jJ h;have b:=kR h;simp [D8] at a ⊢;omega
set_option maxRecDepth 100000
set_option maxHeartbeats 4000000
abbrev UN:d9:=.iface 95 (.agg [])
theorem CQ {M:Mem}{id off:Nat}{c:List d9}(b:M.Ok)(a:id<M.nx)(h:M.lim<=id)(g:M.get id=some (j5 c))(d:off<c.length){v:d9}(e:A8 v=true):
  ∃N,(∀{β:Type} (k:Mem->Option β),storeAt M id off [v] k=k N)∧N.get id=some (j5 (c.set off v))∧dh id M N:=by
 refine⟨M.set id (j5 (c.set off v)),λk=>?_,by rw [Mem.U6 b a,if_pos rfl],Mem.Ok.set b a _,by simp,rfl,λj l i=>by rw [Mem.U6 b a,if_neg i]⟩;have f:I7 [v]=true:=by show bi (A8 v) true false=true;rw [e];rfl
 rw [bW h f,g,aB (by simp;omega) d,I9];congr 2;rw [azS,if_pos d];rfl
def WS (lo:Nat)(m:Mem)(p:Nat)(ws:List By):Prop:=p<lo∧∃v,m.get p=some (j5 [v])∧xw m v (strs ws)∧∀i o l c,v=.slice i o l c->i<lo
theorem WS.mono {lo a:Nat}{m:Mem}{p:Nat}{ws:List By}(h:WS lo m p ws)(j:lo<=a):WS a m p ws:=by obtain⟨g,v,b,d,e⟩:=h;exact⟨by omega,v,b,d,λi o l c f=>by have:=e i o l c f;omega⟩
theorem WS.fr {lo b q:Nat}{m g:Mem}{p:Nat}{ws:List By}(h:WS lo m p ws)(f:Fr b q m g)(s:lo<=b)(a:lo<=q∨(q≠p∧∀n rows,m.get q≠some (.cells 1 n rows))):WS lo g p ws:=by
 obtain⟨j,v,k,r,e⟩:=h;have d:p≠q:=by rcases a with a | ⟨a,_⟩<;>omega
 refine⟨j,v,by rw [f.old p (by omega) d];exact k,r.keep f.nx λi n rows _ hg ⟨o,l,c,hv⟩=>?_,e⟩;have t:=e i o l c hv;refine f.old i (by omega) ?_;rintro rfl;rcases a with a | ⟨_,a⟩;omega;exact a n rows hg
theorem WS.ext {lo:Nat}{m b:Mem}{p:Nat}{ws:List By}(h:WS lo m p ws)(a:lo<=m.nx)(e:Ext m b):WS lo b p ws:=h.fr (e.fr (p:=lo) a) (aA _) (.inl (aA _))
theorem axM {m:Mem}{p:Nat}{v:d9}{w:By}{ws:List By}(f:m.get p=some (j5 [v]))(j:xw m v (strs (w::ws))):∀i o l c,v=.slice i o l c->i≠p:=by
 obtain⟨id,a,c,rfl,k,q,d⟩:=j;rintro i o l c' h rfl;cases h;rcases d with d | ⟨n,rows,b,h5,h6⟩;cases d;rw [f] at b;have b:Z6.cells 1 1 (.nd .e [d9.slice id a (strs (w::ws)).length c] .e)=.cells 1 n rows:=su b;injection b with _ h7 h8;subst h7 h8;have g:0<(strs (w::ws)).length:=by simp [strs]
 obtain rfl:a=0:=by omega
 have:=h6 0 g;rw [acy] at this;have this:[d9.slice id 0 (strs (w::ws)).length c]=[(strs (w::ws))[0]]:=su this;simp [strs] at this
theorem RQ {lo:Nat}{m:Mem}{p:Nat}(h:WS lo m p [])(n d:Nat):l8 KW d (n+1) (.func 166) [.ptr p 0] m=some [⟨.aY UN,m⟩]:=by obtain⟨_,v,e,b,_⟩:=h;have a:=b.vs.len;rw [enter (sf:=f166) rfl rfl];have c:((strs []).length:Int)=0:=rfl;rw [c] at a;simp [f166,e,ko,a,b.vs.aY]
theorem Ns {lo:Nat}{m:Mem}{p:Nat}{w:By}{ws:List By}(x:m.Ok)(E:m.lim<=p)(h:WS lo m p (w::ws))(n D:Nat):
  ∃m',l8 KW D (n+1) (.func 166) [.ptr p 0] m=some [⟨.str w,m'⟩]∧dh p m m'∧WS lo m' p ws:=by
 obtain⟨j,v,k,y,s⟩:=h;have F:=Mem.Q6 x k;have t:=axM k y;have b:xw m v (.str w::strs ws):=y;obtain⟨K,a,G,g⟩:=b.tail;obtain⟨id,o,u,L,z⟩:=b.vs.at0;have d:=b.vs.len;obtain⟨N,J,q,X⟩:=CQ (off:=0) x F E k (by simp) a.vs.A8;refine⟨N,?_,X,j,K,by simpa using q,a.keep X.nx λi n rows hi _ ⟨o,l,c,f⟩=>X.old i hi ?_,λi o l c f=>?_⟩;rw [enter (sf:=f166) rfl rfl];have B:((((.str w::strs ws:List d9)).length:Nat):Int)=((strs ws).length:Int)+1:=by simp
 rw [B] at d;have C:decide (((strs ws).length:Int)+1=0)=false:=by simp;omega
 have e:=a.vs.cells;simp at u;simp [f166,k,ko,d,b.vs.aY,a.vs.aY,u,z,G,J,C,e];obtain⟨I,H,A,r⟩:=g i o l c f;exact t _ _ _ _ r;obtain⟨I,H,A,r⟩:=g i o l c f;exact s _ _ _ _ r
theorem uI {lo:Nat}{m:Mem}{p:Nat}{ws:List By}(b:m.Ok)(e:m.lim<=p)(h:WS lo m p ws)(s:By)(n a:Nat):
  (∃m',l8 KW a (n+2) (.func 84) [.ptr p 0,.str s] m=some [⟨.aY UN,m'⟩]∧dh p m m'∧∀(α:Type) (k:List By->Option α),pW s ws k=none)∨
  (∃t m',l8 KW a (n+2) (.func 84) [.ptr p 0,.str s] m=some [⟨.tuple [],m'⟩]∧dh p m m'∧WS lo m' p t∧ws=s::t∧∀(α:Type) (k:List By->Option α),pW s ws k=k t):=by
 cases ws with
 | nil=>refine .inl ⟨m,?_,dh.refl b,λ_ _=>rfl⟩;have g:=RQ h n a;rw [enter (sf:=f84) rfl rfl];simp [f84,g]
 | cons w t=>obtain⟨c,g,X,d⟩:=Ns b e h n a;by_cases hw:w=s;subst hw;refine .inr ⟨t,c,?_,X,d,rfl,λ_ _=>nI w t _⟩;rw [enter (sf:=f84) rfl rfl];simp [f84,g];refine .inl ⟨c,?_,X,λ_ _=>by rw [pW,if_neg hw]⟩;rw [enter (sf:=f84) rfl rfl];simp [f84,g,hw]
theorem abk {s:By}{v:Int}(h:Lib.atoiAll s=.ok v):-9223372036854775808<=v∧v<9223372036854775808:=by
 cases s with
 | nil=>cases h
 | cons c r=>simp only [Lib.atoiAll] at h;split at h;cases h;cases h;split at h;cases h;rename_i a;split at h;cases h;rename_i b;injection h with h;subst h;split<;>omega
theorem fO {lo:Nat}{m:Mem}{p:Nat}{ws:List By}(f:m.Ok)(l:m.lim<=p)(c:lo<=m.nx)(h:WS lo m p ws)(r:∀w∈ws,w.length<1000000)(n b:Nat):
  (∃m',l8 KW b (n+2) (.func 85) [.ptr p 0] m=some [⟨.aY UN,m'⟩]∧dh p m m'∧∀(α:Type) (k:Int->List By->Option α),pN ws k=none)∨
  (∃v w t m',l8 KW b (n+2) (.func 85) [.ptr p 0] m=some [⟨iV v,m'⟩]∧dh p m m'∧WS lo m' p t∧ws=w::t∧KG w=some v∧Z9 v∧∀(α:Type) (k:Int->List By->Option α),pN ws k=k v t):=by
 cases ws with
 | nil=>refine .inl ⟨m,?_,dh.refl f,λ_ _=>rfl⟩;have g:=RQ h n b;rw [enter (sf:=f85) rfl rfl];simp [f85,g]
 | cons w t=>
  obtain⟨u,g,X,i⟩:=Ns f l h n b;obtain⟨v,e,m2,d,E2,o⟩:=Wu w (r w (by simp)) n b u X.ok;have X2:dh p m m2:=X.trans E2.toB;have j:WS lo m2 p t:=i.ext (nM c X.nx) E2;rcases o with⟨ha,rfl⟩ | ⟨ha,q,rfl⟩;have a:KG w=some v:=by rw [KG,ha]
  refine .inr ⟨v,w,t,m2,?_,X2,j,rfl,a,abk ha,λ_ _=>by rw [pN,a];rfl⟩;rw [enter (sf:=f85) rfl rfl];simp [f85,g,d];have a:KG w=none:=by rw [KG];split;rename_i x s;exact absurd s (ha x);rfl
  refine .inl ⟨m2,?_,X2,λ_ _=>by rw [pN,a];rfl⟩;rw [enter (sf:=f85) rfl rfl];simp [f85,g,d]
theorem Iy {lo:Nat}{m:Mem}{p:Nat}{ws:List By}(s:m.Ok)(A:m.lim<=p)(d:lo<=m.nx)(h:WS lo m p ws)(u:∀w∈ws,w.length<1000000)(n f:Nat):
  (∃m',l8 KW f (n+3) (.func 150) [.ptr p 0] m=some [⟨.aY UN,m'⟩]∧dh p m m'∧∀(α:Type) (K:Int->Int->List By->Option α),pN ws (λa t=>pN t λb t=>K a b t)=none)∨
  (∃a b x y t m',l8 KW f (n+3) (.func 150) [.ptr p 0] m=some [⟨.agg [iV a,iV b],m'⟩]∧dh p m m'∧WS lo m' p t∧ws=x::y::t∧Z9 a∧Z9 b∧∀(α:Type) (K:Int->Int->List By->Option α),pN ws (λa t=>pN t λb t=>K a b t)=K a b t):=by
 have H:=h.1;have E0:=(Ext.refl s).new (j5 [iZ,iZ]);have z:=h.ext d E0;have c:(m.new (j5 [iZ,iZ])).lim<=p:=A;rcases fO E0.ok c (nM d E0.nx) z u n f with⟨m1,g1,X1,r1⟩ | ⟨a,w1,t1,m1,g1,X1,h1,e1,_,i1,r1⟩;refine .inl ⟨m1,?_,E0.toB.trans X1,λα K=>r1 α _⟩;rw [enter (sf:=f150) rfl rfl];simp [f150,g1];subst e1;have q:∀w∈t1,w.length<1000000:=λw o=>u w (by simp [o]);rcases fO X1.ok (by rw [X1.lim];exact c) (nM (nM d E0.nx) X1.nx) h1 q n f with⟨m2,g2,X2,r2⟩ | ⟨b,w2,t2,m2,g2,X2,h2,e2,_,i2,r2⟩;refine .inl ⟨m2,?_,(E0.toB.trans X1).trans X2,λα K=>(r1 α _).trans (r2 α _)⟩;rw [enter (sf:=f150) rfl rfl];simp [f150,g1,g2];subst e2;have e:p≠m.nx:=by omega
 have C:(m.new (j5 [iZ,iZ])).get m.nx=some (j5 [iZ,iZ]):=by rw [Mem.P5 s,if_pos rfl]
 have v:m.nx<m1.nx:=aP (by simp) X1.nx;have D:m1.get m.nx=some (j5 [iZ,iZ]):=by rw [X1.old _ (by simp) (ajw e)];exact C
 have E:m2.get m.nx=some (j5 [iZ,iZ]):=by rw [X2.old _ v (ajw e)];exact D
 have g:m.nx<m2.nx:=aP v X2.nx;have l:m2.lim<=m.nx:=by rw [X2.lim,X1.lim];show m.lim<=_;omega
 have X3:dh m.nx m2 (m2.set m.nx (j5 [iV a,iV b])):=⟨Mem.Ok.set X2.ok g _,by simp,rfl,λj G B=>by rw [Mem.U6 X2.ok g,if_neg B]⟩;have F:(m2.set m.nx (j5 [iV a,iV b])).get m.nx=some (j5 [iV a,iV b]):=by rw [Mem.U6 X2.ok g,if_pos rfl]
 refine .inr ⟨a,b,w1,w2,t2,m2.set m.nx (j5 [iV a,iV b]),?_,?_,?_,rfl,i1,i2,λα K=>(r1 α _).trans (r2 α _)⟩;rw [enter (sf:=f150) rfl rfl];simp [f150,g1,g2,Cm l,E,F,A8];have XX:=(E0.toB (id:=p)).trans X1 |>.trans X2
 exact⟨X3.ok,nM XX.nx X3.nx,XX.lim,λi r k=>by rw [X3.old i (aP r XX.nx) (by omega)];exact XX.old i r k⟩;exact h2.fr (X3.fr (lo:=lo) (nM d (ae1 g))) (aA _) (.inl d)
theorem abl {p:Nat}{e:By}{lo0 lo:Nat}(j:lo0<=lo)(n d:Nat):∀(ws:List By),(∀w∈ws,w.length<1000000)->∀(l:List Int) (m:Mem) (out a2:d9) (N:Nat),m.Ok->m.lim<=p->lo<=m.nx->WS lo0 m p ws->aM lo m out (ints l)->
  l.length+ws.length<=50000->ws.length+1<=N->
  (∃env' m',J5 (λenv m k=>rO (l8 KW d (n+2)) d none env m k) N (OZ (.ptr p 0) (.str e) a2 out nS) m []=some [⟨.ret,env',m',[],some UN⟩]∧Fr lo p m m'∧Ii e ws=none)∨
  (∃out' a2' m' l' t,J5 (λenv m k=>rO (l8 KW d (n+2)) d none env m k) N (OZ (.ptr p 0) (.str e) a2 out nS) m []=some [⟨.exit 0,(OZ (.ptr p 0) (.str e) a2' out' nS),m',[],none⟩]∧Fr lo p m m'∧aM lo m' out' (ints (l++l'))∧WS lo0 m' p t∧Ii e ws=some (l',t)∧t.length+l'.length<=ws.length∧∀w∈t,w∈ws):=by
 intro ws;induction ws with
 | nil=>intro _ l m out a2 N J I b h E S hN;obtain⟨N,rfl⟩:∃k,N=k+1:=⟨N-1,by omega⟩;refine .inr ⟨out,fV,m,[],[],?_,Fr.refl J,by rw [acH];exact E,h,rfl,by simp,by simp⟩;obtain⟨_,v,C,K,_⟩:=h;have a:=K.vs.len;have P:((strs []).length:Int)=0:=rfl;rw [P] at a;rw [l9];simp [rO,C,ko,a,K.vs.aY]
 | cons w ws ih=>
  intro hw l m out a2 N J I b h E S hN;obtain⟨N,rfl⟩:∃k,N=k+1:=⟨N-1,by omega⟩;have h0:=h;obtain⟨_,v,C,K,_⟩:=h0;have B:xw m v (.str w::strs ws):=K;obtain⟨id,o,H,_,O⟩:=B.vs.at0;have a:=B.vs.len;have P:((((.str w::strs ws:List d9)).length:Nat):Int)=((strs ws).length:Int)+1:=by simp
  rw [P] at a;have Q:decide ((0:Int)<((strs ws).length:Int)+1)=true:=decide_eq_true (by omega);have pv:=λ{β:Type} (p:d9->β) q=>B.vs.aY p q;simp at H;rw [l9];by_cases hwe:w=e;subst hwe;refine .inr ⟨out,fV,m,[],w::ws,?_,Fr.refl J,by rw [acH];exact E,h,by rw [Ii,if_pos rfl],by simp,λ_ h=>h⟩;simp [rO,C,ko,a,pv,H,O,Q];have a0:=h.1;have po:=λ{β:Type} (p:d9->β) q=>E.vs.aY p q;rcases fO J I (nM j b) h hw n d with⟨m1,g1,X1,r1⟩ | ⟨x,w',t,m1,g1,X1,h1,ew,hx,i1,r1⟩;refine .inl ?_;have A:KG w=none:=by
   have:=r1 Int (λv _=>some v);rw [pN] at this;cases hh:KG w with
   | none=>rfl
   | some y=>rw [hh] at this;cases this
  refine⟨.nd (nV2 (.str e) out) (.ptr p 0) (nV2 tV nS),m1,?_,X1.fr b,by rw [Ii,if_neg hwe,A];rfl⟩;simp [rO,C,ko,a,pv,po,H,O,Q,hwe,g1];cases ew;have U:m1.lim<=p:=by rw [X1.lim];exact I
  have f:lo<=m1.nx:=nM b X1.nx;have V:=E.Ig X1 (by omega);have E2:=(Ext.refl X1.ok).new (j5 [iV x]);have W:=V.ext E2;have X:dB (m1.new (j5 [iV x])) (.slice m1.nx 0 1 1) [iV x]:=.inr ⟨m1.nx,0,.inl ⟨1,rfl,aA _⟩,by simp,.inr ⟨1,.nd .e [iV x] .e,by
   rw [Mem.P5 X1.ok,if_pos rfl];rfl,by simp,λi hi=>by
   obtain rfl:i=0:=by simp at hi;omega
   rfl⟩⟩
  have u:(ints l).length=l.length:=by simp [ints]
  obtain⟨g,m3,ga,F,F3⟩:=uD (bytes:=8) E2.ok (by show m1.lim<=lo;omega) (nM f E2.nx) W X rfl (by rw [u];simp at S ⊢;omega) ⟨by omega,by omega⟩;have FF:Fr lo p m m3:=(X1.fr b).trans ((E2.fr f).trans (F3.mono (aA _)));have h3:WS lo0 m3 p ws:=(h1.ext (nM j f) E2).fr F3 j (.inl j);have G:aM lo m3 g (ints (l ++ [x])):=by rw [zL];exact F
  have Z:=λ{β:Type} (p:d9->β) q=>F.vs.aY p q;have T:∀z M L env r,List.length z=1->I8 1 1 z M L env r=ob (lay M L env z) λc=>if c.length=1 then some (.slice r 0 1 1,some (j5 c)) else none:=λz M L env r h=>J3 1 z M L env r h
  have s:∀(R:Option (List Out)),J5 (λenv m k=>rO (l8 KW d (n+2)) d none env m k) N (OZ (.ptr p 0) (.str e) tV g nS) m3 []=R->
    bnd (rO (l8 KW d (n+2)) d none (OZ (.ptr p 0) (.str e) a2 out nS) m []) (QY (J5 (λenv m k=>rO (l8 KW d (n+2)) d none env m k) N))=R:=λR hR=>by
   rw [← hR];simp [rO,C,ko,a,pv,po,Z,H,O,Q,hwe,g1,T,ga]
  have D:Ii e (w::ws)=(Ii e ws).bind λq=>some (x::q.1,q.2):=by rw [Ii,if_neg hwe,hx];rfl
  rcases ih (λy Y=>hw y (by simp [Y])) (l ++ [x]) m3 g tV N FF.ok (by rw [FF.lim];exact I) (nM b FF.nx) h3 G (by simp at S ⊢;omega) (by simp at hN;omega) with⟨env',m4,g4,F4,r4⟩ | ⟨out4,b2,m4,l',t,g4,F4,ho4,h4,r4,r5,r6⟩;exact .inl ⟨env',m4,s _ g4,FF.trans F4,by rw [D,r4];rfl⟩;refine .inr ⟨out4,b2,m4,x::l',t,s _ g4,FF.trans F4,by rw [show l++x::l'=l ++ [x]++l' from by simp];exact ho4,h4,by rw [D,r4];rfl,by simp;omega,λy Y=>by simp [r6 y Y]⟩
theorem Pk {lo:Nat}{m:Mem}{p:Nat}{e:By}{ws:List By}(i:m.Ok)(f:m.lim<=p)(b:lo<=m.nx)(h:WS lo m p ws)(j:∀w∈ws,w.length<1000000)(hb:ws.length<20000)(n a:Nat)(d:20001<=a):
  (∃m',l8 KW a (n+3) (.func 159) [.ptr p 0,.str e] m=some [⟨.aY UN,m'⟩]∧dh p m m'∧Ii e ws=none)∨
  (∃v m' l t,l8 KW a (n+3) (.func 159) [.ptr p 0,.str e] m=some [⟨v,m'⟩]∧dh p m m'∧aM m.nx m' v (ints l)∧WS lo m' p t∧Ii e ws=some (l,t)∧t.length+l.length<=ws.length∧∀w∈t,w∈ws):=by
 have c:=h.1;rcases abl (p:=p) (e:=e) (lo0:=lo) (lo:=m.nx) b n a ws j [] m nS uV a i f (aA _) h (aM.nil _ _) (by simp;omega) (by omega) with⟨env',m1,g,F,r⟩ | ⟨out,a2,m1,l,t,g,F,ho,h1,r,r2,r3⟩;refine .inl ⟨m1,?_,F.Ig (aA _),r⟩;rw [enter (sf:=f159) rfl rfl];simp [f159,g];rw [aaE] at ho;refine .inr ⟨out,m1,l,t,?_,F.Ig (aA _),ho,h1,r,r2,r3⟩;rw [enter (sf:=f159) rfl rfl];simp [f159,g]
theorem KI {w:By}{xs:List Int}{i:Nat}(h:i<xs.length):D7 w (xs.take (i+1))=D7 w (xs.take i)++(32::Lib.itoa xs[i]):=by rw [O4 h,UE]
theorem aeX {m:Mem}{v:d9}{xs:List Int}(t:Y9 m v xs)(hb:xs.length<20000)(e:∀n∈xs,Sm n)(w:By)(A:w.length<=100000)(n b:Nat):∀(j i:Nat),i+j=xs.length->∀(a3 a6:d9) (N:Nat),j+1<=N->
  ∃a6',J5 (λenv m k=>MX (l8 KW b (n+1)) b none env m k) N (Ni v (iV (i:Int)) (iV (xs.length:Int)) a3 v (.str (D7 w (xs.take i))) a6 (.str [])) m []=some [⟨.exit 0,(Ni v (iV (xs.length:Int)) (iV (xs.length:Int)) fV v (.str (D7 w xs)) a6' (.str [])),m,[],none⟩]:=by
 intro j;induction j with
 | zero=>
  intro i p a3 a6 N o;obtain⟨N,rfl⟩:∃k,N=k+1:=⟨N-1,by omega⟩;obtain rfl:i=xs.length:=by omega
  refine⟨a6,?_⟩;rw [l9,aaF (aA _)];simp [MX]
 | succ j ih=>
  intro i p a3 a6 N o;obtain⟨N,rfl⟩:∃k,N=k+1:=⟨N-1,by omega⟩;have a:i<xs.length:=by omega
  obtain⟨id,f,_,h⟩:=t.at a;have d:=e _ (M8 a);have c:=ae7 xs[i] (by unfold Sm at d;omega) (by unfold Sm at d;omega) n b m;have q:=aL w (xs.take i) (λy u=>e y (acF u));have r:=KH d;have s:(xs.take i).length<=20000:=by simp;omega
  have x:eH [32] (Lib.itoa xs[i])=some (.str (32::Lib.itoa xs[i])):=V9 (by simp;omega);have z:eH (D7 w (xs.take i)) (32::Lib.itoa xs[i])=some (.str (D7 w (xs.take (i+1)))):=by rw [KI a];exact V9 (by simp;omega)
  have l:decide ((i:Int)<(xs.length:Int))=true:=by simp;omega
  obtain⟨a6',g⟩:=ih (i+1) (by omega) tV (iV xs[i]) N (by omega);refine⟨a6',?_⟩;rw [l9,← g];simp [MX,l,a,f,h,c,x,z,Z7 (i:=i) (by omega)]
theorem jO {m:Mem}{v:d9}{xs:List Int}(d:Y9 m v xs)(hb:xs.length<20000)(j:∀n∈xs,Sm n)(w:By)(i:w.length<=100000)(n a:Nat)(h:20001<=a):l8 KW a (n+2) (.func 80) [.str w,v] m=some [⟨.str (D7 w xs),m⟩]:=by
 obtain⟨l,g⟩:=aeX d hb j w i n a xs.length 0 (by omega) uV uV a (by omega);have b:=d.len;have e:D7 w (xs.take 0)=w:=by rw [akx,Gg]
 rw [e] at g;have f:J5 (λc m k=>MX (l8 KW a (n+1)) a none c m k) a (Ni v iZ (iV (xs.length:Int)) uV v (.str w) uV (.str [])) m []=_:=g;rw [enter (sf:=f80) rfl rfl];simp [f80,b,f]
noncomputable def axN (xs:List Int):Z6:=.cells 1 xs.length (T.ofList (xs.map λx=>[d9.int .i64 x]))
theorem RU:∀(cells:List d9),rowsOf 1 cells.length cells=some (cells.map ([·]))
 | []=>rfl
 | x::l=>by show ob (takeN 1 (x::l)) (λr=>ob (rowsOf 1 l.length (gQ 1 (x::l))) λrest=>some (r::rest))=_;have e:gQ 1 (x::l)=l:=rfl;rw [e,RU l];rfl
theorem P8 (k:Nat)(z:d9)(ps:List (Nat×Nat×OF))(ls:List d9)(env:T d9)(nid:Nat):I8 1 k [z] ps ls env nid=ob (lay ps ls env (Q8 [z] k)) λcells=>if cells.length=k then some (.slice nid 0 k k,some (.cells 1 k (T.ofList (cells.map ([·]))))) else ob (jR 1 k cells λb=>some (d9.slice nid 0 k k,some b)) some:=by show ob (lay ps ls env (Q8 [z] k)) (λcells=>jR 1 k cells λb=>some (d9.slice nid 0 k k,some b))=_;congr 1;funext cells;split;rename_i h;subst h;show ob (rowsOf 1 cells.length cells) (λa=>some (d9.slice nid 0 cells.length cells.length,some (Z6.cells 1 cells.length (T.ofList a))))=_;rw [RU];rfl;cases jR 1 k cells λb=>some (d9.slice nid 0 k k,some b)<;>rfl
theorem aF (z:List d9):Q8 z 0=[]:=rfl
theorem aG (z:List d9)(n:Nat):Q8 z (n+1)=z++Q8 z n:=by show cZ z (Q8 z n)=_;rw [V8]
theorem fT {m:Mem}{id k:Nat}{xs:List Int}(h:m.get id=some (axN xs))(a:id<m.nx)(c:xs.length=k):Y9 m (.slice id 0 k k) xs:=by subst c;refine .inr ⟨(id,0),.inl ⟨_,rfl⟩,a,.inr ⟨xs.length,_,h,by simp,λi b=>?_⟩⟩;rw [W9,T.bN,acs,cB b];rfl
set_option maxHeartbeats 8000000
theorem aeY {m:Mem}{r:FR}(d:m.Ok)(e:m.lim<=m.nx)(g:∀n∈[r.f.flo,r.f.fhi],Sm n)(n a:Nat)(b:20001<=a):
  l8 KW a (n+3) (.func 148) [.agg r.f.cells] m=some [⟨.str (D7 rR [r.f.flo,r.f.fhi]),ext m [j5 r.f.cells,.cells 1 2 (T.ofList [[iV r.f.flo],[iV r.f.fhi]])]⟩]:=by
 have c:l8 KW a (n+2) (.func 80) [.str [102,105,108,109],.slice (m.nx+1) 0 2 2] (ext m [j5 r.f.cells,.cells 1 2 (T.ofList [[iV r.f.flo],[iV r.f.fhi]])])=some [⟨.str (D7 rR [r.f.flo,r.f.fhi]),ext m [j5 r.f.cells,.cells 1 2 (T.ofList [[iV r.f.flo],[iV r.f.fhi]])]⟩]:=
  jO (xs:=[r.f.flo,r.f.fhi]) (fT (xs:=[r.f.flo,r.f.fhi]) (by rw [l5 d];rfl) (by simp) rfl) (by simp) g rR (by simp [rR]) n a b
 rw [enter (sf:=f148) rfl rfl];simp [f148,bD d e,A8,P8,aG,aF,c]
theorem aeZ {m:Mem}{r:FR}(d:m.Ok)(e:m.lim<=m.nx)(g:∀n∈[r.f.gid,r.f.made,r.f.nom,r.f.tlo,r.f.thi,r.f.gn,r.f.gd,r.f.wear],Sm n)(n a:Nat)(b:20001<=a):
  l8 KW a (n+3) (.func 151) [.agg r.f.cells] m=some [⟨.str (D7 mo [r.f.gid,r.f.made,r.f.nom,r.f.tlo,r.f.thi,r.f.gn,r.f.gd,r.f.wear]),ext m [j5 r.f.cells,j5 [iV r.f.gid,iV r.f.made,iV r.f.nom,iV r.f.tlo,iV r.f.thi,iV r.f.gn,iV r.f.gd,iV r.f.wear],.cells 1 8 (T.ofList [[iV r.f.gid],[iV r.f.made],[iV r.f.nom],[iV r.f.tlo],[iV r.f.thi],[iV r.f.gn],[iV r.f.gd],[iV r.f.wear]])]⟩]:=by
 have c:l8 KW a (n+2) (.func 80) [.str [103,97,117,103,101],.slice (m.nx+2) 0 8 8] (ext m [j5 r.f.cells,j5 [iV r.f.gid,iV r.f.made,iV r.f.nom,iV r.f.tlo,iV r.f.thi,iV r.f.gn,iV r.f.gd,iV r.f.wear],.cells 1 8 (T.ofList [[iV r.f.gid],[iV r.f.made],[iV r.f.nom],[iV r.f.tlo],[iV r.f.thi],[iV r.f.gn],[iV r.f.gd],[iV r.f.wear]])])=some [⟨.str (D7 mo [r.f.gid,r.f.made,r.f.nom,r.f.tlo,r.f.thi,r.f.gn,r.f.gd,r.f.wear]),ext m [j5 r.f.cells,j5 [iV r.f.gid,iV r.f.made,iV r.f.nom,iV r.f.tlo,iV r.f.thi,iV r.f.gn,iV r.f.gd,iV r.f.wear],.cells 1 8 (T.ofList [[iV r.f.gid],[iV r.f.made],[iV r.f.nom],[iV r.f.tlo],[iV r.f.thi],[iV r.f.gn],[iV r.f.gd],[iV r.f.wear]])]⟩]:=
  jO (xs:=[r.f.gid,r.f.made,r.f.nom,r.f.tlo,r.f.thi,r.f.gn,r.f.gd,r.f.wear]) (fT (xs:=[r.f.gid,r.f.made,r.f.nom,r.f.tlo,r.f.thi,r.f.gn,r.f.gd,r.f.wear]) (by rw [l5 d];rfl) (by simp) rfl) (by simp) g mo (by simp [mo]) n a b
 have h:r.f.bJ=[iV r.f.gid,iV r.f.made,iV r.f.nom,iV r.f.tlo,iV r.f.thi,iV r.f.gn,iV r.f.gd,iV r.f.wear]:=rfl;rw [enter (sf:=f151) rfl rfl];simp (maxSteps:=3000000) [f151,dI,fB,gD,bR,cu,aX,bD d e,fJ,aC,bC,aB,A8,P8,aG,aF,G6.bJ,-Nk,c]
theorem af0 {m:Mem}{r:FR}(d:m.Ok)(e:m.lim<=m.nx)(g:∀n∈[r.f.ug,r.f.ud],Sm n)(n a:Nat)(b:20001<=a):
  l8 KW a (n+3) (.func 153) [.agg r.f.cells] m=some [⟨.str (D7 CG [r.f.ug,r.f.ud]),ext m [j5 r.f.cells,.cells 1 2 (T.ofList [[iV r.f.ug],[iV r.f.ud]])]⟩]:=by
 have c:l8 KW a (n+2) (.func 80) [.str [117,115,101],.slice (m.nx+1) 0 2 2] (ext m [j5 r.f.cells,.cells 1 2 (T.ofList [[iV r.f.ug],[iV r.f.ud]])])=some [⟨.str (D7 CG [r.f.ug,r.f.ud]),ext m [j5 r.f.cells,.cells 1 2 (T.ofList [[iV r.f.ug],[iV r.f.ud]])]⟩]:=
  jO (xs:=[r.f.ug,r.f.ud]) (fT (xs:=[r.f.ug,r.f.ud]) (by rw [l5 d];rfl) (by simp) rfl) (by simp) g CG (by simp [CG]) n a b
 rw [enter (sf:=f153) rfl rfl];simp [f153,bD d e,A8,P8,aG,aF,c]
theorem af2 {m:Mem}{r:FR}(d:m.Ok)(e:m.lim<=m.nx)(g:∀n∈[r.f.lg,r.f.ll,r.f.lh,r.f.lw],Sm n)(n a:Nat)(b:20001<=a):
  l8 KW a (n+3) (.func 155) [.agg r.f.cells] m=some [⟨.str (D7 rT [r.f.lg,r.f.ll,r.f.lh,r.f.lw]),ext m [j5 r.f.cells,.cells 1 4 (T.ofList [[iV r.f.lg],[iV r.f.ll],[iV r.f.lh],[iV r.f.lw]])]⟩]:=by
 have c:l8 KW a (n+2) (.func 80) [.str [108,111,97,110],.slice (m.nx+1) 0 4 4] (ext m [j5 r.f.cells,.cells 1 4 (T.ofList [[iV r.f.lg],[iV r.f.ll],[iV r.f.lh],[iV r.f.lw]])])=some [⟨.str (D7 rT [r.f.lg,r.f.ll,r.f.lh,r.f.lw]),ext m [j5 r.f.cells,.cells 1 4 (T.ofList [[iV r.f.lg],[iV r.f.ll],[iV r.f.lh],[iV r.f.lw]])]⟩]:=
  jO (xs:=[r.f.lg,r.f.ll,r.f.lh,r.f.lw]) (fT (xs:=[r.f.lg,r.f.ll,r.f.lh,r.f.lw]) (by rw [l5 d];rfl) (by simp) rfl) (by simp) g rT (by simp [rT]) n a b
 rw [enter (sf:=f155) rfl rfl];simp [f155,bD d e,A8,P8,aG,aF,c]
theorem af3 {m:Mem}{r:FR}(d:m.Ok)(e:m.lim<=m.nx)(g:∀n∈[r.f.tr,r.f.tn],Sm n)(n a:Nat)(b:20001<=a):
  l8 KW a (n+3) (.func 162) [.agg r.f.cells] m=some [⟨.str (D7 dO [r.f.tr,r.f.tn]),ext m [j5 r.f.cells,.cells 1 2 (T.ofList [[iV r.f.tr],[iV r.f.tn]])]⟩]:=by
 have c:l8 KW a (n+2) (.func 80) [.str [119,105,116,104,100,114,97,119],.slice (m.nx+1) 0 2 2] (ext m [j5 r.f.cells,.cells 1 2 (T.ofList [[iV r.f.tr],[iV r.f.tn]])])=some [⟨.str (D7 dO [r.f.tr,r.f.tn]),ext m [j5 r.f.cells,.cells 1 2 (T.ofList [[iV r.f.tr],[iV r.f.tn]])]⟩]:=
  jO (xs:=[r.f.tr,r.f.tn]) (fT (xs:=[r.f.tr,r.f.tn]) (by rw [l5 d];rfl) (by simp) rfl) (by simp) g dO (by simp [dO]) n a b
 rw [enter (sf:=f162) rfl rfl];simp [f162,bD d e,A8,P8,aG,aF,c]
theorem af4 {m:Mem}{r:FR}(d:m.Ok)(j:m.lim<=m.nx)(e:Z4 m r)(hs:r.small=true)(g:Sm r.f.mday)(h:∀n∈r.l,Sm n)(n a:Nat)(b:20001<=a):
  l8 KW a (n+3) (.func 160) [.agg r.f.cells] m=some [⟨.str (D7 vG [r.f.mday]++D7 [] r.l),ext m [j5 r.f.cells,.cells 1 1 (T.ofList [[iV r.f.mday]])]⟩]:=by
 simp only [FR.small,rW,decide_eq_true_eq] at hs;have c:l8 KW a (n+2) (.func 80) [.str [109,105,120],.slice (m.nx+1) 0 1 1] (ext m [j5 r.f.cells,.cells 1 1 (T.ofList [[iV r.f.mday]])])=some [⟨.str (D7 vG [r.f.mday]),ext m [j5 r.f.cells,.cells 1 1 (T.ofList [[iV r.f.mday]])]⟩]:=
  jO (xs:=[r.f.mday]) (fT (xs:=[r.f.mday]) (by rw [l5 d];rfl) (by simp) rfl) (by simp) (by simpa using g) vG (by simp [vG]) n a b
 have i:=jO (e.l.ext (r9 d [j5 r.f.cells,.cells 1 1 (T.ofList [[iV r.f.mday]])])) (by omega) h [] (by simp) n a b;have s:=λ{β:Type} (p:d9->β) q=>e.l.aY p q;have u:bS 100 r.f.L r.f.L=true:=fK e.l 99;have k:=aL vG [r.f.mday] (by simpa using g);have o:=aL [] r.l h;have t:eH (D7 vG [r.f.mday]) (D7 [] r.l)=some (.str (D7 vG [r.f.mday]++D7 [] r.l)):=V9 (by simp [vG] at k o ⊢;omega);rw [enter (sf:=f160) rfl rfl];simp [f160,bD d j,A8,P8,aG,aF,c,i,s,u,t,isVoid,J2,S9]
theorem af5 {m:Mem}{r:FR}(i:m.Ok)(y:m.lim<=m.nx)(e:Z4 m r)(hs:r.small=true)(o:∀n∈[r.f.cday,r.f.diff,r.f.err,r.f.hlo,r.f.hhi],Sm n)(s:∀n∈r.a,Sm n)(t:∀n∈r.b,Sm n)(n d:Nat)(g:20001<=d):
  ∃m',l8 KW d (n+3) (.func 157) [.agg r.f.cells] m=some [⟨.str (D7 U4 [r.f.cday,r.f.diff,r.f.err,r.f.hlo,r.f.hhi]++D7 (32::kA) r.a++D7 (32::kB) r.b),m'⟩]∧Ext m m':=by
 simp only [FR.small,rW,decide_eq_true_eq] at hs;let L:List Z6:=[j5 r.f.cells,j5 r.f.cmp,.cells 1 5 (T.ofList [[iV r.f.cday],[iV r.f.diff],[iV r.f.err],[iV r.f.hlo],[iV r.f.hhi]])]
 have E:=r9 i L;refine⟨ext m L,?_,E⟩;have c:l8 KW d (n+2) (.func 80) [.str [99,111,109,112,97,114,101],.slice (m.nx+2) 0 5 5] (ext m L)=some [⟨.str (D7 U4 [r.f.cday,r.f.diff,r.f.err,r.f.hlo,r.f.hhi]),ext m L⟩]:=
  jO (xs:=[r.f.cday,r.f.diff,r.f.err,r.f.hlo,r.f.hhi]) (fT (xs:=[r.f.cday,r.f.diff,r.f.err,r.f.hlo,r.f.hhi]) (by rw [l5 i];rfl) (by simp [L]) rfl) (by simp) o U4 (by simp [U4]) n d g
 have j:l8 KW d (n+2) (.func 80) [.str [32,97],r.f.A] (ext m L)=some [⟨.str (D7 (32::kA) r.a),ext m L⟩]:=jO (e.a.ext E) (by omega) s (32::kA) (by simp [kA]) n d g;have l:l8 KW d (n+2) (.func 80) [.str [32,98],r.f.B] (ext m L)=some [⟨.str (D7 (32::kB) r.b),ext m L⟩]:=jO (e.b.ext E) (by omega) t (32::kB) (by simp [kB]) n d g;have D:=λ{β:Type} (p:d9->β) q=>e.a.aY p q;have F:=λ{β:Type} (p:d9->β) q=>e.b.aY p q;have I:bS 100 r.f.A r.f.A=true:=fK e.a 99;have J:bS 100 r.f.B r.f.B=true:=fK e.b 99;have w:=e.a.A8;have h:=e.b.A8;have u:=aL U4 [r.f.cday,r.f.diff,r.f.err,r.f.hlo,r.f.hhi] o;have v:=aL (32::kA) r.a s;have z:=aL (32::kB) r.b t;have G:eH (D7 U4 [r.f.cday,r.f.diff,r.f.err,r.f.hlo,r.f.hhi]) (D7 (32::kA) r.a)=some (.str (D7 U4 [r.f.cday,r.f.diff,r.f.err,r.f.hlo,r.f.hhi]++D7 (32::kA) r.a)):=V9 (by simp [U4,kA] at u v ⊢;omega);have H:eH (D7 U4 [r.f.cday,r.f.diff,r.f.err,r.f.hlo,r.f.hhi]++D7 (32::kA) r.a) (D7 (32::kB) r.b)=some (.str (D7 U4 [r.f.cday,r.f.diff,r.f.err,r.f.hlo,r.f.hhi]++D7 (32::kA) r.a++D7 (32::kB) r.b)):=V9 (by simp [U4,kA,kB] at u v z ⊢;omega);have K:r.f.cmp=[iV r.f.cid,iV r.f.cday,r.f.A,r.f.B,iV r.f.diff,iV r.f.err,iV r.f.hlo,iV r.f.hhi]:=rfl;rw [enter (sf:=f157) rfl rfl];have C:I7 r.f.cmp=true:=by simp [G6.cmp,w,h,show ∀k x,A8 (.int k x)=true from λ_ _=>rfl,-G6.aZ]
 simp only [L] at c j l ⊢;simp (maxSteps:=3000000) [f157,dI,fB,gD,bR,cu,aX,bD i y,fJ,aC,bC,aB,P8,aG,aF,C,c,j,l,D,F,I,J,w,h,G,H,isVoid,J2,S9]
theorem aK {M:Mem}{id off:Nat}{c vs:List d9}(b:M.Ok)(a:id<M.nx)(f:M.lim<=id)(e:M.get id=some (j5 c))(i:off+vs.length<=c.length)(h0:0<vs.length)(d:I7 vs=true):
  ∃N,(∀{β:Type} (k:Mem->Option β),storeAt M id off vs k=k N)∧N.get id=some (j5 (c.take off++vs++c.drop (off+vs.length)))∧dh id M N:=by
 refine⟨M.set id (j5 (c.take off++vs++c.drop (off+vs.length))),λk=>?_,by rw [Mem.U6 b a,if_pos rfl],Mem.Ok.set b a _,by simp,rfl,λj h g=>by rw [Mem.U6 b a,if_neg g]⟩;rw [bW f d,e,aB (by omega) (by omega),I9,aCx]
structure RS (lo:Nat)(m:Mem)(p q:Nat)(ws:List By)(h:G6):Prop where
 ok:m.Ok
 lp:m.lim<=p
 lq:m.lim<=q
 pq:p≠q
 qlo:q<lo
 nx:lo<=m.nx
 wk:WS lo m p ws
 cell:m.get q=some (j5 h.cells)
 sh:∀w∈ws,w.length<1000000
 few:ws.length<20000
theorem RS.plo {lo:Nat}{m:Mem}{p q:Nat}{ws:List By}{h:G6}(s:RS lo m p q ws h):p<lo:=s.wk.1
theorem RS.call {lo:Nat}{m a:Mem}{p q:Nat}{ws t:List By}{h:G6}(s:RS lo m p q ws h)(X:dh p m a)(k:WS lo a p t)(c:∀w∈t,w∈ws)(b:t.length<=ws.length):RS lo a p q t h:=
 ⟨X.ok,by rw [X.lim];exact s.lp,by rw [X.lim];exact s.lq,s.pq,s.qlo,nM s.nx X.nx,k,by rw [X.old q (aP s.qlo s.nx) (ajw s.pq)];exact s.cell,λw d=>s.sh w (c w d),Nat.lt_of_le_of_lt b s.few⟩
theorem Pm (f:G6):∀n rows,j5 f.cells≠.cells 1 n rows:=λn rows e=>by have e:Z6.cells (len' f.cells) 1 (.nd .e f.cells .e)=.cells 1 n rows:=e;injection e with e1;rw [K7,G6.len] at e1;cases e1
theorem RS.store {lo:Nat}{m:Mem}{p q off:Nat}{ws:List By}{h h':G6}{vs:List d9}(s:RS lo m p q ws h)(h0:0<vs.length)(d:off+vs.length<=32)(b:I7 vs=true)(c:h.cells.take off++vs++h.cells.drop (off+vs.length)=h'.cells):
  ∃N,(∀{β:Type} (k:Mem->Option β),storeAt m q off vs k=k N)∧RS lo N p q ws h'∧dh q m N:=by
 have f:q<m.nx:=aP s.qlo s.nx;obtain⟨N,i,g,X⟩:=aK (off:=off) (vs:=vs) s.ok f s.lq s.cell (by rw [G6.len];exact d) h0 b;rw [c] at g;refine⟨N,i,⟨X.ok,by rw [X.lim];exact s.lp,by rw [X.lim];exact s.lq,s.pq,s.qlo,nM s.nx X.nx,s.wk.fr (X.fr (lo:=lo) s.nx) (aA _) (.inr ⟨ajw s.pq,λn a e=>?_⟩),g,s.sh,s.few⟩,X⟩;rw [s.cell] at e;exact Pm h n a (su e)
theorem RS.kG {lo lo0:Nat}{m m':Mem}{p q:Nat}{ws:List By}{h:G6}(s:RS lo m p q ws h)(X:dh p m m')(hp:lo0<=p):Fr lo0 lo0 m m':=(X.fr (lo:=lo0) (by have:=s.plo;have:=s.nx;omega)).mono hp
theorem RS.UO {lo lo0:Nat}{m m':Mem}{p q:Nat}{ws:List By}{h:G6}(s:RS lo m p q ws h)(X:dh q m m')(a:lo0<=q):Fr lo0 lo0 m m':=(X.fr (lo:=lo0) (by have:=s.qlo;have:=s.nx;omega)).mono a
def Reads (f:Nat)(n:Nat)(fu:Nat)(m:Mem)(p q lo0 lo:Nat)(ws:List By)(h:G6):Prop:=
 (∃m',l8 KW fu n (.func f) [.ptr p 0,.ptr q 0] m=some [⟨.aY UN,m'⟩]∧Fr lo0 lo0 m m'∧parseBody h ws=none)∨
 (∃m' r t,l8 KW fu n (.func f) [.ptr p 0,.ptr q 0] m=some [⟨.tuple [],m'⟩]∧Fr lo0 lo0 m m'∧RS lo m' p q t r.f∧Z4 m' r∧r.a.length<20000∧r.b.length<20000∧r.l.length<20000∧parseBody h ws=some r.cn)
theorem pb1 {h:G6}(a:h.kind=1)(ws:List By):parseBody h ws=pW rR ws λws=>pN ws λlo ws=>pN ws λhi ws=>some ⟨{h with flo:=lo,fhi:=hi},[],[],[]⟩:=by unfold parseBody;rw [if_pos a]
theorem af6 {m:Mem}{p q lo0 lo:Nat}{ws:List By}{h:G6}(s:RS lo m p q ws h)(k:h.kind=1)(a:lo0<=p)(l:lo0<=q)(u:h.A=nS)(v:h.B=nS)(y:h.L=nS)(E:Z9 h.gn)(id:Z9 h.gd)(r:Z9 h.no)(n j:Nat):Reads 149 (n+4) j m p q lo0 lo ws h:=by
 have c:∀(x:G6),x.A=nS->x.B=nS->x.L=nS->Z9 x.gn->Z9 x.gd->Z9 x.no->∀M,Z4 M ⟨x,[],[],[]⟩:=λx e f g z C D M=>⟨.inl ⟨e,rfl⟩,.inl ⟨f,rfl⟩,.inl ⟨g,rfl⟩,z,C,D⟩;have i:∀(x:G6),x.A=nS->x.B=nS->x.L=nS->(⟨x,[],[],[]⟩:FR).cn=⟨x,[],[],[]⟩:=λx e f g=>by obtain⟨⟩:=x;simp only at e f g;subst e f g;rfl
 rcases uI s.ok s.lp s.wk [102,105,108,109] (n+1) j with⟨m0,g0,X0,r0⟩ | ⟨t0,m0,g0,X0,w0,e0,r0⟩;refine .inl ⟨m0,?_,s.kG X0 a,by rw [pb1 k];exact r0 _ _⟩;rw [enter (sf:=f149) rfl rfl];simp [f149,g0];have b:=s.call X0 w0 (λw o=>by rw [e0];simp [o]) (by rw [e0];simp);have F0:=s.kG (lo0:=lo0) X0 a;rcases Iy b.ok b.lp b.nx b.wk b.sh (n) j with⟨m1,g1,X1,r1⟩ | ⟨vflo,vfhi,x1,y1,t1,m1,g1,X1,w1,e1,i1,j1,r1⟩;refine .inl ⟨m1,?_,F0.trans (b.kG X1 a),by rw [pb1 k];exact (r0 _ _).trans (r1 _ _)⟩;rw [enter (sf:=f149) rfl rfl];simp [f149,g0,g1];have d:=b.call X1 w1 (λw o=>by rw [e1];simp [o]) (by rw [e1];simp<;>omega)
 obtain⟨N1,t,F,Y1⟩:=d.store (off:=4) (vs:=[iV vflo,iV vfhi]) (h':={h with flo:=vflo,fhi:=vfhi}) (by simp) (by simp) rfl rfl;have F1:=(F0.trans (b.kG X1 a)).trans (d.UO Y1 l);refine .inr ⟨N1,⟨{h with flo:=vflo,fhi:=vfhi},[],[],[]⟩,t1,?_,F1,F,c ({h with flo:=vflo,fhi:=vfhi}) u v y E id r _,by simp,by simp,by simp,?_⟩;rw [enter (sf:=f149) rfl rfl];simp [f149,g0,g1,t];rw [pb1 k];exact ((r0 _ _).trans (r1 _ _)).trans (congrArg some (i ({h with flo:=vflo,fhi:=vfhi}) u v y).symm)
theorem pb3 {h:G6}(a:h.kind=3)(ws:List By):parseBody h ws=pW CG ws λws=>pN ws λug ws=>pN ws λud ws=>some ⟨{h with ug:=ug,ud:=ud},[],[],[]⟩:=by unfold parseBody;rw [if_neg (show ¬ h.kind=1 by omega),if_neg (show ¬ h.kind=2 by omega),if_pos a]
theorem af7 {m:Mem}{p q lo0 lo:Nat}{ws:List By}{h:G6}(s:RS lo m p q ws h)(t:h.kind=3)(a:lo0<=p)(e:lo0<=q)(z:h.A=nS)(C:h.B=nS)(D:h.L=nS)(H:Z9 h.gn)(id:Z9 h.gd)(v:Z9 h.no)(n k:Nat):Reads 154 (n+4) k m p q lo0 lo ws h:=by
 have d:∀(x:G6),x.A=nS->x.B=nS->x.L=nS->Z9 x.gn->Z9 x.gd->Z9 x.no->∀M,Z4 M ⟨x,[],[],[]⟩:=λx l o r E F G M=>⟨.inl ⟨l,rfl⟩,.inl ⟨o,rfl⟩,.inl ⟨r,rfl⟩,E,F,G⟩;have u:∀(x:G6),x.A=nS->x.B=nS->x.L=nS->(⟨x,[],[],[]⟩:FR).cn=⟨x,[],[],[]⟩:=λx l o r=>by obtain⟨⟩:=x;simp only at l o r;subst l o r;rfl
 rcases uI s.ok s.lp s.wk [117,115,101] (n+1) k with⟨m0,g0,X0,r0⟩ | ⟨t0,m0,g0,X0,w0,e0,r0⟩;refine .inl ⟨m0,?_,s.kG X0 a,by rw [pb3 t];exact r0 _ _⟩;rw [enter (sf:=f154) rfl rfl];simp [f154,g0];have b:=s.call X0 w0 (λw f=>by rw [e0];simp [f]) (by rw [e0];simp);have F0:=s.kG (lo0:=lo0) X0 a;rcases fO b.ok b.lp b.nx b.wk b.sh (n+1) k with⟨m1,g1,X1,r1⟩ | ⟨vug,x1,t1,m1,g1,X1,w1,e1,_,i1,r1⟩;refine .inl ⟨m1,?_,F0.trans (b.kG X1 a),by rw [pb3 t];exact (r0 _ _).trans (r1 _ _)⟩;rw [enter (sf:=f154) rfl rfl];simp [f154,g0,g1];have g:=b.call X1 w1 (λw f=>by rw [e1];simp [f]) (by rw [e1];simp<;>omega)
 obtain⟨N1,j,c,Y1⟩:=g.store (off:=14) (vs:=[iV vug]) (h':={h with ug:=vug}) (by simp) (by simp) rfl rfl;have F1:=(F0.trans (b.kG X1 a)).trans (g.UO Y1 e);rcases fO c.ok c.lp c.nx c.wk c.sh (n+1) k with⟨m2,g2,X2,r2⟩ | ⟨vud,x2,t2,m2,g2,X2,w2,e2,_,i2,r2⟩;refine .inl ⟨m2,?_,F1.trans (c.kG X2 a),by rw [pb3 t];exact (r0 _ _).trans ((r1 _ _).trans (r2 _ _))⟩;rw [enter (sf:=f154) rfl rfl];simp [f154,g0,g1,g2,j];have i:=c.call X2 w2 (λw f=>by rw [e2];simp [f]) (by rw [e2];simp<;>omega)
 obtain⟨N2,y,I,Y2⟩:=i.store (off:=15) (vs:=[iV vud]) (h':={h with ug:=vug,ud:=vud}) (by simp) (by simp) rfl rfl;have F2:=(F1.trans (c.kG X2 a)).trans (i.UO Y2 e);refine .inr ⟨N2,⟨{h with ug:=vug,ud:=vud},[],[],[]⟩,t2,?_,F2,I,d ({h with ug:=vug,ud:=vud}) z C D H id v _,by simp,by simp,by simp,?_⟩;rw [enter (sf:=f154) rfl rfl];simp [f154,g0,g1,g2,j,y];rw [pb3 t];exact ((r0 _ _).trans ((r1 _ _).trans (r2 _ _))).trans (congrArg some (u ({h with ug:=vug,ud:=vud}) z C D).symm)
theorem pb4 {h:G6}(a:h.kind=4)(ws:List By):parseBody h ws=pW rT ws λws=>pN ws λlg ws=>pN ws λll ws=>pN ws λlh ws=>pN ws λlw ws=>some ⟨{h with lg:=lg,ll:=ll,lh:=lh,lw:=lw},[],[],[]⟩:=by unfold parseBody;rw [if_neg (show ¬ h.kind=1 by omega),if_neg (show ¬ h.kind=2 by omega),if_neg (show ¬ h.kind=3 by omega),if_pos a]
theorem af8 {m:Mem}{p q lo0 lo:Nat}{ws:List By}{h:G6}(s:RS lo m p q ws h)(k:h.kind=4)(a:lo0<=p)(e:lo0<=q)(E:h.A=nS)(F:h.B=nS)(G:h.L=nS)(K:Z9 h.gn)(id:Z9 h.gd)(C:Z9 h.no)(n j:Nat):Reads 156 (n+4) j m p q lo0 lo ws h:=by
 have i:∀(x:G6),x.A=nS->x.B=nS->x.L=nS->Z9 x.gn->Z9 x.gd->Z9 x.no->∀M,Z4 M ⟨x,[],[],[]⟩:=λx u v y H I J M=>⟨.inl ⟨u,rfl⟩,.inl ⟨v,rfl⟩,.inl ⟨y,rfl⟩,H,I,J⟩;have z:∀(x:G6),x.A=nS->x.B=nS->x.L=nS->(⟨x,[],[],[]⟩:FR).cn=⟨x,[],[],[]⟩:=λx u v y=>by obtain⟨⟩:=x;simp only at u v y;subst u v y;rfl
 rcases uI s.ok s.lp s.wk [108,111,97,110] (n+1) j with⟨m0,g0,X0,r0⟩ | ⟨t0,m0,g0,X0,w0,e0,r0⟩;refine .inl ⟨m0,?_,s.kG X0 a,by rw [pb4 k];exact r0 _ _⟩;rw [enter (sf:=f156) rfl rfl];simp [f156,g0];have b:=s.call X0 w0 (λw f=>by rw [e0];simp [f]) (by rw [e0];simp);have F0:=s.kG (lo0:=lo0) X0 a;rcases fO b.ok b.lp b.nx b.wk b.sh (n+1) j with⟨m1,g1,X1,r1⟩ | ⟨vlg,x1,t1,m1,g1,X1,w1,e1,_,i1,r1⟩;refine .inl ⟨m1,?_,F0.trans (b.kG X1 a),by rw [pb4 k];exact (r0 _ _).trans (r1 _ _)⟩;rw [enter (sf:=f156) rfl rfl];simp [f156,g0,g1];have l:=b.call X1 w1 (λw f=>by rw [e1];simp [f]) (by rw [e1];simp<;>omega)
 obtain⟨N1,g,c,Y1⟩:=l.store (off:=16) (vs:=[iV vlg]) (h':={h with lg:=vlg}) (by simp) (by simp) rfl rfl;have F1:=(F0.trans (b.kG X1 a)).trans (l.UO Y1 e);rcases Iy c.ok c.lp c.nx c.wk c.sh (n) j with⟨m2,g2,X2,r2⟩ | ⟨vll,vlh,x2,y2,t2,m2,g2,X2,w2,e2,i2,j2,r2⟩;refine .inl ⟨m2,?_,F1.trans (c.kG X2 a),by rw [pb4 k];exact (r0 _ _).trans ((r1 _ _).trans (r2 _ _))⟩;rw [enter (sf:=f156) rfl rfl];simp [f156,g0,g1,g2,g];have o:=c.call X2 w2 (λw f=>by rw [e2];simp [f]) (by rw [e2];simp<;>omega)
 obtain⟨N2,t,d,Y2⟩:=o.store (off:=17) (vs:=[iV vll,iV vlh]) (h':={h with lg:=vlg,ll:=vll,lh:=vlh}) (by simp) (by simp) rfl rfl;have F2:=(F1.trans (c.kG X2 a)).trans (o.UO Y2 e);rcases fO d.ok d.lp d.nx d.wk d.sh (n+1) j with⟨m3,g3,X3,r3⟩ | ⟨vlw,x3,t3,m3,g3,X3,w3,e3,_,i3,r3⟩;refine .inl ⟨m3,?_,F2.trans (d.kG X3 a),by rw [pb4 k];exact (r0 _ _).trans ((r1 _ _).trans ((r2 _ _).trans (r3 _ _)))⟩;rw [enter (sf:=f156) rfl rfl];simp [f156,g0,g1,g2,g3,g,t];have r:=d.call X3 w3 (λw f=>by rw [e3];simp [f]) (by rw [e3];simp<;>omega)
 obtain⟨N3,D,N,Y3⟩:=r.store (off:=19) (vs:=[iV vlw]) (h':={h with lg:=vlg,ll:=vll,lh:=vlh,lw:=vlw}) (by simp) (by simp) rfl rfl;have F3:=(F2.trans (d.kG X3 a)).trans (r.UO Y3 e);refine .inr ⟨N3,⟨{h with lg:=vlg,ll:=vll,lh:=vlh,lw:=vlw},[],[],[]⟩,t3,?_,F3,N,i ({h with lg:=vlg,ll:=vll,lh:=vlh,lw:=vlw}) E F G K id C _,by simp,by simp,by simp,?_⟩;rw [enter (sf:=f156) rfl rfl];simp [f156,g0,g1,g2,g3,g,t,D];rw [pb4 k];exact ((r0 _ _).trans ((r1 _ _).trans ((r2 _ _).trans (r3 _ _)))).trans (congrArg some (z ({h with lg:=vlg,ll:=vll,lh:=vlh,lw:=vlw}) E F G).symm)
theorem pb7 {h:G6}(a:h.kind=7)(ws:List By):parseBody h ws=pW dO ws λws=>pN ws λtr ws=>pN ws λtn ws=>some ⟨{h with tr:=tr,tn:=tn},[],[],[]⟩:=by unfold parseBody;rw [if_neg (show ¬ h.kind=1 by omega),if_neg (show ¬ h.kind=2 by omega),if_neg (show ¬ h.kind=3 by omega),if_neg (show ¬ h.kind=4 by omega),if_neg (show ¬ h.kind=5 by omega),if_neg (show ¬ h.kind=6 by omega),if_pos a]
theorem af9 {m:Mem}{p q lo0 lo:Nat}{ws:List By}{h:G6}(s:RS lo m p q ws h)(t:h.kind=7)(a:lo0<=p)(e:lo0<=q)(z:h.A=nS)(C:h.B=nS)(D:h.L=nS)(H:Z9 h.gn)(id:Z9 h.gd)(v:Z9 h.no)(n k:Nat):Reads 163 (n+4) k m p q lo0 lo ws h:=by
 have d:∀(x:G6),x.A=nS->x.B=nS->x.L=nS->Z9 x.gn->Z9 x.gd->Z9 x.no->∀M,Z4 M ⟨x,[],[],[]⟩:=λx l o r E F G M=>⟨.inl ⟨l,rfl⟩,.inl ⟨o,rfl⟩,.inl ⟨r,rfl⟩,E,F,G⟩;have u:∀(x:G6),x.A=nS->x.B=nS->x.L=nS->(⟨x,[],[],[]⟩:FR).cn=⟨x,[],[],[]⟩:=λx l o r=>by obtain⟨⟩:=x;simp only at l o r;subst l o r;rfl
 rcases uI s.ok s.lp s.wk [119,105,116,104,100,114,97,119] (n+1) k with⟨m0,g0,X0,r0⟩ | ⟨t0,m0,g0,X0,w0,e0,r0⟩;refine .inl ⟨m0,?_,s.kG X0 a,by rw [pb7 t];exact r0 _ _⟩;rw [enter (sf:=f163) rfl rfl];simp [f163,g0];have b:=s.call X0 w0 (λw f=>by rw [e0];simp [f]) (by rw [e0];simp);have F0:=s.kG (lo0:=lo0) X0 a;rcases fO b.ok b.lp b.nx b.wk b.sh (n+1) k with⟨m1,g1,X1,r1⟩ | ⟨vtr,x1,t1,m1,g1,X1,w1,e1,_,i1,r1⟩;refine .inl ⟨m1,?_,F0.trans (b.kG X1 a),by rw [pb7 t];exact (r0 _ _).trans (r1 _ _)⟩;rw [enter (sf:=f163) rfl rfl];simp [f163,g0,g1];have g:=b.call X1 w1 (λw f=>by rw [e1];simp [f]) (by rw [e1];simp<;>omega)
 obtain⟨N1,j,c,Y1⟩:=g.store (off:=30) (vs:=[iV vtr]) (h':={h with tr:=vtr}) (by simp) (by simp) rfl rfl;have F1:=(F0.trans (b.kG X1 a)).trans (g.UO Y1 e);rcases fO c.ok c.lp c.nx c.wk c.sh (n+1) k with⟨m2,g2,X2,r2⟩ | ⟨vtn,x2,t2,m2,g2,X2,w2,e2,_,i2,r2⟩;refine .inl ⟨m2,?_,F1.trans (c.kG X2 a),by rw [pb7 t];exact (r0 _ _).trans ((r1 _ _).trans (r2 _ _))⟩;rw [enter (sf:=f163) rfl rfl];simp [f163,g0,g1,g2,j];have i:=c.call X2 w2 (λw f=>by rw [e2];simp [f]) (by rw [e2];simp<;>omega)
 obtain⟨N2,y,I,Y2⟩:=i.store (off:=31) (vs:=[iV vtn]) (h':={h with tr:=vtr,tn:=vtn}) (by simp) (by simp) rfl rfl;have F2:=(F1.trans (c.kG X2 a)).trans (i.UO Y2 e);refine .inr ⟨N2,⟨{h with tr:=vtr,tn:=vtn},[],[],[]⟩,t2,?_,F2,I,d ({h with tr:=vtr,tn:=vtn}) z C D H id v _,by simp,by simp,by simp,?_⟩;rw [enter (sf:=f163) rfl rfl];simp [f163,g0,g1,g2,j,y];rw [pb7 t];exact ((r0 _ _).trans ((r1 _ _).trans (r2 _ _))).trans (congrArg some (u ({h with tr:=vtr,tn:=vtn}) z C D).symm)
end Go.Proofs.YtfnlnpllpfhhnaaGreatDoor.TT
