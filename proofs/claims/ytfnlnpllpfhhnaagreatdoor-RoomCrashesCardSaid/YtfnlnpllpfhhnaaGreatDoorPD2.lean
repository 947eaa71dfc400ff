/- Functions of the program and of the specification, walked; conditions: the memory holds what the arguments say. -/
import Derived.Test.YtfnlnpllpfhhnaaGreatDoorPD1
import Derived.Lib.ItoaMem
import Derived.Lib.AtoiAll
import Derived.Lib.Fields
import Derived.Lib.SpaceU
import Derived.Shelf.Strings.FieldsAny
set_option linter.all false
namespace Go.Proofs.YtfnlnpllpfhhnaaGreatDoor.TT
open Go Go.AM
set_option maxRecDepth 100000
set_option maxHeartbeats 2000000
theorem afu (f:G5)(O:Z0 f.gn)(hb:Z0 f.gd)(n h:Nat)(i:20000<=h)(m:Mem)(l:m.Ok)(B:m.lim<=m.nx)(id:Nat)(A:id<m.nx)(P:m.get id=some (l6 f.gu)):
  ∃m',l8 KW h (n+8) (.func 123) [.agg (aS id)] m=some [⟨iV (bif aR f then 0 else 1),m'⟩]∧Ext m m':=by
 rw [enter (sf:=f123) rfl rfl];have b:=Vm (n+6) h 0 0 0 1000000 (ext m [l6 (aS id),l6 [i0]]) (I9 l _);have u:(ext m [l6 (aS id),l6 [i0],l6 [i0,i0]]).get id=some (l6 f.gu):=by rw [P5 l _ A];exact P
 have E2:=C8 l [l6 (aS id),l6 [i0],l6 [i0,i0]];obtain⟨c,t,E3⟩:=afn f O hb (n+3) h i _ (I9 l [l6 (aS id),l6 [i0],l6 [i0,i0]]) (by simp;omega) id (by simp;omega) u;have g:c.get m.nx=some (l6 (aS id)):=by rw [E3.old _ (by simp),j6 l];rfl
 have s:c.get (m.nx+1)=some (l6 [i0]):=by rw [E3.old _ (by simp),l5 l];rfl
 have E23:=E2.trans E3;have R:c.lim<=m.nx:=by rw [E23.lim];exact B
 have V:m.nx+3<=c.nx:=by have:=E3.nx;simpa using this
 have N:c.Ok:=E3.ok;cases hgb:aR f with
 | false=>rw [hgb] at t;refine⟨c.set (m.nx+1) (l6 [iV 1]),?_,E23.set (by omega) (by omega) _⟩;have H:(c.set (m.nx+1) (l6 [iV 1])).get (m.nx+1)=some (l6 [iV 1]):=dN N _ (by omega) rfl;simp only [aS] at b t g ⊢;simp [f123,eO l B,D6,b,t,g,s,Bb (show c.lim<=m.nx+1 by omega),H]
 | true=>
  rw [hgb] at t;have v:c.get id=some (l6 f.gu):=by rw [E3.old _ (by simp;omega)];exact u
  obtain⟨p,a,J,E4⟩:=afo f (n+6) h i c N (by omega) id (by omega) v;have j:a.Ok:=E4.ok;have S:a.lim<=m.nx:=by rw [E4.lim];exact R
  have W:c.nx<=a.nx:=E4.nx;have k:a.get m.nx=some (l6 (aS id)):=by rw [E4.old _ (by omega)];exact g
  have E:a.get (m.nx+1)=some (l6 [i0]):=by rw [E4.old _ (by omega)];exact s
  have K:=afp (n+6) h a j (by omega) id p;have L:∀y I e r D o z,l8 KW h (n+7) (.func 298) [y,.ptr a.nx 0,.ptr (a.nx+2) 0,.ptr (a.nx+1) 0] (ext a [l6 (aS id),l6 [.map p],l6 [.func (.func 295) [] [.ptr (a.nx+1) 0]],.deferred,.loop I e r D o z])=some [⟨.tuple [],ext a [l6 (aS id),l6 [.map p],l6 [.func (.func 295) [] [.ptr (a.nx+1) 0]],.deferred,.loop I e r D o z]⟩]:=λy I e r D o z=>afq (n+6) h i _ id _ _ _ y (by rw [j6 j];rfl)
  have E6:=C8 j [l6 (aS id),l6 [.map p],l6 [.func (.func 295) [] [.ptr (a.nx+1) 0]],.deferred,.dead];have w:(ext a [l6 (aS id),l6 [.map p],l6 [.func (.func 295) [] [.ptr (a.nx+1) 0]],.deferred,.dead]).get m.nx=some (l6 (aS id)):=by rw [E6.old _ (by omega)];exact k
  obtain⟨q,d,M,E7⟩:=aft f (n+2) h i _ (I9 j [l6 (aS id),l6 [.map p],l6 [.func (.func 295) [] [.ptr (a.nx+1) 0]],.deferred,.dead]) (by simp;omega) id (by simp;omega)
   (by rw [P5 j _ (by omega),E4.old _ (by omega)];exact v)
  have E47:=E6.trans E7;have C:d.Ok:=E7.ok;have X:a.nx+5<=d.nx:=by have:=E7.nx;simpa using this
  have U:d.lim<=m.nx:=by rw [E47.lim];exact S
  have x:d.get m.nx=some (l6 (aS id)):=by rw [E47.old _ (by omega)];exact k
  have F:d.get (m.nx+1)=some (l6 [i0]):=by rw [E47.old _ (by omega)];exact E
  have G:d.get (a.nx+3)=some .deferred:=by rw [E7.old _ (by simp),l5 j];rfl
  have E07:=(E23.trans E4).trans E47;refine⟨(d.set (m.nx+1) (l6 [i0])).set (a.nx+3) .dead,?_,(E07.set (by omega) (by omega) _).set (by simp;omega) (by omega) _⟩;have Q:(d.set (m.nx+1) (l6 [i0])).Ok:=C.set (by omega) _;have T:(d.set (m.nx+1) (l6 [i0])).get (a.nx+3)=some .deferred:=by rw [iF C _ (by omega) (by omega)];exact G
  have H:((d.set (m.nx+1) (l6 [i0])).set (a.nx+3) .dead).get (m.nx+1)=some (l6 [i0]):=by rw [iF Q _ (by simp;omega) (by omega)];exact dN C _ (by omega) rfl
  simp only [aS] at b t g J k w K L M x ⊢;simp [f123,eO l B,D6,j6 j,l5 j,r9 j,b,t,g,s,J,k,w,K,L,M,x,F,Bb (show d.lim<=m.nx+1 by omega),aeD,T,H,show sP 2=2 from dM (by decide) (by decide),show sP 0=0 from dM (by decide) (by decide)]
theorem afv {m:Mem}{f:G5}(e:Z0 f.gn)(hb:Z0 f.gd)(a:m.Ok)(g:m.lim<=m.nx)(n b:Nat)(d:20000<=b):
  ∃m',l8 KW b (n+9) (.func 132) [.agg f.cells] m=some [⟨.bool (aR f),m'⟩]∧Ext m m':=by
 rw [enter (sf:=f132) rfl rfl];obtain⟨h,c,E1⟩:=afu f e hb n b d (ext m [l6 f.cells,l6 f.gu]) (I9 a _) (by simp;omega) (m.nx+1) (by simp) (by rw [l5 a];rfl);refine⟨h,?_,(C8 a _).trans E1⟩;simp only [aS] at c;cases hgb:aR f<;>rw [hgb] at c<;>simp [f132,eO a g,D6,dx,c]
@[simp] theorem aGI (f:G5)(h:2<f.gu.length):f.gu[2]'h=iV f.nom:=id rfl
@[simp] theorem aGJ (f:G5)(h:3<f.gu.length):f.gu[3]'h=iV f.tlo:=id rfl
@[simp] theorem aGK (f:G5)(h:4<f.gu.length):f.gu[4]'h=iV f.thi:=id rfl
def xV (f:G5)(a b l:List Int):Bool:=if f.kind=1 then Vp f else if f.kind=2 then aR f else if f.kind=3 then af6 f else if f.kind=4 then Dm f else if f.kind=5 then kF f a b else if f.kind=6 then WW f l else if f.kind=7 then wdB f else false
def Vr (f:G5)(a b l:List Int):Bool:=aL f (aY f) a b l (if f.kind=5 then a else []) (if f.kind=5 then b else []) (if f.kind=6 then l else [])
def mg (f:G5):Bool:=(decide (1<=f.room)&&decide (f.room<=6))&&((decide (1<=f.no)&&decide (f.no<=60))&&(decide (0<=f.known)&&decide (f.known<=1099511627776)))
def jm (f:G5)(a b l:List Int):Bool:=mg f&&(xV f a b l&&Vr f a b l)
theorem K8 (f:GR)(k:d9)(e:d9×d9)(es:List (d9×d9))(i:Nat):findKey f k (e::es) i=ob (f k e.1) λb=>bi b (some (some (i,e.2))) (findKey f k es (i+1)):=rfl
theorem L8 (f:GR)(k:d9)(i:Nat):findKey f k [] i=some none:=rfl
noncomputable def fieldMap:List (d9×d9):=[(iV 1,.agg [.func (.func 129) [] [],.func (.func 131) [] []]),(iV 2,.agg [.func (.func 132) [] [],.func (.func 133) [] []]),(iV 3,.agg [.func (.func 134) [] [],.func (.func 136) [] []]),(iV 4,.agg [.func (.func 137) [] [],.func (.func 138) [] []]),(iV 5,.agg [.func (.func 139) [] [],.func (.func 141) [] []]),(iV 6,.agg [.func (.func 142) [] [],.func (.func 144) [] []]),(iV 7,.agg [.func (.func 145) [] [],.func (.func 146) [] []])]
theorem dz (f:GR)(n:Nat)(zero:d9)(ok:Bool)(mp k:OF)(ls:List d9)(env:T d9)(m:Mem)(id:Nat)(es:List (d9×d9))(h:mp ls env=.map id)(a:m.get id=some (.map es)):
  jF f n zero ok mp k ls env m=ob (dY f n (k ls env) es) λr=>found ok zero r:=by
 show wo (mp ls env) _ _=_;rw [h];show VP (m.get id) _=_;rw [a];rfl
theorem ac0 (n c:Nat)(m:Mem)(d:m.Ok)(b:m.lim<=m.nx):l8 KW c (n+1) (.func 78) [] m=some [⟨.map m.nx,ext m [.map fieldMap]⟩]:=by
 rw [enter (sf:=f78) rfl rfl];have a:Nat.blt m.nx m.lim=false:=by have:=CQ b [];rwa [zA] at this
 simp [f78,eO d b,D6,Ba,a,Nh,uW,Q7,K8,L8,U8,fieldMap]
theorem WY (f:G5):I6 (bC f).cells=true:=rfl
def Al (f:G5)(a b l:List Int):Bool:=aL (aY f) f (if f.kind=5 then a else []) (if f.kind=5 then b else []) (if f.kind=6 then l else []) a b l
theorem axx {m:Mem}{f:G5}{a b l:List Int}(e:m.Ok)(y:m.lim<=m.nx)(A:aX m f a b l)(n i:Nat)(x:20000<=i)(z:Z0 f.gn)(hb:Z0 f.gd)(q:f.kind≠1)(r:f.kind≠2)(s:f.kind≠3)(t:f.kind≠4)(u:f.kind≠5)(v:f.kind≠6)(w:f.kind≠7):∃m',l8 KW i (n+11) (.func 36) [.agg f.cells] m=some [⟨fV,m'⟩]∧Ext m m':=by
 rw [enter (sf:=f36) rfl rfl];have h:=ac0 (n+9) i (ext m [l6 f.cells,.void]) (I9 e _) (by simp;omega);have d:∀(j k:OF) g c,j g c=.map (m.nx+2)->k g c=iV f.kind->jF fU 1 (.agg [.nilFunc,.nilFunc]) true j k g c (ext m [l6 f.cells,.void,.map fieldMap])=some (.tuple [.agg [.nilFunc,.nilFunc],fV]):=by intro j k g c o p;rw [dz _ _ _ _ _ _ _ _ _ _ fieldMap o (by rw [l5 e];rfl),p];simp [fieldMap,Q7,K8,L8,U8,q,r,s,t,u,v,w];rfl
 exact⟨ext m [l6 f.cells,l6 [.nilFunc,.nilFunc],.map fieldMap],by simp [f36,eO e y,D6,h,d,P8,isVoid,ada],C8 e _⟩
theorem vw {m:Mem}{f:G5}{a b l:List Int}(e:m.Ok)(q:m.lim<=m.nx)(u:aX m f a b l)(n j:Nat)(w:20000<=j){A B:FuncId}{P:Bool}
  (v:(ob (dY fU 1 (iV f.kind) fieldMap) λr=>found true (.agg [.nilFunc,.nilFunc]) r)=some (.tuple [.agg [.func (.func A) [] [],.func (.func B) [] []],tV]))
  (N:∀M:Mem,M.Ok->M.lim<=M.nx->aX M f a b l->∃m1,l8 KW j (n+10) (.func A) [.agg f.cells] M=some [⟨.bool P,m1⟩]∧Ext M m1)
  (O:∀(M:Mem) (p:Nat),M.Ok->M.lim<=p->p<M.nx->aX M f a b l->M.get p=some (l6 (bC f).cells)->∃m',l8 KW j (n+10) (.func B) [.ptr p 0,.agg f.cells] M=some [⟨.tuple [],m'⟩]∧m'.Ok∧m'.lim=M.lim∧M.nx<=m'.nx∧(∀i,i<M.nx->i≠p->m'.get i=M.get i)∧m'.get p=some (l6 (aY f).cells)):
  ∃m',l8 KW j (n+11) (.func 36) [.agg f.cells] m=some [⟨.bool (mg f&&(P&&Al f a b l)),m'⟩]∧Ext m m':=by
 rw [enter (sf:=f36) rfl rfl];have d:=ac0 (n+9) j (ext m [l6 f.cells,.void]) (I9 e _) (by simp;omega);have c:∀(C k:OF) t g,C t g=.map (m.nx+2)->k t g=iV f.kind->jF fU 1 (.agg [.nilFunc,.nilFunc]) true C k t g (ext m [l6 f.cells,.void,.map fieldMap])=some (.tuple [.agg [.func (.func A) [] [],.func (.func B) [] []],tV]):=by intro C k t g I J;rw [dz _ _ _ _ _ _ _ _ _ _ fieldMap I (by rw [l5 e];rfl),J];exact v
 have E0:=C8 e [l6 f.cells,l6 [.func (.func A) [] [],.func (.func B) [] []],.map fieldMap];obtain⟨m1,F,E1⟩:=N (ext m [l6 f.cells,l6 [.func (.func A) [] [],.func (.func B) [] []],.map fieldMap]) (I9 e _) (by simp;omega) (u.ext E0);have h:m1.Ok:=E1.ok;have E01:=E0.trans E1;have X:m.nx+3<=m1.nx:=by have:=E1.nx;simpa using this
 have S:m1.lim<=m1.nx:=by rw [E01.lim];omega
 have D:m1.get m.nx=some (l6 f.cells):=by rw [E1.old _ (by simp),j6 e];rfl
 have H:m1.get (m.nx+1)=some (l6 [.func (.func A) [] [],.func (.func B) [] []]):=by rw [E1.old _ (by simp),l5 e];rfl
 have s:(ext m1 [l6 (bC f).cells]).get m.nx=some (l6 f.cells):=by rw [P5 h _ (by omega)];exact D
 have E:(ext m1 [l6 (bC f).cells]).get (m.nx+1)=some (l6 [.func (.func A) [] [],.func (.func B) [] []]):=by rw [P5 h _ (by omega)];exact H
 obtain⟨m2,K,y,z,T,G,V⟩:=O (ext m1 [l6 (bC f).cells]) m1.nx (I9 h _) (by simp;omega) (by simp) ((u.ext E01).ext (C8 h _)) (by rw [j6 h];rfl);have U:m1.nx+1<=m2.nx:=by simpa using T
 have E02:Ext m m2:=⟨y,by omega,by rw [z,zA];exact E01.lim,λi Q=>by rw [G i (by simp;omega) (by omega),P5 h _ (by omega)];exact E01.old i Q⟩;have W:m2.get m.nx=some (l6 f.cells):=by rw [G _ (by simp;omega) (by omega)];exact s
 have o:=u.ext E02;have L:=al3 y (by rw [E02.lim];omega) (af5 o) o (n+7) j w;have R:[d9.int .i64 f.room,iV f.no,iV f.known,iV f.kind,i0,i0,i0,i0,i0,i0,i0,i0,i0,i0,i0,i0,i0,i0,i0,i0,i0,i0,nS,nS,i0,i0,i0,i0,i0,nS,i0,i0]=(bC f).cells:=rfl;have x:=WY f;by_cases h0:(decide (1<=f.room)&&decide (f.room<=6))=true;by_cases h1:(decide (1<=f.no)&&decide (f.no<=60))=true;by_cases h2:(decide (0<=f.known)&&decide (f.known<=1099511627776))=true;cases P with
 | false=>exact⟨m1,by simp [f36,eO e q,D6,d,c,P8,isVoid,ada,cB,Jk,mg,h0,h1,h2,F,D],E01⟩
 | true=>exact⟨_,by simp [f36,eO e q,D6,d,c,P8,isVoid,ada,cB,Jk,mg,xS h S,h0,h1,h2,F,D,H,R,x,s,E,K,W,V,L,Al],E02.trans (C8 y ([l6 (aY f).cells,l6 f.cells,l6 (aY f).cells,(aY f).nm,l6 f.cells,f.nm]++(bif dh (aY f) f then [l6 (aY f).cmp,l6 f.cmp] else [])))⟩
 exact⟨_,by simp [f36,eO e q,D6,d,c,P8,isVoid,ada,cB,Jk,mg,h0,h1,h2],E0⟩;exact⟨_,by simp [f36,eO e q,D6,d,c,P8,isVoid,ada,cB,Jk,mg,h0,h1],E0⟩;exact⟨_,by simp [f36,eO e q,D6,d,c,P8,isVoid,ada,cB,Jk,mg,h0],E0⟩
theorem axy {m:Mem}{f:G5}{a b l:List Int}(s:m.Ok)(r:m.lim<=m.nx)(q:aX m f a b l)(n c:Nat)(h:20000<=c)(t:Z0 f.gn)(hb:Z0 f.gd)(j:f.kind=1):∃m',l8 KW c (n+11) (.func 36) [.agg f.cells] m=some [⟨.bool (mg f&&(Vp f&&Al f a b l)),m'⟩]∧Ext m m':=
 vw s r q n c h (by rw [j];rfl) (λM d e i=>aeY (n+8) c f M d e) λM p d e i k o=>by
  have:=afd (g:=bC f) d e i k o (n+9) c
  rwa [show ({bC f with flo:=f.flo,fhi:=f.fhi}:G5)=aY f by simp [aY,j]] at this
theorem axz {m:Mem}{f:G5}{a b l:List Int}(t:m.Ok)(s:m.lim<=m.nx)(r:aX m f a b l)(n c:Nat)(d:20000<=c)(q:Z0 f.gn)(hb:Z0 f.gd)(j:f.kind=2):∃m',l8 KW c (n+11) (.func 36) [.agg f.cells] m=some [⟨.bool (mg f&&(aR f&&Al f a b l)),m'⟩]∧Ext m m':=
 vw t s r n c d (by rw [j];rfl) (λM e h i=>afv q hb e h (n+1) c d) λM p e h i k o=>by
  have:=afe (g:=bC f) e h i k o (n+9) c
  rwa [show ({bC f with gid:=f.gid,made:=f.made,nom:=f.nom,tlo:=f.tlo,thi:=f.thi,gn:=f.gn,gd:=f.gd,wear:=f.wear}:G5)=aY f by simp [aY,j]] at this
theorem axA {m:Mem}{f:G5}{a b l:List Int}(s:m.Ok)(r:m.lim<=m.nx)(q:aX m f a b l)(n c:Nat)(h:20000<=c)(t:Z0 f.gn)(hb:Z0 f.gd)(j:f.kind=3):∃m',l8 KW c (n+11) (.func 36) [.agg f.cells] m=some [⟨.bool (mg f&&(af6 f&&Al f a b l)),m'⟩]∧Ext m m':=
 vw s r q n c h (by rw [j];rfl) (λM d e i=>aeZ (n+7) c f M d e) λM p d e i k o=>by
  have:=aff (g:=bC f) d e i k o (n+9) c
  rwa [show ({bC f with ug:=f.ug,ud:=f.ud}:G5)=aY f by simp [aY,j]] at this
theorem axB {m:Mem}{f:G5}{a b l:List Int}(s:m.Ok)(r:m.lim<=m.nx)(q:aX m f a b l)(n c:Nat)(h:20000<=c)(t:Z0 f.gn)(hb:Z0 f.gd)(j:f.kind=4):∃m',l8 KW c (n+11) (.func 36) [.agg f.cells] m=some [⟨.bool (mg f&&(Dm f&&Al f a b l)),m'⟩]∧Ext m m':=
 vw s r q n c h (by rw [j];rfl) (λM d e i=>af8 (n+7) c f M d e) λM p d e i k o=>by
  have:=afg (g:=bC f) d e i k o (n+9) c
  rwa [show ({bC f with lg:=f.lg,ll:=f.ll,lh:=f.lh,lw:=f.lw}:G5)=aY f by simp [aY,j]] at this
theorem axC {m:Mem}{f:G5}{a b l:List Int}(s:m.Ok)(r:m.lim<=m.nx)(q:aX m f a b l)(n c:Nat)(d:20000<=c)(t:Z0 f.gn)(hb:Z0 f.gd)(j:f.kind=5):∃m',l8 KW c (n+11) (.func 36) [.agg f.cells] m=some [⟨.bool (mg f&&(kF f a b&&Al f a b l)),m'⟩]∧Ext m m':=
 vw s r q n c d (by rw [j];rfl) (λM e h i=>afa e h i n c d) λM p e h i k o=>by
  have:=afh (g:=bC f) e h i k o (n+9) c
  rwa [show ({bC f with cid:=f.cid,cday:=f.cday,A:=f.A,B:=f.B,diff:=f.diff,err:=f.err,hlo:=f.hlo,hhi:=f.hhi}:G5)=aY f by simp [aY,j]] at this
theorem axD {m:Mem}{f:G5}{a b l:List Int}(s:m.Ok)(r:m.lim<=m.nx)(q:aX m f a b l)(n c:Nat)(d:20000<=c)(t:Z0 f.gn)(hb:Z0 f.gd)(j:f.kind=6):∃m',l8 KW c (n+11) (.func 36) [.agg f.cells] m=some [⟨.bool (mg f&&(WW f l&&Al f a b l)),m'⟩]∧Ext m m':=
 vw s r q n c d (by rw [j];rfl) (λM e h i=>afb e h i (n+6) c d) λM p e h i k o=>by
  have:=afi (g:=bC f) e h i k o (n+9) c
  rwa [show ({bC f with mday:=f.mday,L:=f.L}:G5)=aY f by simp [aY,j]] at this
theorem axE {m:Mem}{f:G5}{a b l:List Int}(s:m.Ok)(r:m.lim<=m.nx)(q:aX m f a b l)(n c:Nat)(i:20000<=c)(t:Z0 f.gn)(hb:Z0 f.gd)(j:f.kind=7):∃m',l8 KW c (n+11) (.func 36) [.agg f.cells] m=some [⟨.bool (mg f&&(wdB f&&Al f a b l)),m'⟩]∧Ext m m':=
 vw s r q n c i (by rw [j];rfl) (λM d e h=>afc d e h (n+8) c) λM p d e h k o=>by
  have:=afj (g:=bC f) d e h k o (n+9) c
  rwa [show ({bC f with tr:=f.tr,tn:=f.tn}:G5)=aY f by simp [aY,j]] at this
theorem U2 {α:Type} [DecidableEq α](x y:α):decide (x=y)=decide (y=x):=by rw [adE];simp [eq_comm]
theorem TG (f g:G5):dh f g=dh g f:=by simp only [dh,U2 f.room g.room,U2 f.no g.no,U2 f.known g.known,U2 f.kind g.kind,U2 f.flo g.flo,U2 f.fhi g.fhi,U2 f.gid g.gid,U2 f.made g.made,U2 f.nom g.nom,U2 f.tlo g.tlo,U2 f.thi g.thi,U2 f.gn g.gn,U2 f.gd g.gd,U2 f.wear g.wear,U2 f.ug g.ug,U2 f.ud g.ud,U2 f.lg g.lg,U2 f.ll g.ll,U2 f.lh g.lh,U2 f.lw g.lw,U2 f.tr g.tr,U2 f.tn g.tn]
theorem TH (f g:G5)(a b l c b' d:List Int):aL f g a b l c b' d=aL g f c b' d a b l:=by simp only [aL,TG f g,lV,U2 f.cid g.cid,U2 f.cday g.cday,U2 f.diff g.diff,U2 f.err g.err,U2 f.hlo g.hlo,U2 f.hhi g.hhi,U2 f.mday g.mday,U2 a c,U2 b b',U2 l d]
theorem ac1 (f:G5)(a b l:List Int):Al f a b l=Vr f a b l:=TH ..
theorem TI {m:Mem}{f:G5}{a b l:List Int}(i:m.Ok)(h:m.lim<=m.nx)(g:aX m f a b l)(n d:Nat)(c:20000<=d)(e:Z0 f.gn)(hb:Z0 f.gd):∃m',l8 KW d (n+11) (.func 36) [.agg f.cells] m=some [⟨.bool (jm f a b l),m'⟩]∧Ext m m':=by unfold jm xV;rw [← ac1];by_cases h1:f.kind=1;rw [if_pos h1];exact axy i h g n d c e hb h1;by_cases h2:f.kind=2;rw [if_neg h1];rw [if_pos h2];exact axz i h g n d c e hb h2;by_cases h3:f.kind=3;rw [if_neg h1];rw [if_neg h2];rw [if_pos h3];exact axA i h g n d c e hb h3;by_cases h4:f.kind=4;rw [if_neg h1];rw [if_neg h2];rw [if_neg h3];rw [if_pos h4];exact axB i h g n d c e hb h4;by_cases h5:f.kind=5;rw [if_neg h1];rw [if_neg h2];rw [if_neg h3];rw [if_neg h4];rw [if_pos h5];exact axC i h g n d c e hb h5;by_cases h6:f.kind=6;rw [if_neg h1];rw [if_neg h2];rw [if_neg h3];rw [if_neg h4];rw [if_neg h5];rw [if_pos h6];exact axD i h g n d c e hb h6;by_cases h7:f.kind=7;rw [if_neg h1];rw [if_neg h2];rw [if_neg h3];rw [if_neg h4];rw [if_neg h5];rw [if_neg h6];rw [if_pos h7];exact axE i h g n d c e hb h7;rw [if_neg h1];rw [if_neg h2];rw [if_neg h3];rw [if_neg h4];rw [if_neg h5];rw [if_neg h6];rw [if_neg h7];rw [Bool.false_and,Bool.and_false];exact axx i h g n d c e hb h1 h2 h3 h4 h5 h6 h7
structure FR where
 f:G5
 a:List Int
 b:List Int
 l:List Int
structure V3 (m:Mem)(r:FR):Prop where
 a:Z8 m r.f.A r.a
 b:Z8 m r.f.B r.b
 l:Z8 m r.f.L r.l
 ga:Z0 r.f.gn
 gb:Z0 r.f.gd
 nb:Z0 r.f.no
theorem V3.ext {m c:Mem}(h:Ext m c){r:FR}(k:V3 m r):V3 c r:=⟨k.a.ext h,k.b.ext h,k.l.ext h,k.ga,k.gb,k.nb⟩
def FR.small (r:FR):Bool:=decide (r.a.length<=9)&&(decide (r.b.length<=9)&&decide (r.l.length<=9))
theorem V3.at {m:Mem}{r:FR}(k:V3 m r)(h:r.small=true):aX m r.f r.a r.b r.l:=by simp only [FR.small,D5,decide_eq_true_eq] at h;exact⟨k.a,k.b,k.l,by omega,by omega,by omega⟩
theorem alb {m:Mem}{r:FR}(c:m.Ok)(k:V3 m r)(n o:Nat):
  l8 KW o (n+1) (.func 7) [.agg r.f.cells] m=some [⟨.bool r.small,ext m [l6 r.f.cells]⟩]:=by
 rw [enter (sf:=f7) rfl rfl];have h:=k.a.len;have i:=k.b.len;have j:=k.l.len;have d:decide (((r.a.length:Nat):Int)<=9)=decide (r.a.length<=9):=by rw [adE];simp;omega
 have e:decide (((r.b.length:Nat):Int)<=9)=decide (r.b.length<=9):=by rw [adE];simp;omega
 have g:decide (((r.l.length:Nat):Int)<=9)=decide (r.l.length<=9):=by rw [adE];simp;omega
 cases h0:decide (r.a.length<=9) with
 | true=>
  cases h1:decide (r.b.length<=9) with
  | true=>
   cases h2:decide (r.l.length<=9) with
   | true=>simp [f7,w9,x9,j6 c,l5 c,r9 c,l9 c,D6,h,i,j,d,e,g,FR.small,h0,h1,h2]
   | false=>simp [f7,w9,x9,j6 c,l5 c,r9 c,l9 c,D6,h,i,j,d,e,g,FR.small,h0,h1,h2]
  | false=>simp [f7,w9,x9,j6 c,l5 c,r9 c,l9 c,D6,h,i,j,d,e,g,FR.small,h0,h1]
 | false=>simp [f7,w9,x9,j6 c,l5 c,r9 c,l9 c,D6,h,i,j,d,e,g,FR.small,h0]
def fJ (m:Mem)(v:d9)(fs:List FR):Prop:=
 (v=nS∧fs=[])∨∃id,((∃c,v=.slice id 0 fs.length c)∨v=.sliceU id 0 fs.length 32)∧id<m.nx∧(fs=[]∨∃c rows,m.get id=some (.cells 32 c rows)∧fs.length<=c∧∀i (h:i<fs.length),rows.get i=some fs[i].f.cells)
theorem fJ.ext {m b:Mem}(h:Ext m b){v:d9}{fs:List FR}(a:fJ m v fs):fJ b v fs:=by rcases a with a | ⟨id,h1,h2,h3⟩;exact .inl a;refine .inr ⟨id,h1,nA h2 h.nx,?_⟩;rcases h3 with h3 | ⟨c,rows,h4,h5,h6⟩;exact .inl h3;exact .inr ⟨c,rows,(h.old id h2).trans h4,h5,h6⟩
theorem fJ.len {m:Mem}{v:d9}{a:List FR}(h:fJ m v a):ze v (some (d9.int .i64 0)) (λ_ _ n _=>some (iV n)) (λ_ _ n _=>some (iV n))=some (iV a.length):=by rcases h with⟨rfl,rfl⟩ | ⟨id,⟨c,rfl⟩ | rfl,_⟩<;>rfl
theorem fJ.cells {m:Mem}{v:d9}{a:List FR}(h:fJ m v a):v.cells=[v]:=by rcases h with⟨rfl,rfl⟩ | ⟨id,⟨c,rfl⟩ | rfl,_⟩<;>rfl
theorem fJ.dD {m:Mem}{v:d9}{b:List FR}(h:fJ m v b){a:Type}(p:d9->a)(q:a):fD v p q=q:=by rcases h with⟨rfl,rfl⟩ | ⟨id,⟨c,rfl⟩ | rfl,_⟩<;>rfl
theorem fJ.at {m:Mem}{v:d9}{b:List FR}(h:fJ m v b){i:Nat}(hi:i<b.length):
  ∃id,ze v none (λid off len _=>idx len (iV i) λk=>some (d9.ptr id (off+k*32))) (λid off len _=>idx len (iV i) λk=>some (d9.ptr id (off+k*32)))=some (.ptr id (i*32))∧id<m.nx∧
   YR (m.get id) (i*32) 32=some (.agg b[i].f.cells)∧ld1 (m.get id) (i*32)=some (iV b[i].f.room)∧ld1 (m.get id) (i*32+1)=some (iV b[i].f.no)∧ld1 (m.get id) (i*32+3)=some (iV b[i].f.kind):=by
 rcases h with⟨_,rfl⟩ | ⟨id,hv,h2,h3⟩;simp at hi;rcases h3 with rfl | ⟨c,rows,h4,h5,h6⟩;simp at hi;have e:=h6 i hi;have d:i<c:=by omega
 refine⟨id,?_,h2,?_,?_,?_,?_⟩;rcases hv with⟨c',rfl⟩ | rfl;simp only [zy];rw [V6 _ _ _ hi];simp;simp only [uS];rw [V6 _ _ _ hi];simp;rw [h4];have a:=uT (rs:=32) (j:=0) (k:=32) (by omega) d e (G5.len _) (by omega);rw [adw] at a;unfold YR;rw [cu,a,I7,adx,adt (by rw [G5.len];omega)];have a:=gU (rs:=32) (j:=0) (by omega) d e;rw [adw] at a;rw [h4,ld1,cu,a];exact G5.c0 _;have a:=gU (rs:=32) (j:=1) (by omega) d e
 skip
 rw [h4,ld1,cu,a];exact G5.c1 _;have a:=gU (rs:=32) (j:=3) (by omega) d e
 skip
 rw [h4,ld1,cu,a];exact G5.c3 _
abbrev By:=List UInt8
def axF (b:UInt8):List By->List By
 | []=>[[b]]
 | w::ws=>(b::w)::ws
def splitB (c:UInt8):By->List By
 | []=>[[]]
 | b::l=>if b=c then []::splitB c l else axF b (splitB c l)
theorem EO (c:UInt8):∀l,∃w ws,splitB c l=w::ws
 | []=>⟨[],[],rfl⟩
 | b::l=>by obtain⟨w,ws,h⟩:=EO c l;by_cases hb:b=c;exact⟨[],w::ws,by rw [splitB,if_pos hb,h]⟩;exact⟨b::w,ws,by rw [splitB,if_neg hb,h];rfl⟩
theorem Bt (c:UInt8):∀(w l h:By) (t:List By),(∀b∈w,b≠c)->splitB c l=h::t->splitB c (w++l)=(w++h)::t
 | [],l,h,t,_,e=>e
 | b::w,l,h,t,hw,e=>by show splitB c (b::(w++l))=_;rw [splitB,if_neg (hw b (by simp)),Bt c w l h t (λx hx=>hw x (by simp [hx])) e];rfl
theorem FX (c:UInt8):∀(ws:List By) (w:By),(∀b∈w,b≠c)->(∀x∈ws,∀b∈x,b≠c)->splitB c (w++(ws.map (c :: ·)).flatten)=w::ws
 | [],w,hw,_=>by have:=Bt c w [] [] [] hw rfl;simpa using this
 | x::ws,w,hw,hs=>by
  have ih:=FX c ws x (hs x (by simp)) (λy hy=>hs y (by simp [hy]));have e:splitB c (c::(x++(ws.map (c :: ·)).flatten))=[]::x::ws:=by rw [splitB,if_pos rfl,ih]
  have:=Bt c w _ _ _ hw e;simpa using this
def Tok (w:By):Prop:=w≠[]∧∀b∈w,33<=b.toNat∧b.toNat<127
theorem Vs {b:UInt8}(h:33<=b.toNat∧b.toNat<127):Lib.isSp b=false:=by
 have a:∀c:UInt8,c.toNat<33->(b==c)=false:=λc d=>by
  cases e:b==c with
  | false=>rfl
  | true=>have e:=eq_of_beq e;rw [e] at h;omega
 unfold Lib.isSp;rw [a 9 (by decide),a 10 (by decide),a 11 (by decide),a 12 (by decide),a 13 (by decide),a 32 (by decide)];rfl
theorem sK:∀(w cur l:By),(∀b∈w,Lib.isSp b=false)->Lib.fieldsGo cur (w++l)=Lib.fieldsGo (cur++w) l
 | [],cur,l,_=>by simp
 | b::w,cur,l,h=>by show Lib.fieldsGo cur (b::(w++l))=_;rw [Lib.fieldsGo_more _ _ _ (h b (by simp)),sK w _ l (λx hx=>h x (by simp [hx]))];simp
theorem xW:∀(ws:List By) (w:By) (s:UInt8) (rest:By),Tok w->(∀x∈ws,Tok x)->Lib.isSp s=true->Lib.fieldsGo [] (w++(ws.map (32 :: ·)).flatten++s::rest)=w::ws++Lib.fieldsGo [] rest
 | [],w,s,rest,hw,_,hs=>by
  have e:w++(([]:List By).map (32 :: ·)).flatten++s::rest=w++(s::rest):=by simp
  rw [e,sK w _ _ (λb hb=>Vs (hw.2 b hb)),adl,Lib.fieldsGo_end _ _ _ hs hw.1];rfl
 | x::ws,w,s,rest,hw,hx,hs=>by
  have e:w++((x::ws).map (32 :: ·)).flatten++s::rest=w++(32::(x++(ws.map (32 :: ·)).flatten++s::rest)):=by simp
  rw [e,sK w _ _ (λb hb=>Vs (hw.2 b hb)),adl,Lib.fieldsGo_end _ _ _ (by decide) hw.1,
   xW ws x s rest (hx x (by simp)) (λy hy=>hx y (by simp [hy])) hs];rfl
theorem ac2 (d:Nat)(h:d<10):(UInt8.ofNat (48+d)).toNat=48+d:=by show (48+d)%256=_;omega
theorem nD (u:Nat):∀b∈Lib.decDigits u,48<=b.toNat∧b.toNat<=57:=by
 induction u using Nat.strongRecOn with
 | _ u ih=>intro b a;rw [Lib.decDigits] at a;split at a;rename_i h;simp only [ql] at a;subst a;rw [ac2 _ h];omega;rename_i h;rcases O4.1 a with a | a;exact ih (u / 10) (by omega) b a;simp only [ql] at a;subst a;rw [ac2 _ (ah5 _ (by omega))];omega
theorem oO (u:Nat):Lib.decDigits u≠[]:=by have a:=Lib.decDigits_length u;have b:=Lib.nDigits_pos u;intro h;rw [h] at a;simp at a;omega
theorem QC (n:Int):∀b∈Lib.itoa n,45<=b.toNat∧b.toNat<=57:=by intro b a;unfold Lib.itoa at a;split at a;rcases O9.1 a with rfl | a;decide;have:=nD _ b a;omega;have:=nD _ b a;omega
theorem Vt (n:Int):Lib.itoa n≠[]:=by unfold Lib.itoa;split;simp;exact oO _
theorem ac3 (n:Int):Tok (Lib.itoa n):=⟨Vt n,λb a=>by have:=QC n b a;omega⟩
theorem Jl:∀(l:By) (acc:Nat) (c:UInt8) (u:Nat),Lib.parseUint10 acc l=.ok u->Lib.parseUint10 acc (l ++ [c])=Lib.parseUint10 u [c]
 | [],acc,c,u,h=>by simp only [Lib.parseUint10] at h;injection h with h;subst h;rfl
 | b::l,acc,c,u,h=>by show Lib.parseUint10 acc (b::(l ++ [c]))=_;rw [Lib.parseUint10] at h ⊢;split at h;rename_i h1;split at h;cases h;rename_i h2;split at h;cases h;rename_i h3;rw [if_pos h1,if_neg h2,if_neg h3,Jl l _ c u h];cases h
theorem Jm (u d:Nat)(a:d<10)(h:u*10+d<18446744073709551616):Lib.parseUint10 u [UInt8.ofNat (48+d)]=.ok (u*10+d):=by rw [Lib.parseUint10,ac2 d a,if_pos (by omega),if_neg (by omega),if_neg (by omega),Lib.parseUint10];congr 1;omega
theorem Jo (u:Nat):u<18446744073709551616->Lib.parseUint10 0 (Lib.decDigits u)=.ok u:=by
 induction u using Nat.strongRecOn with
 | _ u ih=>intro a;rw [Lib.decDigits];split;rename_i h;rw [Jm 0 u h (by omega)];congr 1;omega;rename_i h;rw [Jl _ _ _ _ (ih (u / 10) (by omega) (by omega)),Jm _ _ (ah5 _ (by omega)) (by omega)];congr 1;omega
theorem EP {n:Int}(h0:-9223372036854775808<=n)(d:n<9223372036854775808):Lib.atoiAll (Lib.itoa n)=.ok n:=by
 unfold Lib.itoa;split;rename_i h;have e:Lib.parseMag (Lib.decDigits n.natAbs)=.ok n.natAbs:=by rw [Lib.parseMag,if_neg (oO _),Jo _ (by omega)]
 have a:(45:UInt8).toNat=45:=rfl;simp only [Lib.atoiAll,a,or_true,if_true,e];rw [if_neg (by simp),if_neg (by simp;omega)];simp;omega;rename_i h;have e:Lib.parseMag (Lib.decDigits n.toNat)=.ok n.toNat:=by rw [Lib.parseMag,if_neg (oO _),Jo _ (by omega)]
 cases hd:Lib.decDigits n.toNat with
 | nil=>exact absurd hd (oO _)
 | cons c r=>
  have f:=nD n.toNat c (by rw [hd];simp);rw [hd] at e;have b:¬ (c.toNat=43∨c.toNat=45):=by omega
  have a:¬ c.toNat=45:=by omega
  simp only [Lib.atoiAll,if_neg b,e];rw [if_neg (by omega),if_neg (by omega),if_neg a];congr 1;omega
def Bu (acc:Nat):By->Nat
 | []=>acc
 | b::l=>Bu (if 48<=b.toNat∧b.toNat<=57 then 10*acc+(b.toNat-48) else acc) l
def afw (s:By):Int:=if s.head?=some 45 then -(Bu 0 (s.take 18):Nat) else (Bu 0 (s.take 18):Nat)
theorem QD:∀(l m:By) (acc:Nat),Bu acc (l++m)=Bu (Bu acc l) m
 | [],m,acc=>rfl
 | b::l,m,acc=>by show Bu acc (b::(l++m))=_;rw [Bu,Bu,QD l m]
theorem QE (u:Nat):Bu 0 (Lib.decDigits u)=u:=by
 induction u using Nat.strongRecOn with
 | _ u ih=>rw [Lib.decDigits];split;rename_i h;rw [Bu,Bu,ac2 _ h,if_pos (by omega)];omega;rename_i h;have a:=ah5 u (show 0<10 by omega);rw [QD,ih (u / 10) (by omega),Bu,Bu,ac2 _ a,if_pos (by omega)];omega
theorem qx:∀(k u:Nat),u<10^(k+1)->Lib.nDigits u<=k+1
 | 0,u,h=>by rw [Lib.nDigits_small (by simpa using h)];omega
 | k+1,u,h=>by by_cases hu:u<10;rw [Lib.nDigits_small hu];omega;rw [azz] at h;have:=qx k (u / 10) (by omega);rw [Lib.nDigits_big hu];omega
theorem WZ {n:Int}(h0:-100000000000000000<n)(d:n<100000000000000000):afw (Lib.itoa n)=n:=by
 have a:(10:Nat)^17=100000000000000000:=by decide
 unfold Lib.itoa;split;rename_i h;have b:(Lib.decDigits n.natAbs).length<=17:=by rw [Lib.decDigits_length];exact qx 16 _ (by rw [a];omega)
 unfold afw;rw [if_pos (show (45::Lib.decDigits n.natAbs).head?=some 45 from rfl),adt (by simp;omega),Bu];have:¬ (48<=(45:UInt8).toNat∧(45:UInt8).toNat<=57):=by decide
 rw [if_neg this,QE];omega;rename_i h;have b:(Lib.decDigits n.toNat).length<=17:=by rw [Lib.decDigits_length];exact qx 16 _ (by rw [a];omega)
 unfold afw;rw [if_neg,adt (by omega),QE];omega;cases hd:Lib.decDigits n.toNat with
 | nil=>simp
 | cons c r=>have e:=nD n.toNat c (by rw [hd];simp);simp;rintro rfl;have:(45:UInt8).toNat=45:=rfl;omega
def J9:By:=[102,97,99,116]
def vQ:By:=[102,105,108,109]
def ou:By:=[103,97,117,103,101]
def Gq:By:=[117,115,101]
def vR:By:=[108,111,97,110]
def bI:By:=[99,111,109,112,97,114,101]
def zR:By:=[109,105,120]
def fq:By:=[119,105,116,104,100,114,97,119]
def kA:By:=[97]
def kB:By:=[98]
def G7 (w:By)(l:List Int):By:=w++(l.map λn=>32::Lib.itoa n).flatten
theorem LG (w:By):G7 w []=w:=by simp [G7]
theorem TJ (w:By)(l:List Int)(n:Int):G7 w (l ++ [n])=G7 w l++(32::Lib.itoa n):=by simp [G7]
theorem TK (w:By)(n:Int)(l:List Int):G7 w (n::l)=G7 (w++(32::Lib.itoa n)) l:=by simp [G7]
def H7 (r:FR):List Int:=[r.f.room,r.f.no,r.f.known,r.f.kind]
def Z4 (r:FR):By:=
 if r.f.kind=1 then G7 vQ [r.f.flo,r.f.fhi]
 else if r.f.kind=2 then G7 ou [r.f.gid,r.f.made,r.f.nom,r.f.tlo,r.f.thi,r.f.gn,r.f.gd,r.f.wear]
 else if r.f.kind=3 then G7 Gq [r.f.ug,r.f.ud]
 else if r.f.kind=4 then G7 vR [r.f.lg,r.f.ll,r.f.lh,r.f.lw]
 else if r.f.kind=5 then G7 bI [r.f.cday,r.f.diff,r.f.err,r.f.hlo,r.f.hhi]++G7 (32::kA) r.a++G7 (32::kB) r.b
 else if r.f.kind=6 then G7 zR [r.f.mday]++G7 [] r.l
 else if r.f.kind=7 then G7 fq [r.f.tr,r.f.tn]
 else []
def D8 (r:FR):By:=G7 J9 (H7 r) ++ [10]++Z4 r ++ [10]
def gX (l:List Int):List By:=l.map Lib.itoa
def lJ (r:FR):By×List By:=
 if r.f.kind=1 then (vQ,gX [r.f.flo,r.f.fhi])
 else if r.f.kind=2 then (ou,gX [r.f.gid,r.f.made,r.f.nom,r.f.tlo,r.f.thi,r.f.gn,r.f.gd,r.f.wear])
 else if r.f.kind=3 then (Gq,gX [r.f.ug,r.f.ud])
 else if r.f.kind=4 then (vR,gX [r.f.lg,r.f.ll,r.f.lh,r.f.lw])
 else if r.f.kind=5 then (bI,gX [r.f.cday,r.f.diff,r.f.err,r.f.hlo,r.f.hhi]++kA::(gX r.a++kB::gX r.b))
 else if r.f.kind=6 then (zR,gX (r.f.mday::r.l))
 else if r.f.kind=7 then (fq,gX [r.f.tr,r.f.tn])
 else ([],[])
theorem fO (w:By)(l:List Int):G7 w l=w++((gX l).map (32 :: ·)).flatten:=by simp only [G7,gX,aCq];rfl
theorem Jp (r:FR):Z4 r=(lJ r).1++((lJ r).2.map (32 :: ·)).flatten:=by unfold Z4 lJ;by_cases h1:r.f.kind=1;simp only [if_pos h1,fO];by_cases h2:r.f.kind=2;simp only [if_neg h1,if_pos h2,fO];by_cases h3:r.f.kind=3;simp only [if_neg h1,if_neg h2,if_pos h3,fO];by_cases h4:r.f.kind=4;simp only [if_neg h1,if_neg h2,if_neg h3,if_pos h4,fO];by_cases h5:r.f.kind=5;simp only [if_neg h1,if_neg h2,if_neg h3,if_neg h4,if_pos h5,fO];simp;by_cases h6:r.f.kind=6;simp only [if_neg h1,if_neg h2,if_neg h3,if_neg h4,if_neg h5,if_pos h6,fO];simp [gX];by_cases h7:r.f.kind=7;simp only [if_neg h1,if_neg h2,if_neg h3,if_neg h4,if_neg h5,if_neg h6,if_pos h7,fO];simp only [if_neg h1,if_neg h2,if_neg h3,if_neg h4,if_neg h5,if_neg h6,if_neg h7];rfl
theorem fA (l:List Int):∀x∈gX l,Tok x:=λx a=>by obtain⟨n,_,rfl⟩:=adM.1 a;exact ac3 n
theorem lK {w:By}(h:(!w.isEmpty&&w.all λb=>decide (33<=b.toNat)&&decide (b.toNat<127))=true):Tok w:=by simp only [D5,adz,decide_eq_true_eq] at h;exact⟨by rintro rfl;simp at h,h.2⟩
theorem LH:Tok J9:=lK (by decide)
theorem alc:Tok kA:=lK (by decide)
theorem ald:Tok kB:=lK (by decide)
def kindOk (r:FR):Prop:=1<=r.f.kind∧r.f.kind<=7
theorem LJ {r:FR}(b:kindOk r):Tok (lJ r).1∧∀x∈(lJ r).2,Tok x:=by unfold lJ;obtain⟨c,d⟩:=b;by_cases h1:r.f.kind=1;simp only [if_pos h1];exact⟨lK (by decide),fA _⟩;by_cases h2:r.f.kind=2;simp only [if_neg h1,if_pos h2];exact⟨lK (by decide),fA _⟩;by_cases h3:r.f.kind=3;simp only [if_neg h1,if_neg h2,if_pos h3];exact⟨lK (by decide),fA _⟩;by_cases h4:r.f.kind=4;simp only [if_neg h1,if_neg h2,if_neg h3,if_pos h4];exact⟨lK (by decide),fA _⟩;by_cases h5:r.f.kind=5;simp only [if_neg h1,if_neg h2,if_neg h3,if_neg h4,if_pos h5];refine⟨lK (by decide),λx a=>?_⟩;rcases O4.1 a with a | a;exact fA _ x a;rcases O9.1 a with rfl | a;exact alc;rcases O4.1 a with a | a;exact fA _ x a;rcases O9.1 a with rfl | a;exact ald;exact fA _ x a;by_cases h6:r.f.kind=6;simp only [if_neg h1,if_neg h2,if_neg h3,if_neg h4,if_neg h5,if_pos h6];exact⟨lK (by decide),fA _⟩;by_cases h7:r.f.kind=7;simp only [if_neg h1,if_neg h2,if_neg h3,if_neg h4,if_neg h5,if_neg h6,if_pos h7];exact⟨lK (by decide),fA _⟩;omega
def Vu (r:FR):List By:=J9::gX (H7 r)++(lJ r).1::(lJ r).2
theorem QF {r:FR}(c:kindOk r):Lib.fields (D8 r)=Vu r:=by
 obtain⟨d,f⟩:=LJ c;have a:=xW (gX (H7 r)) J9 10 ((lJ r).1++((lJ r).2.map (32 :: ·)).flatten++10 :: []) LH (fA _) (by decide);have b:=xW (lJ r).2 (lJ r).1 10 [] d f (by decide);have e:D8 r=J9++((gX (H7 r)).map (32 :: ·)).flatten++10::((lJ r).1++((lJ r).2.map (32 :: ·)).flatten++10 :: []):=by rw [D8,Jp,fO];simp
 rw [Lib.fields,e,a,b];simp [Vu,Lib.fieldsGo]
theorem ac4 {ws:List By}(h:∀x∈ws,Tok x):∀b∈(ws.map (32 :: ·)).flatten,b.toNat<128∧b≠10:=λb a=>by obtain⟨l,d,c⟩:=List.mem_flatten.1 a;obtain⟨w,e,rfl⟩:=adM.1 d;rcases O9.1 c with rfl | a;decide;have:=(h w e).2 b a;exact⟨by omega,by rintro rfl;exact absurd this.1 (by decide)⟩
theorem TL {w:By}(h:Tok w){c:UInt8}(d:c.toNat<33):∀b∈w,b≠c:=λb a e=>by have:=(h.2 b a).1;rw [e] at this;omega
theorem Vv {w:By}{ws:List By}(c:Tok w)(h:∀x∈ws,Tok x):∀b∈w++(ws.map (32 :: ·)).flatten,b.toNat<128∧b≠10:=λb a=>by rcases O4.1 a with a | a;exact⟨by have:=c.2 b a;omega,TL c (by decide) b a⟩;exact ac4 h b a
theorem Xa (r:FR):G7 J9 (H7 r)=J9++((gX (H7 r)).map (32 :: ·)).flatten:=fO _ _
theorem TM {r:FR}(d:kindOk r):∀b∈D8 r,b.toNat<128:=λb a=>by
 obtain⟨e,f⟩:=LJ d;rw [D8,Jp,Xa] at a;have c:(10:UInt8).toNat<128:=by decide
 simp only [O4,ql] at a;rcases a with ((a | rfl) | a) | rfl;exact (Vv LH (fA _) b (O4.2 a)).1;exact c;exact (Vv e f b (O4.2 a)).1;exact c
set_option maxHeartbeats 4000000
def FR.cn (r:FR):FR:=⟨{r.f with A:=nS,B:=nS,L:=nS},r.a,r.b,r.l⟩
abbrev FR.valid (r:FR):Bool:=jm r.f r.a r.b r.l
theorem ac5 (f:G5)(A B L:d9)(a b l:List Int):xV {f with A:=A,B:=B,L:=L} a b l=xV f a b l:=by unfold xV Vp aR af6 Dm kF WW wdB;rfl
theorem afx {f g f' g':G5}(d:{f with A:=nS,B:=nS,L:=nS}=({f' with A:=nS,B:=nS,L:=nS}:G5))
  (e:{g with A:=nS,B:=nS,L:=nS}=({g' with A:=nS,B:=nS,L:=nS}:G5)) (a b l c b' l':List Int):
  aL f g a b l c b' l'=aL f' g' a b l c b' l':=by
 obtain⟨f1,f2,f3,f4,f5,f6,f7,f8,f9,h,i,j,k,m,n,o,p,q,r,s,t,u,A,B,v,w,x,y,z,L,C,D⟩:=f;obtain⟨g1,g2,g3,g4,g5,g6,g7,g8,g9,E,F,G,H,I,J,K,M,N,O,P,Q,R,A',B',S,T,U,V,W,L',X,Y⟩:=g;obtain⟨p1,p2,p3,p4,p5,p6,p7,p8,p9,Z,a0,a1,a2,a3,a4,a5,a6,a7,a8,a9,aa,ab,A2,B2,ac,ad,ae,af,ag,L2,ah,ai⟩:=f';obtain⟨q1,q2,q3,q4,q5,q6,q7,q8,q9,aj,ak,al,am,an,ao,ap,aq,ar,au,av,aw,ax,A3,B3,ay,az,b0,b1,b2,L3,b3,b4⟩:=g';simp only [G5.mk.injEq,true_and,and_true] at d e;obtain⟨rfl,rfl,rfl,rfl,rfl,rfl,rfl,rfl,rfl,rfl,rfl,rfl,rfl,rfl,rfl,rfl,rfl,rfl,rfl,rfl,rfl,rfl,rfl,rfl,rfl,rfl,rfl,rfl,rfl⟩:=d;obtain⟨rfl,rfl,rfl,rfl,rfl,rfl,rfl,rfl,rfl,rfl,rfl,rfl,rfl,rfl,rfl,rfl,rfl,rfl,rfl,rfl,rfl,rfl,rfl,rfl,rfl,rfl,rfl,rfl,rfl⟩:=e;unfold aL dh lV;rfl
theorem afy (f:G5):({aY {f with A:=nS,B:=nS,L:=nS} with A:=nS,B:=nS,L:=nS}:G5)={aY f with A:=nS,B:=nS,L:=nS}:=by unfold aY;simp only;by_cases h1:f.kind=1;simp only [if_pos h1];rfl;by_cases h2:f.kind=2;simp only [if_neg h1,if_pos h2];rfl;by_cases h3:f.kind=3;simp only [if_neg h1,if_neg h2,if_pos h3];rfl;by_cases h4:f.kind=4;simp only [if_neg h1,if_neg h2,if_neg h3,if_pos h4];rfl;by_cases h5:f.kind=5;simp only [if_neg h1,if_neg h2,if_neg h3,if_neg h4,if_pos h5];rfl;by_cases h6:f.kind=6;simp only [if_neg h1,if_neg h2,if_neg h3,if_neg h4,if_neg h5,if_pos h6];rfl;by_cases h7:f.kind=7;simp only [if_neg h1,if_neg h2,if_neg h3,if_neg h4,if_neg h5,if_neg h6,if_pos h7];rfl;simp only [if_neg h1,if_neg h2,if_neg h3,if_neg h4,if_neg h5,if_neg h6,if_neg h7];rfl
theorem fK (r:FR):r.cn.valid=r.valid:=by show jm _ r.a r.b r.l=jm _ r.a r.b r.l;unfold jm Vr;refine congr (congrArg _ (show mg _=mg _ from rfl)) (congr (congrArg _ (ac5 r.f _ _ _ _ _ _)) ?_);exact afx rfl (afy r.f) _ _ _ _ _ _
theorem Dn (r:FR):D8 r.cn=D8 r:=rfl
theorem qy {r:FR}(h:r.valid=true):kindOk r:=by simp only [FR.valid,jm,xV,D5] at h;obtain⟨_,h,_⟩:=h;unfold kindOk;by_cases h1:r.f.kind=1;omega;by_cases h2:r.f.kind=2;omega;by_cases h3:r.f.kind=3;omega;by_cases h4:r.f.kind=4;omega;by_cases h5:r.f.kind=5;omega;by_cases h6:r.f.kind=6;omega;by_cases h7:r.f.kind=7;omega;rw [if_neg h1,if_neg h2,if_neg h3,if_neg h4,if_neg h5,if_neg h6,if_neg h7] at h;cases h
def Sm (n:Int):Prop:=-1125899906842624<=n∧n<=1125899906842624
theorem NI {xs:List Int}(h:bg (okB xs) xs.length 0=true):∀n∈xs,Sm n:=by
 have a:∀(j i:Nat),bg (okB xs) j i=true->∀t,i<=t->t<i+j->okB xs t=true:=by
  intro j;induction j with
  | zero=>intro i _ t b c;omega
  | succ j ih=>intro i h t b c;simp only [bg,D5] at h;by_cases ht:t=i;subst ht;exact h.1;exact ih (i+1) h.2 t (by omega) (by omega)
 intro n e;obtain⟨i,d,rfl⟩:=ajk e;have:=a _ _ h i (by omega) (by omega);simp only [okB,D5,decide_eq_true_eq,uU d] at this;unfold Sm;omega
theorem oP {r:FR}(h:r.valid=true):∀n∈H7 r,Sm n:=by have b:=qy h;simp only [FR.valid,jm,mg,D5,decide_eq_true_eq] at h;unfold kindOk at b;intro n a;simp only [H7,O9,akZ,or_false] at a;unfold Sm;rcases a with rfl | rfl | rfl | rfl<;>omega
structure ale (r:FR):Prop where
 k1:r.f.kind=1->Sm r.f.flo∧Sm r.f.fhi
 k2:r.f.kind=2->Sm r.f.gid∧Sm r.f.made∧Sm r.f.nom∧Sm r.f.tlo∧Sm r.f.thi∧Sm r.f.gn∧Sm r.f.gd∧Sm r.f.wear
 k3:r.f.kind=3->Sm r.f.ug∧Sm r.f.ud
 k4:r.f.kind=4->Sm r.f.lg∧Sm r.f.ll∧Sm r.f.lh∧Sm r.f.lw
 k5:r.f.kind=5->(Sm r.f.cday∧Sm r.f.diff∧Sm r.f.err∧Sm r.f.hlo∧Sm r.f.hhi)∧(∀n∈r.a,Sm n)∧(∀n∈r.b,Sm n)∧r.a.length<=6∧r.b.length<=6
 k6:r.f.kind=6->Sm r.f.mday∧(∀n∈r.l,Sm n)∧r.l.length<=5
 k7:r.f.kind=7->Sm r.f.tr∧Sm r.f.tn
theorem nE {r:FR}(h:r.valid=true):ale r:=by simp only [FR.valid,jm,xV,D5] at h;obtain⟨_,h,_⟩:=h;refine⟨λa=>?_,λa=>?_,λa=>?_,λa=>?_,λa=>?_,λa=>?_,λa=>?_⟩;rw [if_pos a] at h;simp only [Vp,D5,decide_eq_true_eq] at h;unfold Sm;omega;rw [if_neg (by omega),if_pos a] at h;simp only [aR,NH,D5,decide_eq_true_eq] at h;unfold Sm;omega;rw [if_neg (by omega),if_neg (by omega),if_pos a] at h;simp only [af6,D5,decide_eq_true_eq] at h;unfold Sm;omega;rw [if_neg (by omega),if_neg (by omega),if_neg (by omega),if_pos a] at h;simp only [Dm,D5,decide_eq_true_eq] at h;unfold Sm;omega;rw [if_neg (by omega),if_neg (by omega),if_neg (by omega),if_neg (by omega),if_pos a] at h;simp only [kF,xU,D5,decide_eq_true_eq] at h;obtain⟨b,d,e,c,k,⟨f,g⟩,i,j⟩:=h;exact⟨by unfold Sm;omega,NI f,NI i,g,j⟩;rw [if_neg (by omega),if_neg (by omega),if_neg (by omega),if_neg (by omega),if_neg (by omega),if_pos a] at h;simp only [WW,D5,decide_eq_true_eq] at h;obtain⟨b,d,e,c⟩:=h;exact⟨by unfold Sm;omega,NI b,c⟩;rw [if_neg (by omega),if_neg (by omega),if_neg (by omega),if_neg (by omega),if_neg (by omega),if_neg (by omega),if_pos a] at h;simp only [wdB,D5,decide_eq_true_eq] at h;unfold Sm;omega
def vS (r:FR):FR:=⟨aY r.f,if r.f.kind=5 then r.a else [],if r.f.kind=5 then r.b else [],if r.f.kind=6 then r.l else []⟩
theorem afz {f g:G5}(h:dh f g=true)(U:f.cid=g.cid∧f.cday=g.cday∧f.diff=g.diff∧f.err=g.err∧f.hlo=g.hlo∧f.hhi=g.hhi)(V:f.mday=g.mday):
  ({f with A:=nS,B:=nS,L:=nS}:G5)={g with A:=nS,B:=nS,L:=nS}:=by
 obtain⟨W,X,Y,Z,f5,f6,f7,f8,f9,a,b,c,d,e,i,j,k,l,m,n,o,p,A,B,q,r,s,t,u,L,v,w⟩:=f;obtain⟨g1,g2,g3,g4,g5,g6,g7,g8,g9,x,y,z,C,D,E,F,G,H,I,J,K,M,A',B',N,O,P,Q,R,L',S,T⟩:=g;simp only [dh,D5,decide_eq_true_eq] at h;obtain⟨⟨rfl,rfl⟩,rfl,rfl,⟨rfl,rfl⟩,⟨rfl,rfl,rfl,rfl,rfl,rfl,rfl,rfl⟩,⟨rfl,rfl⟩,⟨rfl,rfl,rfl,rfl⟩,rfl,rfl⟩:=h;obtain⟨rfl,rfl,rfl,rfl,rfl,rfl⟩:=U;obtain rfl:=V;rfl
theorem Vw {r s:FR}:aL r.f s.f r.a r.b r.l s.a s.b s.l=true↔r.cn=s.cn:=by
 constructor;intro h;simp only [aL,lV,D5,decide_eq_true_eq] at h;obtain⟨h1,⟨j,k,m,n,o,p,q,t⟩,h3,h4⟩:=h;unfold FR.cn;rw [afz h1 ⟨j,k,m,n,o,p⟩ h3,q,t,h4];intro h;have c:r.cn.f=s.cn.f:=by rw [h]
 have d:r.a=s.a:=by have:r.cn.a=s.cn.a:=by rw [h]
                    exact this
 have e:r.b=s.b:=by have:r.cn.b=s.cn.b:=by rw [h]
                    exact this
 have i:r.l=s.l:=by have:r.cn.l=s.cn.l:=by rw [h]
                    exact this
 obtain⟨f,a,b,l⟩:=r;obtain⟨g,a',b',l'⟩:=s;obtain⟨f1,f2,f3,f4,f5,f6,f7,f8,f9,u,v,w,x,y,z,C,D,E,F,G,H,I,A,B,J,K,M,N,O,L,P,Q⟩:=f;obtain⟨g1,g2,g3,g4,g5,g6,g7,g8,g9,R,S,T,U,V,W,X,Y,Z,a0,a1,a2,a3,A',B',a4,a5,a6,a7,a8,L',a9,aa⟩:=g;simp only [FR.cn,G5.mk.injEq,true_and,and_true] at c;simp only at d e i;subst d e i;obtain⟨rfl,rfl,rfl,rfl,rfl,rfl,rfl,rfl,rfl,rfl,rfl,rfl,rfl,rfl,rfl,rfl,rfl,rfl,rfl,rfl,rfl,rfl,rfl,rfl,rfl,rfl,rfl,rfl,rfl⟩:=c;simp [aL,dh,lV]
theorem Jq {r:FR}(h:r.valid=true):r.cn=(vS r).cn:=by simp only [FR.valid,jm,Vr,D5] at h;exact Vw.1 h.2.2
def Jr (w:By):Option Int:=match Lib.atoiAll w with
 | .ok v=>some v
 | _=>none
theorem LK {n:Int}(h:Sm n):Jr (Lib.itoa n)=some n:=by unfold Sm at h;rw [Jr,EP (by omega) (by omega)]
def pN {α:Type}:List By->(Int->List By->Option α)->Option α
 | [],_=>none
 | w::ws,k=>(Jr w).bind λv=>k v ws
def pW {α:Type}(s:By):List By->(List By->Option α)->Option α
 | [],_=>none
 | w::ws,k=>if w=s then k ws else none
def Gr (e:By):List By->Option (List Int×List By)
 | []=>some ([],[])
 | w::ws=>if w=e then some ([],w::ws) else (Jr w).bind λv=>(Gr e ws).bind λp=>some (v::p.1,p.2)
def zF (room no known kind:Int):G5:=bC ⟨room,no,known,kind,0,0,0,0,0,0,0,0,0,0,0,0,0,0,0,0,0,0,nS,nS,0,0,0,0,0,nS,0,0⟩
def parseBody (h:G5)(ws:List By):Option FR:=
 if h.kind=1 then pW vQ ws λws=>pN ws λlo ws=>pN ws λhi ws=>some ⟨{h with flo:=lo,fhi:=hi},[],[],[]⟩
 else if h.kind=2 then pW ou ws λws=>pN ws λgid ws=>pN ws λmade ws=>pN ws λnom ws=>pN ws λtlo ws=>pN ws λthi ws=>pN ws λgn ws=>pN ws λgd ws=>pN ws λwear ws=>some ⟨{h with gid:=gid,made:=made,nom:=nom,tlo:=tlo,thi:=thi,gn:=gn,gd:=gd,wear:=wear},[],[],[]⟩
 else if h.kind=3 then pW Gq ws λws=>pN ws λug ws=>pN ws λud ws=>some ⟨{h with ug:=ug,ud:=ud},[],[],[]⟩
 else if h.kind=4 then pW vR ws λws=>pN ws λlg ws=>pN ws λll ws=>pN ws λlh ws=>pN ws λlw ws=>some ⟨{h with lg:=lg,ll:=ll,lh:=lh,lw:=lw},[],[],[]⟩
 else if h.kind=5 then pW bI ws λws=>pN ws λcday ws=>pN ws λdiff ws=>pN ws λerr ws=>pN ws λhlo ws=>pN ws λhhi ws=>pW kA ws λws=>(Gr kB ws).bind λp=>pW kB p.2 λws=>(Gr [] ws).bind λq=>some ⟨{h with cday:=cday,diff:=diff,err:=err,hlo:=hlo,hhi:=hhi},p.1,q.1,[]⟩
 else if h.kind=6 then pW zR ws λws=>pN ws λmday ws=>(Gr [] ws).bind λp=>some ⟨{h with mday:=mday},[],[],p.1⟩
 else if h.kind=7 then pW fq ws λws=>pN ws λtr ws=>pN ws λtn ws=>some ⟨{h with tr:=tr,tn:=tn},[],[],[]⟩
 else none
def parse (ws:List By):Option FR:=
 pW J9 ws λws=>pN ws λroom ws=>pN ws λno ws=>pN ws λknown ws=>pN ws λkind ws=>parseBody (zF room no known kind) ws
theorem lM {α:Type}(s:By)(ws:List By)(k:List By->Option α):pW s (s::ws) k=k ws:=by rw [pW,if_pos rfl]
theorem Z9 {α:Type}{n:Int}(h:Sm n)(ws:List By)(k:Int->List By->Option α):pN (Lib.itoa n::ws) k=k n ws:=by rw [pN,LK h];rfl
theorem ER {e:By}(he:∀n:Int,Lib.itoa n≠e):∀(l:List Int) (t:List By),(∀n∈l,Sm n)->(t=[]∨∃u,t=e::u)->Gr e (gX l++t)=some (l,t)
 | [],t,_,ht=>by rcases ht with rfl | ⟨u,rfl⟩;rfl;show Gr e (e::u)=_;rw [Gr,if_pos rfl]
 | n::l,t,hl,ht=>by show Gr e (Lib.itoa n::(gX l++t))=_;rw [Gr,if_neg (he n),LK (hl n (by simp)),ER he l t (λx hx=>hl x (by simp [hx])) ht];rfl
theorem afA (n:Int):Lib.itoa n≠kB:=λh=>by have:=QC n 98 (by rw [h];decide);exact absurd this.2 (by decide)
theorem qz (r:FR):(vS r).cn=⟨{aY r.f with A:=nS,B:=nS,L:=nS},(vS r).a,(vS r).b,(vS r).l⟩:=rfl
theorem TN {r:FR}(h:r.valid=true):parse (Vu r)=some r.cn:=by
 have o:=oP h;have g:=nE h;have t:=qy h;obtain⟨F,G⟩:=t;simp only [H7,O9,akZ,or_false,forall_eq_or_imp,forall_eq] at o;obtain⟨B,C,D,E⟩:=o;have q:parse (Vu r)=parseBody (zF r.f.room r.f.no r.f.known r.f.kind) ((lJ r).1::(lJ r).2):=by show parse (J9::Lib.itoa r.f.room::Lib.itoa r.f.no::Lib.itoa r.f.known::Lib.itoa r.f.kind::((lJ r).1::(lJ r).2))=_;rw [parse,lM,Z9 B,Z9 C,Z9 D,Z9 E]
 rw [q,Jq h];have s:(zF r.f.room r.f.no r.f.known r.f.kind).kind=r.f.kind:=rfl;unfold parseBody lJ;rw [s];have u:=ER (e:=kB) afA;have p:=ER (e:=[]) Vt;by_cases h1:r.f.kind=1;obtain⟨c,d⟩:=g.k1 h1;simp only [if_pos h1];show pW vQ (vQ::Lib.itoa r.f.flo::Lib.itoa r.f.fhi :: []) _=_;rw [lM,Z9 c,Z9 d,qz];simp [vS,aY,h1,bC,zF];by_cases h2:r.f.kind=2;obtain⟨c,d,k,m,n,v,w,x⟩:=g.k2 h2;simp only [if_neg h1,if_pos h2];show pW ou (ou::Lib.itoa r.f.gid::Lib.itoa r.f.made::Lib.itoa r.f.nom::Lib.itoa r.f.tlo::Lib.itoa r.f.thi::Lib.itoa r.f.gn::Lib.itoa r.f.gd::Lib.itoa r.f.wear :: []) _=_;rw [lM,Z9 c,Z9 d,Z9 k,Z9 m,Z9 n,Z9 v,Z9 w,Z9 x,qz];simp [vS,aY,h2,bC,zF];by_cases h3:r.f.kind=3;obtain⟨c,d⟩:=g.k3 h3;simp only [if_neg h1,if_neg h2,if_pos h3];show pW Gq (Gq::Lib.itoa r.f.ug::Lib.itoa r.f.ud :: []) _=_;rw [lM,Z9 c,Z9 d,qz];simp [vS,aY,h3,bC,zF];by_cases h4:r.f.kind=4;obtain⟨c,d,k,m⟩:=g.k4 h4;simp only [if_neg h1,if_neg h2,if_neg h3,if_pos h4];show pW vR (vR::Lib.itoa r.f.lg::Lib.itoa r.f.ll::Lib.itoa r.f.lh::Lib.itoa r.f.lw :: []) _=_;rw [lM,Z9 c,Z9 d,Z9 k,Z9 m,qz];simp [vS,aY,h4,bC,zF];by_cases h5:r.f.kind=5;obtain⟨⟨c,d,k,m,n⟩,y,z,_,_⟩:=g.k5 h5;have j:r.f.cid=0:=by have i:=h;simp only [FR.valid,jm,xV,D5] at i;obtain⟨_,i,_⟩:=i;rw [if_neg h1,if_neg h2,if_neg h3,if_neg h4,if_pos h5] at i;simp only [kF,D5,decide_eq_true_eq] at i;exact i.1
 simp only [if_neg h1,if_neg h2,if_neg h3,if_neg h4,if_pos h5];show pW bI (bI::Lib.itoa r.f.cday::Lib.itoa r.f.diff::Lib.itoa r.f.err::Lib.itoa r.f.hlo::Lib.itoa r.f.hhi::kA::(gX r.a++kB::gX r.b)) _=_;rw [lM,Z9 c,Z9 d,Z9 k,Z9 m,Z9 n,lM,u r.a _ y (.inr ⟨_,rfl⟩),W9,lM];have:=p r.b [] z (.inl rfl);rw [adB] at this;rw [this,W9,qz];simp [vS,aY,h5,bC,zF,j];by_cases h6:r.f.kind=6;obtain⟨c,A,_⟩:=g.k6 h6;simp only [if_neg h1,if_neg h2,if_neg h3,if_neg h4,if_neg h5,if_pos h6];show pW zR (zR::Lib.itoa r.f.mday::gX r.l) _=_;have:=p r.l [] A (.inl rfl);rw [adB] at this;rw [lM,Z9 c,this,W9,qz];simp [vS,aY,h6,bC,zF];by_cases h7:r.f.kind=7;obtain⟨c,d⟩:=g.k7 h7;simp only [if_neg h1,if_neg h2,if_neg h3,if_neg h4,if_neg h5,if_neg h6,if_pos h7];show pW fq (fq::Lib.itoa r.f.tr::Lib.itoa r.f.tn :: []) _=_;rw [lM,Z9 c,Z9 d,qz];simp [vS,aY,h7,bC,zF];omega
def Am (text:By)(r:FR):Prop:=r.valid=true∧D8 r=text
theorem rA {text:By}{r:FR}(h:Am text r):parse (Lib.fieldsD text)=some r.cn:=by obtain⟨a,rfl⟩:=h;have b:=qy a;rw [Lib.fieldsD_ascii _ (TM b),QF b,TN a]
theorem TP {text:By}{r s:FR}(h:Am text r)(k:Am text s):r.cn=s.cn:=by have:=(rA h).symm.trans (rA k);exact LA this
theorem Vx {n:Int}(h:Sm n):afw (Lib.itoa n)=n:=by unfold Sm at h;exact WZ (by omega) (by omega)
def bJ:By:=[114,101,99,111,114,100]
def NJ (n:Nat):By->Nat
 | []=>n
 | b::l=>NJ ((31*n+b.toNat+1)%2147483647) l
def qA (s:By):Nat:=NJ 0 s
theorem LM:∀(l:By) (n:Nat) (b:UInt8),NJ n (l ++ [b])=(31*NJ n l+b.toNat+1)%2147483647
 | [],n,b=>rfl
 | c::l,n,b=>by show NJ n (c::(l ++ [b]))=_;rw [NJ,LM l,NJ]
theorem Vy:∀(l:By) (n:Nat),n<2147483647->NJ n l<2147483647
 | [],n,h=>h
 | c::l,n,h=>by rw [NJ];exact Vy l _ (ah5 _ (by omega))
theorem NK (s:By):qA s<2147483647:=Vy s 0 (by omega)
theorem Xb {s:By}{i:Nat}(h:i<s.length):qA (s.take (i+1))=(31*qA (s.take i)+(s[i]).toNat+1)%2147483647:=by rw [adi h];exact LM _ _ _
def vC:Nat->By->List By
 | 0,_=>[]
 | k+1,s=>if s=[] then [] else s.take 64::vC k (s.drop 64)
def chunks (s:By):List By:=vC s.length s
theorem FY:∀(k j:Nat) (s:By),s.length<=k->s.length<=j->vC k s=vC j s
 | 0,j,s,hk,hj=>by obtain rfl:=acS.1 (show s.length=0 by omega);cases j<;>simp [vC]
 | k+1,0,s,hk,hj=>by obtain rfl:=acS.1 (show s.length=0 by omega);simp [vC]
 | k+1,j+1,s,hk,hj=>by rw [vC,vC];by_cases h:s=[];rw [if_pos h,if_pos h];have hp:=acC.2 h;rw [if_neg h,if_neg h,FY k j (s.drop 64) (by simp;omega) (by simp;omega)]
theorem jo {s:By}(h:s≠[]):chunks s=s.take 64::chunks (s.drop 64):=by obtain⟨k,a⟩:∃k,s.length=k+1:=⟨s.length-1,by have:=acC.2 h;omega⟩;rw [chunks,a,vC,if_neg h,chunks,FY k (s.drop 64).length _ (by simp;omega) (aA _)]
theorem cK:chunks []=[]:=rfl
theorem eF:∀(n:Nat) (s:By),s.length<=n->(chunks s).length<=s.length
 | 0,s,h=>by obtain rfl:=acS.1 (show s.length=0 by omega);simp [cK]
 | n+1,s,h=>by by_cases hs:s=[];subst hs;simp [cK];have hp:=acC.2 hs;rw [jo hs];have:=eF n (s.drop 64) (by simp;omega);simp at this ⊢;omega
def fT (n:Int)(s:By):List By:=G7 bJ [n,((chunks s).length:Int),(s.length:Int),(qA s:Int)]::chunks s
end Go.Proofs.YtfnlnpllpfhhnaaGreatDoor.TT
namespace Go.Proofs.YtfnlnpllpfhhnaaGreatDoor.TT
open Go Go.AM
theorem sM:∀(f:Nat) (cur l:By),((Lib.fieldsGoD f cur l).map List.length).sum<=cur.length+l.length∧∀w∈Lib.fieldsGoD f cur l,w≠[]
 | 0,cur,l=>by rw [Lib.fieldsGoD];split;simp;rename_i h;simp;exact h
 | f+1,cur,l=>by rw [Lib.fieldsGoD];split;split;simp;rename_i h;simp;exact h;split;obtain⟨h1,h2⟩:=sM f [] (l.drop (Lib.decodeL l).2);simp only [asf,S9,azM] at h1;split;simp only [adl];exact⟨by omega,h2⟩;rename_i h;refine⟨by simp;omega,λw hw=>?_⟩;rcases O9.1 (by simpa using hw) with rfl | hw;exact h;exact h2 w hw;obtain⟨h1,h2⟩:=sM f (cur++l.take (Lib.decodeL l).2) (l.drop (Lib.decodeL l).2);simp only [U1,akY,azM] at h1;exact⟨by omega,h2⟩
theorem Vz:∀(ws:List By),(∀w∈ws,w≠[])->ws.length<=(ws.map List.length).sum∧∀w∈ws,w.length<=(ws.map List.length).sum
 | [],_=>⟨by simp,by simp⟩
 | w::ws,h=>by obtain⟨h1,h2⟩:=Vz ws (λx hx=>h x (by simp [hx]));have h0:=acC.2 (h w (by simp));refine⟨by simp;omega,λx hx=>?_⟩;rcases O9.1 hx with rfl | hx;simp;have:=h2 x hx;simp;omega
theorem QG (s:By):(Lib.fieldsD s).length<=s.length∧∀w∈Lib.fieldsD s,w.length<=s.length:=by obtain⟨a,b⟩:=sM (s.length+1) [] s;obtain⟨c,d⟩:=Vz _ b;simp only [asf,S9] at a;exact⟨zu c a,λw e=>zu (d w e) a⟩
theorem QH {n:Int}(h:Sm n):(Lib.itoa n).length<=17:=by
 have a:(10:Nat)^16=10000000000000000:=by decide
 unfold Sm at h;unfold Lib.itoa;split;have:=qx 15 n.natAbs (by rw [a];omega);rw [adk,Lib.decDigits_length];omega;have:=qx 15 n.toNat (by rw [a];omega);rw [Lib.decDigits_length];omega
theorem aF (w:By):∀(l:List Int),(∀n∈l,Sm n)->(G7 w l).length<=w.length+18*l.length
 | [],_=>by rw [LG];simp
 | n::l,h=>by rw [TK];have h1:=aF (w++32::Lib.itoa n) l (λx hx=>h x (by simp [hx]));have h2:=QH (h n (by simp));simp at h1 ⊢;omega
theorem kP {r:FR}(h:r.valid=true):(Z4 r).length<=400:=by have c:=nE h;have i:=qy h;obtain⟨n,o⟩:=i;unfold Z4;by_cases h1:r.f.kind=1;rw [if_pos h1];have:=aF vQ [r.f.flo,r.f.fhi] (by simpa using c.k1 h1);simp [vQ] at this ⊢;omega;by_cases h2:r.f.kind=2;rw [if_neg h1,if_pos h2];have:=aF ou [r.f.gid,r.f.made,r.f.nom,r.f.tlo,r.f.thi,r.f.gn,r.f.gd,r.f.wear] (by simpa using c.k2 h2);simp [ou] at this ⊢;omega;by_cases h3:r.f.kind=3;rw [if_neg h1,if_neg h2,if_pos h3];have:=aF Gq [r.f.ug,r.f.ud] (by simpa using c.k3 h3);simp [Gq] at this ⊢;omega;by_cases h4:r.f.kind=4;rw [if_neg h1,if_neg h2,if_neg h3,if_pos h4];have:=aF vR [r.f.lg,r.f.ll,r.f.lh,r.f.lw] (by simpa using c.k4 h4);simp [vR] at this ⊢;omega;by_cases h5:r.f.kind=5;rw [if_neg h1,if_neg h2,if_neg h3,if_neg h4,if_pos h5];obtain⟨q,j,k,p,s⟩:=c.k5 h5;have d:=aF bI [r.f.cday,r.f.diff,r.f.err,r.f.hlo,r.f.hhi] (by simpa using q);have e:=aF (32::kA) r.a j;have g:=aF (32::kB) r.b k;simp [bI,kA,kB] at d e g ⊢;omega;by_cases h6:r.f.kind=6;rw [if_neg h1,if_neg h2,if_neg h3,if_neg h4,if_neg h5,if_pos h6];obtain⟨q,m,t⟩:=c.k6 h6;have d:=aF zR [r.f.mday] (by simpa using q);have e:=aF [] r.l m;simp [zR] at d e ⊢;omega;by_cases h7:r.f.kind=7;rw [if_neg h1,if_neg h2,if_neg h3,if_neg h4,if_neg h5,if_neg h6,if_pos h7];have:=aF fq [r.f.tr,r.f.tn] (by simpa using c.k7 h7);simp [fq] at this ⊢;omega;omega
theorem kQ {r:FR}(h:r.valid=true):(G7 J9 (H7 r)).length<=76:=by have:=aF J9 (H7 r) (oP h);simp [J9,H7] at this ⊢;omega
theorem fB {r:FR}(h:r.valid=true):(D8 r).length<=478:=by have a:=kQ h;have b:=kP h;simp [D8] at a ⊢;omega
set_option maxRecDepth 100000
set_option maxHeartbeats 4000000
abbrev UN:d9:=.iface 95 (.agg [])
theorem Bv {M:Mem}{id off:Nat}{c:List d9}(b:M.Ok)(a:id<M.nx)(h:M.lim<=id)(g:M.get id=some (l6 c))(d:off<c.length){v:d9}(e:D6 v=true):
  ∃N,(∀{β:Type} (k:Mem->Option β),storeAt M id off [v] k=k N)∧N.get id=some (l6 (c.set off v))∧bP id M N:=by
 refine⟨M.set id (l6 (c.set off v)),λk=>?_,by rw [Mem.U6 b a,if_pos rfl],Mem.Ok.set b a _,by simp,rfl,λj l i=>by rw [Mem.U6 b a,if_neg i]⟩;have f:I6 [v]=true:=by show bi (D6 v) true false=true;rw [e];rfl
 rw [aK h f,g,gV (by simp;omega) d,I7];congr 2;rw [azH,if_pos d];rfl
def WS (lo:Nat)(m:Mem)(p:Nat)(ws:List By):Prop:=p<lo∧∃v,m.get p=some (l6 [v])∧vX m v (strs ws)∧∀i o l c,v=.slice i o l c->i<lo
theorem WS.mono {lo a:Nat}{m:Mem}{p:Nat}{ws:List By}(h:WS lo m p ws)(j:lo<=a):WS a m p ws:=by obtain⟨g,v,b,d,e⟩:=h;exact⟨by omega,v,b,d,λi o l c f=>by have:=e i o l c f;omega⟩
theorem WS.fr {lo b q:Nat}{m g:Mem}{p:Nat}{ws:List By}(h:WS lo m p ws)(f:Fr b q m g)(s:lo<=b)(a:lo<=q∨(q≠p∧∀n rows,m.get q≠some (.cells 1 n rows))):WS lo g p ws:=by
 obtain⟨j,v,k,r,e⟩:=h;have d:p≠q:=by rcases a with a | ⟨a,_⟩<;>omega
 refine⟨j,v,by rw [f.old p (by omega) d];exact k,r.keep f.nx λi n rows _ hg ⟨o,l,c,hv⟩=>?_,e⟩;have t:=e i o l c hv;refine f.old i (by omega) ?_;rintro rfl;rcases a with a | ⟨_,a⟩;omega;exact a n rows hg
theorem WS.ext {lo:Nat}{m b:Mem}{p:Nat}{ws:List By}(h:WS lo m p ws)(a:lo<=m.nx)(e:Ext m b):WS lo b p ws:=h.fr (e.fr (p:=lo) a) (aA _) (.inl (aA _))
theorem axG {m:Mem}{p:Nat}{v:d9}{w:By}{ws:List By}(f:m.get p=some (l6 [v]))(j:vX m v (strs (w::ws))):∀i o l c,v=.slice i o l c->i≠p:=by
 obtain⟨id,a,c,rfl,k,q,d⟩:=j;rintro i o l c' h rfl;cases h;rcases d with d | ⟨n,rows,b,h5,h6⟩;cases d;rw [f] at b;have b:U7.cells 1 1 (.nd .e [d9.slice id a (strs (w::ws)).length c] .e)=.cells 1 n rows:=LA b;injection b with _ h7 h8;subst h7 h8;have g:0<(strs (w::ws)).length:=by simp [strs]
 obtain rfl:a=0:=by omega
 have:=h6 0 g;rw [adw] at this;have this:[d9.slice id 0 (strs (w::ws)).length c]=[(strs (w::ws))[0]]:=LA this;simp [strs] at this
theorem QI {lo:Nat}{m:Mem}{p:Nat}(h:WS lo m p [])(n d:Nat):l8 KW d (n+1) (.func 166) [.ptr p 0] m=some [⟨.dD UN,m⟩]:=by obtain⟨_,v,e,b,_⟩:=h;have a:=b.vs.len;rw [enter (sf:=f166) rfl rfl];have c:((strs []).length:Int)=0:=rfl;rw [c] at a;simp [f166,e,jO,a,b.vs.dD]
theorem LP {lo:Nat}{m:Mem}{p:Nat}{w:By}{ws:List By}(x:m.Ok)(E:m.lim<=p)(h:WS lo m p (w::ws))(n D:Nat):
  ∃m',l8 KW D (n+1) (.func 166) [.ptr p 0] m=some [⟨.str w,m'⟩]∧bP p m m'∧WS lo m' p ws:=by
 obtain⟨j,v,k,y,s⟩:=h;have F:=Mem.N9 x k;have t:=axG k y;have b:vX m v (.str w::strs ws):=y;obtain⟨K,a,G,g⟩:=b.tail;obtain⟨id,o,u,L,z⟩:=b.vs.Qk;have d:=b.vs.len;obtain⟨N,J,q,X⟩:=Bv (off:=0) x F E k (by simp) a.vs.D6;refine⟨N,?_,X,j,K,by simpa using q,a.keep X.nx λi n rows hi _ ⟨o,l,c,f⟩=>X.old i hi ?_,λi o l c f=>?_⟩;rw [enter (sf:=f166) rfl rfl];have B:((((.str w::strs ws:List d9)).length:Nat):Int)=((strs ws).length:Int)+1:=by simp
 rw [B] at d;have C:decide (((strs ws).length:Int)+1=0)=false:=by simp;omega
 have e:=a.vs.cells;simp at u;simp [f166,k,jO,d,b.vs.dD,a.vs.dD,u,z,G,J,C,e];obtain⟨I,H,A,r⟩:=g i o l c f;exact t _ _ _ _ r;obtain⟨I,H,A,r⟩:=g i o l c f;exact s _ _ _ _ r
theorem sO {lo:Nat}{m:Mem}{p:Nat}{ws:List By}(b:m.Ok)(e:m.lim<=p)(h:WS lo m p ws)(s:By)(n a:Nat):
  (∃m',l8 KW a (n+2) (.func 84) [.ptr p 0,.str s] m=some [⟨.dD UN,m'⟩]∧bP p m m'∧∀(α:Type) (k:List By->Option α),pW s ws k=none)∨
  (∃t m',l8 KW a (n+2) (.func 84) [.ptr p 0,.str s] m=some [⟨.tuple [],m'⟩]∧bP p m m'∧WS lo m' p t∧ws=s::t∧∀(α:Type) (k:List By->Option α),pW s ws k=k t):=by
 cases ws with
 | nil=>refine .inl ⟨m,?_,bP.refl b,λ_ _=>rfl⟩;have g:=QI h n a;rw [enter (sf:=f84) rfl rfl];simp [f84,g]
 | cons w t=>obtain⟨c,g,X,d⟩:=LP b e h n a;by_cases hw:w=s;subst hw;refine .inr ⟨t,c,?_,X,d,rfl,λ_ _=>lM w t _⟩;rw [enter (sf:=f84) rfl rfl];simp [f84,g];refine .inl ⟨c,?_,X,λ_ _=>by rw [pW,if_neg hw]⟩;rw [enter (sf:=f84) rfl rfl];simp [f84,g,hw]
theorem ac6 {s:By}{v:Int}(h:Lib.atoiAll s=.ok v):-9223372036854775808<=v∧v<9223372036854775808:=by
 cases s with
 | nil=>cases h
 | cons c r=>simp only [Lib.atoiAll] at h;split at h;cases h;cases h;split at h;cases h;rename_i a;split at h;cases h;rename_i b;injection h with h;subst h;split<;>omega
theorem eG {lo:Nat}{m:Mem}{p:Nat}{ws:List By}(f:m.Ok)(l:m.lim<=p)(c:lo<=m.nx)(h:WS lo m p ws)(r:∀w∈ws,w.length<1000000)(n b:Nat):
  (∃m',l8 KW b (n+2) (.func 85) [.ptr p 0] m=some [⟨.dD UN,m'⟩]∧bP p m m'∧∀(α:Type) (k:Int->List By->Option α),pN ws k=none)∨
  (∃v w t m',l8 KW b (n+2) (.func 85) [.ptr p 0] m=some [⟨iV v,m'⟩]∧bP p m m'∧WS lo m' p t∧ws=w::t∧Jr w=some v∧Z0 v∧∀(α:Type) (k:Int->List By->Option α),pN ws k=k v t):=by
 cases ws with
 | nil=>refine .inl ⟨m,?_,bP.refl f,λ_ _=>rfl⟩;have g:=QI h n b;rw [enter (sf:=f85) rfl rfl];simp [f85,g]
 | cons w t=>
  obtain⟨u,g,X,i⟩:=LP f l h n b;obtain⟨v,e,m2,d,E2,o⟩:=Vj w (r w (by simp)) n b u X.ok;have X2:bP p m m2:=X.trans E2.toB;have j:WS lo m2 p t:=i.ext (zu c X.nx) E2;rcases o with⟨ha,rfl⟩ | ⟨ha,q,rfl⟩;have a:Jr w=some v:=by rw [Jr,ha]
  refine .inr ⟨v,w,t,m2,?_,X2,j,rfl,a,ac6 ha,λ_ _=>by rw [pN,a];rfl⟩;rw [enter (sf:=f85) rfl rfl];simp [f85,g,d];have a:Jr w=none:=by rw [Jr];split;rename_i x s;exact absurd s (ha x);rfl
  refine .inl ⟨m2,?_,X2,λ_ _=>by rw [pN,a];rfl⟩;rw [enter (sf:=f85) rfl rfl];simp [f85,g,d]
theorem Gx {lo:Nat}{m:Mem}{p:Nat}{ws:List By}(s:m.Ok)(A:m.lim<=p)(d:lo<=m.nx)(h:WS lo m p ws)(u:∀w∈ws,w.length<1000000)(n f:Nat):
  (∃m',l8 KW f (n+3) (.func 150) [.ptr p 0] m=some [⟨.dD UN,m'⟩]∧bP p m m'∧∀(α:Type) (K:Int->Int->List By->Option α),pN ws (λa t=>pN t λb t=>K a b t)=none)∨
  (∃a b x y t m',l8 KW f (n+3) (.func 150) [.ptr p 0] m=some [⟨.agg [iV a,iV b],m'⟩]∧bP p m m'∧WS lo m' p t∧ws=x::y::t∧Z0 a∧Z0 b∧∀(α:Type) (K:Int->Int->List By->Option α),pN ws (λa t=>pN t λb t=>K a b t)=K a b t):=by
 have H:=h.1;have E0:=(Ext.refl s).new (l6 [i0,i0]);have z:=h.ext d E0;have c:(m.new (l6 [i0,i0])).lim<=p:=A;rcases eG E0.ok c (zu d E0.nx) z u n f with⟨m1,g1,X1,r1⟩ | ⟨a,w1,t1,m1,g1,X1,h1,e1,_,i1,r1⟩;refine .inl ⟨m1,?_,E0.toB.trans X1,λα K=>r1 α _⟩;rw [enter (sf:=f150) rfl rfl];simp [f150,g1];subst e1;have q:∀w∈t1,w.length<1000000:=λw o=>u w (by simp [o]);rcases eG X1.ok (by rw [X1.lim];exact c) (zu (zu d E0.nx) X1.nx) h1 q n f with⟨m2,g2,X2,r2⟩ | ⟨b,w2,t2,m2,g2,X2,h2,e2,_,i2,r2⟩;refine .inl ⟨m2,?_,(E0.toB.trans X1).trans X2,λα K=>(r1 α _).trans (r2 α _)⟩;rw [enter (sf:=f150) rfl rfl];simp [f150,g1,g2];subst e2;have e:p≠m.nx:=by omega
 have C:(m.new (l6 [i0,i0])).get m.nx=some (l6 [i0,i0]):=by rw [Mem.Q5 s,if_pos rfl]
 have v:m.nx<m1.nx:=nA (by simp) X1.nx;have D:m1.get m.nx=some (l6 [i0,i0]):=by rw [X1.old _ (by simp) (akd e)];exact C
 have E:m2.get m.nx=some (l6 [i0,i0]):=by rw [X2.old _ v (akd e)];exact D
 have g:m.nx<m2.nx:=nA v X2.nx;have l:m2.lim<=m.nx:=by rw [X2.lim,X1.lim];show m.lim<=_;omega
 have X3:bP m.nx m2 (m2.set m.nx (l6 [iV a,iV b])):=⟨Mem.Ok.set X2.ok g _,by simp,rfl,λj G B=>by rw [Mem.U6 X2.ok g,if_neg B]⟩;have F:(m2.set m.nx (l6 [iV a,iV b])).get m.nx=some (l6 [iV a,iV b]):=by rw [Mem.U6 X2.ok g,if_pos rfl]
 refine .inr ⟨a,b,w1,w2,t2,m2.set m.nx (l6 [iV a,iV b]),?_,?_,?_,rfl,i1,i2,λα K=>(r1 α _).trans (r2 α _)⟩;rw [enter (sf:=f150) rfl rfl];simp [f150,g1,g2,Bb l,E,F,D6];have XX:=(E0.toB (id:=p)).trans X1 |>.trans X2
 exact⟨X3.ok,zu XX.nx X3.nx,XX.lim,λi r k=>by rw [X3.old i (nA r XX.nx) (by omega)];exact XX.old i r k⟩;exact h2.fr (X3.fr (lo:=lo) (zu d (agI g))) (aA _) (.inl d)
theorem ac7 {p:Nat}{e:By}{lo0 lo:Nat}(j:lo0<=lo)(n d:Nat):∀(ws:List By),(∀w∈ws,w.length<1000000)->∀(l:List Int) (m:Mem) (out a2:d9) (N:Nat),m.Ok->m.lim<=p->lo<=m.nx->WS lo0 m p ws->kC lo m out (ints l)->
  l.length+ws.length<=50000->ws.length+1<=N->
  (∃env' m',T9 (λenv m k=>qp (l8 KW d (n+2)) d none env m k) N (nV5 (.ptr p 0) (.str e) a2 out nS) m []=some [⟨.ret,env',m',[],some UN⟩]∧Fr lo p m m'∧Gr e ws=none)∨
  (∃out' a2' m' l' t,T9 (λenv m k=>qp (l8 KW d (n+2)) d none env m k) N (nV5 (.ptr p 0) (.str e) a2 out nS) m []=some [⟨.exit 0,(nV5 (.ptr p 0) (.str e) a2' out' nS),m',[],none⟩]∧Fr lo p m m'∧kC lo m' out' (ints (l++l'))∧WS lo0 m' p t∧Gr e ws=some (l',t)∧t.length+l'.length<=ws.length∧∀w∈t,w∈ws):=by
 intro ws;induction ws with
 | nil=>intro _ l m out a2 N J I b h E S hN;obtain⟨N,rfl⟩:∃k,N=k+1:=⟨N-1,by omega⟩;refine .inr ⟨out,fV,m,[],[],?_,Fr.refl J,by rw [adB];exact E,h,rfl,by simp,by simp⟩;obtain⟨_,v,C,K,_⟩:=h;have a:=K.vs.len;have P:((strs []).length:Int)=0:=rfl;rw [P] at a;rw [o9];simp [qp,C,jO,a,K.vs.dD]
 | cons w ws ih=>
  intro hw l m out a2 N J I b h E S hN;obtain⟨N,rfl⟩:∃k,N=k+1:=⟨N-1,by omega⟩;have h0:=h;obtain⟨_,v,C,K,_⟩:=h0;have B:vX m v (.str w::strs ws):=K;obtain⟨id,o,H,_,O⟩:=B.vs.Qk;have a:=B.vs.len;have P:((((.str w::strs ws:List d9)).length:Nat):Int)=((strs ws).length:Int)+1:=by simp
  rw [P] at a;have Q:decide ((0:Int)<((strs ws).length:Int)+1)=true:=decide_eq_true (by omega);have pv:=λ{β:Type} (p:d9->β) q=>B.vs.dD p q;simp at H;rw [o9];by_cases hwe:w=e;subst hwe;refine .inr ⟨out,fV,m,[],w::ws,?_,Fr.refl J,by rw [adB];exact E,h,by rw [Gr,if_pos rfl],by simp,λ_ h=>h⟩;simp [qp,C,jO,a,pv,H,O,Q];have a0:=h.1;have po:=λ{β:Type} (p:d9->β) q=>E.vs.dD p q;rcases eG J I (zu j b) h hw n d with⟨m1,g1,X1,r1⟩ | ⟨x,w',t,m1,g1,X1,h1,ew,hx,i1,r1⟩;refine .inl ?_;have A:Jr w=none:=by
   have:=r1 Int (λv _=>some v);rw [pN] at this;cases hh:Jr w with
   | none=>rfl
   | some y=>rw [hh] at this;cases this
  refine⟨.nd (nV2 (.str e) out) (.ptr p 0) (nV2 tV nS),m1,?_,X1.fr b,by rw [Gr,if_neg hwe,A];rfl⟩;simp [qp,C,jO,a,pv,po,H,O,Q,hwe,g1];cases ew;have U:m1.lim<=p:=by rw [X1.lim];exact I
  have f:lo<=m1.nx:=zu b X1.nx;have V:=E.Gn X1 (by omega);have E2:=(Ext.refl X1.ok).new (l6 [iV x]);have W:=V.ext E2;have X:dV (m1.new (l6 [iV x])) (.slice m1.nx 0 1 1) [iV x]:=.inr ⟨m1.nx,0,.inl ⟨1,rfl,aA _⟩,by simp,.inr ⟨1,.nd .e [iV x] .e,by
   rw [Mem.Q5 X1.ok,if_pos rfl];rfl,by simp,λi hi=>by
   obtain rfl:i=0:=by simp at hi;omega
   rfl⟩⟩
  have u:(ints l).length=l.length:=by simp [ints]
  obtain⟨g,m3,ga,F,F3⟩:=Sy (bytes:=8) E2.ok (by show m1.lim<=lo;omega) (zu f E2.nx) W X rfl (by rw [u];simp at S ⊢;omega) ⟨by omega,by omega⟩;have FF:Fr lo p m m3:=(X1.fr b).trans ((E2.fr f).trans (F3.mono (aA _)));have h3:WS lo0 m3 p ws:=(h1.ext (zu j f) E2).fr F3 j (.inl j);have G:kC lo m3 g (ints (l ++ [x])):=by rw [YZ];exact F
  have Z:=λ{β:Type} (p:d9->β) q=>F.vs.dD p q;have T:∀z M L env r,List.length z=1->U4 1 1 z M L env r=ob (lay M L env z) λc=>if c.length=1 then some (.slice r 0 1 1,some (l6 c)) else none:=λz M L env r h=>dx 1 z M L env r h
  have s:∀(R:Option (List Out)),T9 (λenv m k=>qp (l8 KW d (n+2)) d none env m k) N (nV5 (.ptr p 0) (.str e) tV g nS) m3 []=R->
    bnd (qp (l8 KW d (n+2)) d none (nV5 (.ptr p 0) (.str e) a2 out nS) m []) (Qd (T9 (λenv m k=>qp (l8 KW d (n+2)) d none env m k) N))=R:=λR hR=>by
   rw [← hR];simp [qp,C,jO,a,pv,po,Z,H,O,Q,hwe,g1,T,ga]
  have D:Gr e (w::ws)=(Gr e ws).bind λq=>some (x::q.1,q.2):=by rw [Gr,if_neg hwe,hx];rfl
  rcases ih (λy Y=>hw y (by simp [Y])) (l ++ [x]) m3 g tV N FF.ok (by rw [FF.lim];exact I) (zu b FF.nx) h3 G (by simp at S ⊢;omega) (by simp at hN;omega) with⟨env',m4,g4,F4,r4⟩ | ⟨out4,b2,m4,l',t,g4,F4,ho4,h4,r4,r5,r6⟩;exact .inl ⟨env',m4,s _ g4,FF.trans F4,by rw [D,r4];rfl⟩;refine .inr ⟨out4,b2,m4,x::l',t,s _ g4,FF.trans F4,by rw [show l++x::l'=l ++ [x]++l' from by simp];exact ho4,h4,by rw [D,r4];rfl,by simp;omega,λy Y=>by simp [r6 y Y]⟩
theorem NM {lo:Nat}{m:Mem}{p:Nat}{e:By}{ws:List By}(i:m.Ok)(f:m.lim<=p)(b:lo<=m.nx)(h:WS lo m p ws)(j:∀w∈ws,w.length<1000000)(hb:ws.length<20000)(n a:Nat)(d:20001<=a):
  (∃m',l8 KW a (n+3) (.func 159) [.ptr p 0,.str e] m=some [⟨.dD UN,m'⟩]∧bP p m m'∧Gr e ws=none)∨
  (∃v m' l t,l8 KW a (n+3) (.func 159) [.ptr p 0,.str e] m=some [⟨v,m'⟩]∧bP p m m'∧kC m.nx m' v (ints l)∧WS lo m' p t∧Gr e ws=some (l,t)∧t.length+l.length<=ws.length∧∀w∈t,w∈ws):=by
 have c:=h.1;rcases ac7 (p:=p) (e:=e) (lo0:=lo) (lo:=m.nx) b n a ws j [] m nS uV a i f (aA _) h (kC.nil _ _) (by simp;omega) (by omega) with⟨env',m1,g,F,r⟩ | ⟨out,a2,m1,l,t,g,F,ho,h1,r,r2,r3⟩;refine .inl ⟨m1,?_,F.Gn (aA _),r⟩;rw [enter (sf:=f159) rfl rfl];simp [f159,g];rw [adl] at ho;refine .inr ⟨out,m1,l,t,?_,F.Gn (aA _),ho,h1,r,r2,r3⟩;rw [enter (sf:=f159) rfl rfl];simp [f159,g]
end Go.Proofs.YtfnlnpllpfhhnaaGreatDoor.TT
