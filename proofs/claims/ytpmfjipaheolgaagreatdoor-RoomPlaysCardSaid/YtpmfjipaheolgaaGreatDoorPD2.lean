/- Functions of the program and of the specification, walked; conditions: the memory holds what the arguments say. -/
import Derived.Test.YtpmfjipaheolgaaGreatDoorPD1
import Derived.Lib.ItoaMem
import Derived.Lib.AtoiAll
import Derived.Lib.Fields
import Derived.Lib.SpaceU
import Derived.Shelf.Strings.FieldsAny
set_option linter.all false
namespace Go.Proofs.YtpmfjipaheolgaaGreatDoor.TT
open Go Go.AM
set_option maxRecDepth 100000
set_option maxHeartbeats 2000000
open Nat (beq ble blt)
variable {m:cD}{f:D6}{v:j5}
def abE{p0:Nat}{xs:cQ}(r:U5 m v xs)(hb:xs.length<1000000)(n s:Nat):
   ∀(j i:Nat),i+j=xs.length->∀(N:Nat),j<N->∀(a0 a1:j5),
    ∃x k b0 b1,I9 (λenv m k=>uI (l9 KW s (n+5)) s none env m k) N (abp (.agg f.cells) (.ptr p0 0) (iV 6) fV fV fV fV fV uV uV uV tV (iN i) v a0 a1 uV fV) m []=some [⟨x,(abp (.agg f.cells) (.ptr p0 0) (iV 6) fV fV fV fV fV uV uV uV tV (iN k) v b0 b1 uV fV),m,[],none⟩]∧x=(bif Z9 (okB xs) j i then bQ.exit 1 else .ret):=by
 intro j;induction j with
 |zero=>
  intro i F N E a0 a1;obtain⟨N,rfl⟩:=sx N;refine⟨.exit 1,i,fV,a1,?_,rfl⟩;rw[o7];have h:¬ i<xs.length:=Zs
  have c:=r.len;simp[uI,h,c]
 |succ j ih=>
  intro i F N E a0 a1;obtain⟨N,rfl⟩:=sx N;have h:i<xs.length:=Zs
  have c:=r.len;obtain⟨p,d,_,e⟩:=r.at h;have B:=kR h;have g:okB xs i=true->∃x k b0 b1,I9 (λenv m k=>uI (l9 KW s (n+5)) s none env m k) (N+1) (abp (.agg f.cells) (.ptr p0 0) (iV 6) fV fV fV fV fV uV uV uV tV (iN i) v a0 a1 uV fV) m []=some [⟨x,(abp (.agg f.cells) (.ptr p0 0) (iV 6) fV fV fV fV fV uV uV uV tV (iN k) v b0 b1 uV fV),m,[],none⟩]∧x=(bif Z9 (okB xs) (j+1) i then bQ.exit 1 else .ret):=by
   intro a;obtain⟨x,k,b0,b1,C,D⟩:=ih (i+1) Zs N Zs tV fV;refine⟨x,k,b0,b1,?_,by rw[D];simp[Z9,a]⟩;rw[o7,← C];simp only[okB,B,oo,ate,ck]at a;obtain⟨⟨z,A⟩,w⟩:=a;by_cases h0:i=0;have b:¬ 0<i:=Zs
   simp[uI,h,c,d,e,z,A,b,bJ,I4 (i:=i) Zs];have l:i-1<xs.length:=Zs
   obtain⟨q,t,_,u⟩:=r.at l;have w:=w.resolve_left h0;rw[kR l]at w;have b:0<i:=Zs
   have y:¬ xs[i]<=xs[i-1]:=Zs
   simp[uI,h,c,d,e,t,u,z,A,b,y,bJ,I4 (i:=i) Zs,qd (i:=i) b Zs]
  cases a:okB xs i with
  |true=>exact g a
  |false=>
   refine⟨.ret,i,tV,tV,?_,by simp[Z9,a]⟩;rw[o7];simp only[okB,B]at a;by_cases h0:i=0;have o:(decide (1<=xs[i])&&decide (xs[i]<=1099511627776))=false:=by simpa[h0]using a
   simp[uI,h,c,d,e,o,bJ];have l:i-1<xs.length:=Zs
   obtain⟨q,t,_,u⟩:=r.at l;have b:0<i:=Zs
   rw[kR l,show decide (i=0)=false from decide_eq_false h0,avY]at a;cases o:(decide (1<=xs[i])&&decide (xs[i]<=1099511627776))with
   |false=>simp[uI,h,c,d,e,o,bJ]
   |true=>rw[o,ajy]at a;have y:xs[i]<=xs[i-1]:=(by simpa using a);simp[uI,h,c,d,e,t,u,o,b,y,bJ,qd (i:=i) b Zs]
def qB(f:D6)(a b l:cQ):Bool:=if f.kind=1 then NA f else if f.kind=2 then Y0 f else if f.kind=3 then SF f else if f.kind=4 then tL f else if f.kind=5 then eZ f a b else if f.kind=6 then Md f l else if f.kind=7 then Vu f else false
variable {a b:cQ}
def aqz{l:cQ}(d:m.Ok)(i:m.lim<=m.nx)(hf:aR m f a b l)(n c:Nat)(g:20000<=c)(h:f.kind=1):∃m',l9 KW c (n+6) (.func 139) [.agg f.cells] m=some [⟨.bool (NA f),m'⟩]∧cE m m':=by rw[en f139];have e:=PO (n+4) c f.flo f.fhi 0 1000000 (ext m [j6 f.cells]) (I7 d _);exact⟨ext m [j6 f.cells,j6 [iV f.flo,iV f.fhi]],by simp[f139,o9,A8,l8 d,h,e,NA],o8 d _⟩
def aqA{l:cQ}(c:m.Ok)(k:m.lim<=m.nx)(hf:aR m f a b l)(n d:Nat)(g:20000<=d)(h:ah f.gn)(hb:ah f.gd)(i:f.kind=2):∃m',l9 KW d (n+6) (.func 139) [.agg f.cells] m=some [⟨.bool (Y0 f),m'⟩]∧cE m m':=by rw[en f139];obtain⟨j,e,E1⟩:=aip f h hb n d g (ext m [j6 f.cells,j6 f.bS]) (I7 c _) ZD (m.nx+1) ZZ (by rw[r9 c];rfl);refine⟨j,?_,(o8 c _).trans E1⟩;simp only[J3]at e;cases hgb:Y0 f<;>rw[hgb]at e<;>simp[f139,o9,A8,l8 c,i,I5,e]
def aqB{l:cQ}(c:m.Ok)(h:m.lim<=m.nx)(hf:aR m f a b l)(n e:Nat)(g:20000<=e)(d:f.kind=3):∃m',l9 KW e (n+6) (.func 139) [.agg f.cells] m=some [⟨.bool (SF f),m'⟩]∧cE m m':=by
 rw[en f139];cases h0:(decide (1<=f.ug)&&decide (f.ug<=1099511627776))with
 |true=>
  cases h1:(decide (0<=f.ud)&&decide (f.ud<=20000))with
  |true=>exact⟨ext m [j6 f.cells],by simp[f139,o9,A8,l8 c,d,bJ,eX,SF,h0,h1],o8 c _⟩
  |false=>exact⟨ext m [j6 f.cells],by simp[f139,o9,A8,l8 c,d,bJ,eX,SF,h0,h1],o8 c _⟩
 |false=>exact⟨ext m [j6 f.cells],by simp[f139,o9,A8,l8 c,d,bJ,eX,SF,h0],o8 c _⟩
def aqC{l:cQ}(c:m.Ok)(i:m.lim<=m.nx)(hf:aR m f a b l)(n g:Nat)(h:20000<=g)(d:f.kind=4):∃m',l9 KW g (n+6) (.func 139) [.agg f.cells] m=some [⟨.bool (tL f),m'⟩]∧cE m m':=by
 rw[en f139];have e:=PO (n+4) g f.ll f.lh 0 20000 (ext m [j6 f.cells]) (I7 c _);cases h0:(decide (1<=f.lg)&&decide (f.lg<=1099511627776))with
 |true=>
  cases h1:(decide (0<=f.ll)&&decide (f.ll<=f.lh)&&decide (f.lh<=20000))with
  |true=>
   cases h2:(decide (0<=f.lw)&&decide (f.lw<=1048576))with
   |true=>exact⟨ext m [j6 f.cells,j6 [iV f.ll,iV f.lh]],by simp[f139,o9,A8,l8 c,d,e,bJ,tL,h0,h1,h2],o8 c _⟩
   |false=>exact⟨ext m [j6 f.cells,j6 [iV f.ll,iV f.lh]],by simp[f139,o9,A8,l8 c,d,e,bJ,tL,h0,h1,h2],o8 c _⟩
  |false=>exact⟨ext m [j6 f.cells,j6 [iV f.ll,iV f.lh]],by simp[f139,o9,A8,l8 c,d,e,bJ,tL,h0,h1],o8 c _⟩
 |false=>exact⟨ext m [j6 f.cells],by simp[f139,o9,A8,l8 c,d,bJ,tL,h0],o8 c _⟩
def aqD{l:cQ}(c:m.Ok)(h:m.lim<=m.nx)(hf:aR m f a b l)(n j:Nat)(p:20000<=j)(g:f.kind=5):∃m',l9 KW j (n+6) (.func 139) [.agg f.cells] m=some [⟨.bool (eZ f a b),m'⟩]∧cE m m':=by
 rw[en f139];have r:=hf.a.D8;have s:=hf.b.D8;have i:H8 f.cmp=true:=by simp[D6.cmp,r,s,show∀k x,D8 (.int k x)=true from λ_ _=>rfl,-D6.bD]
 have o:=hf.ext (o8 c [j6 f.cells,j6 f.cmp]);have d:=Xl o.a hf.la (n+3) j p;have e:=Xl o.b hf.lb (n+3) j p;rw[show(Z9 (okB a) a.length 0&&decide (a.length<=6))=sj a from rfl]at d;rw[show(Z9 (okB b) b.length 0&&decide (b.length<=6))=sj b from rfl]at e;have q:=PO (n+4) j f.hlo f.hhi (-10000) 10000 (ext m [j6 f.cells,j6 f.cmp]) (I7 c _);cases h0:decide (f.cid=0)with
 |true=>
  cases h1:(decide (0<=f.cday)&&decide (f.cday<=20000))with
  |true=>
   cases h2:(decide (-1125899906842624<=f.diff)&&decide (f.diff<=1125899906842624))with
   |true=>
    cases h3:(decide (0<=f.err)&&decide (f.err<=1073741824))with
    |true=>
     cases h4:(decide (-10000<=f.hlo)&&decide (f.hlo<=f.hhi)&&decide (f.hhi<=10000))with
     |true=>
      cases h5:sj a with
      |true=>
       cases h6:sj b with
       |true=>exact⟨ext m [j6 f.cells,j6 f.cmp,j6 [iV f.hlo,iV f.hhi]],by simp[f139,ay c h,g,i,d,e,q,bJ,eX,eZ,h0,h1,h2,h3,h4,h5,h6],o8 c _⟩
       |false=>exact⟨ext m [j6 f.cells,j6 f.cmp,j6 [iV f.hlo,iV f.hhi]],by simp[f139,ay c h,g,i,d,e,q,bJ,eX,eZ,h0,h1,h2,h3,h4,h5,h6],o8 c _⟩
      |false=>exact⟨ext m [j6 f.cells,j6 f.cmp,j6 [iV f.hlo,iV f.hhi]],by simp[f139,ay c h,g,i,d,e,q,bJ,eX,eZ,h0,h1,h2,h3,h4,h5],o8 c _⟩
     |false=>exact⟨ext m [j6 f.cells,j6 f.cmp,j6 [iV f.hlo,iV f.hhi]],by simp[f139,ay c h,g,i,d,e,q,bJ,eX,eZ,h0,h1,h2,h3,h4],o8 c _⟩
    |false=>exact⟨ext m [j6 f.cells,j6 f.cmp],by simp[f139,ay c h,g,i,d,e,bJ,eX,eZ,h0,h1,h2,h3],o8 c _⟩
   |false=>exact⟨ext m [j6 f.cells,j6 f.cmp],by simp[f139,ay c h,g,i,d,e,bJ,eX,eZ,h0,h1,h2],o8 c _⟩
  |false=>exact⟨ext m [j6 f.cells,j6 f.cmp],by simp[f139,ay c h,g,i,d,e,bJ,eX,eZ,h0,h1],o8 c _⟩
 |false=>exact⟨ext m [j6 f.cells,j6 f.cmp],by simp[f139,ay c h,g,i,d,e,bJ,eX,eZ,h0],o8 c _⟩
def aqE{l:cQ}(e:m.Ok)(u:m.lim<=m.nx)(hf:aR m f a b l)(n g:Nat)(q:20000<=g)(i:f.kind=6):∃m',l9 KW g (n+6) (.func 139) [.agg f.cells] m=some [⟨.bool (Md f l),m'⟩]∧cE m m':=by
 rw[en f139];have h:=hf.ext (o8 e [j6 f.cells]);have j:=h.l;have r:=j.len;obtain⟨x,k,s,t,d,c⟩:=abE (f:=f) (p0:=m.nx) j (by have:=hf.ll;omega) n g l.length 0 Zs g (by have:=hf.ll;omega) uV uV;have o:decide (2<=((l.length:Nat):Int))=decide (2<=l.length):=by rw[acv];simp;omega
 have p:decide (((l.length:Nat):Int)<=5)=decide (l.length<=5):=by rw[acv];simp;omega
 refine⟨ext m [j6 f.cells],?_,o8 e _⟩;cases ha:Z9 (okB l) l.length 0 with
 |false=>rw[ha]at c;simp only[cond_false]at c;subst c;simp at d;simp[f139,o9,A8,l8 e,i,d,Md,ha]
 |true=>
  rw[ha]at c;simp only[cond_true]at c;subst c;simp at d;cases h1:(decide (0<=f.mday)&&decide (f.mday<=19999))with
  |true=>simp[f139,o9,A8,l8 e,i,d,r,Md,ha,bJ,h1,o,p]
  |false=>simp[f139,o9,A8,l8 e,i,d,Md,ha,bJ,h1]
def aqF{l:cQ}(c:m.Ok)(h:m.lim<=m.nx)(hf:aR m f a b l)(n e:Nat)(g:20000<=e)(d:f.kind=7):∃m',l9 KW e (n+6) (.func 139) [.agg f.cells] m=some [⟨.bool (Vu f),m'⟩]∧cE m m':=by
 rw[en f139];cases h0:(decide (1<=f.tr)&&decide (f.tr<=6))with
 |true=>
  cases h1:(decide (1<=f.tn)&&decide (f.tn<=60))with
  |true=>
   cases h2:decide (f.tr=f.room)with
   |true=>
    cases h3:decide (f.tn=f.no)with
    |true=>exact⟨ext m [j6 f.cells],by simp[f139,o9,A8,l8 c,d,bJ,Vu,h0,h1,h2,h3],o8 c _⟩
    |false=>exact⟨ext m [j6 f.cells],by simp[f139,o9,A8,l8 c,d,bJ,Vu,h0,h1,h2,h3],o8 c _⟩
   |false=>exact⟨ext m [j6 f.cells],by simp[f139,o9,A8,l8 c,d,bJ,Vu,h0,h1,h2],o8 c _⟩
  |false=>exact⟨ext m [j6 f.cells],by simp[f139,o9,A8,l8 c,d,bJ,Vu,h0,h1],o8 c _⟩
 |false=>exact⟨ext m [j6 f.cells],by simp[f139,o9,A8,l8 c,d,bJ,Vu,h0],o8 c _⟩
def aqG{l:cQ}(d:m.Ok)(q:m.lim<=m.nx)(hf:aR m f a b l)(n c:Nat)(p:20000<=c)(e:f.kind≠1)(g:f.kind≠2)(h:f.kind≠3)(i:f.kind≠4)(j:f.kind≠5)(k:f.kind≠6)(o:f.kind≠7):∃m',l9 KW c (n+6) (.func 139) [.agg f.cells] m=some [⟨fV,m'⟩]∧cE m m':=by rw[en f139];exact⟨ext m [j6 f.cells],by simp[f139,o9,A8,l8 d,e,g,h,i,j,k,o],o8 d _⟩
def af0{l:cQ}(g:m.Ok)(e:m.lim<=m.nx)(hf:aR m f a b l)(n d:Nat)(c:20000<=d)(h:ah f.gn)(hb:ah f.gd):∃m',l9 KW d (n+6) (.func 139) [.agg f.cells] m=some [⟨.bool (qB f a b l),m'⟩]∧cE m m':=by unfold qB;by_cases h1:f.kind=1;rw[cg h1];exact aqz g e hf n d c h1;rw[aE h1];by_cases h2:f.kind=2;rw[cg h2];exact aqA g e hf n d c h hb h2;rw[aE h2];by_cases h3:f.kind=3;rw[cg h3];exact aqB g e hf n d c h3;rw[aE h3];by_cases h4:f.kind=4;rw[cg h4];exact aqC g e hf n d c h4;rw[aE h4];by_cases h5:f.kind=5;rw[cg h5];exact aqD g e hf n d c h5;rw[aE h5];by_cases h6:f.kind=6;rw[cg h6];exact aqE g e hf n d c h6;rw[aE h6];by_cases h7:f.kind=7;rw[cg h7];exact aqF g e hf n d c h7;rw[aE h7];exact aqG g e hf n d c h1 h2 h3 h4 h5 h6 h7
def SK(f:D6)(a b l:cQ):Bool:=bX f (U3 f) a b l (if f.kind=5 then a else[]) (if f.kind=5 then b else[]) (if f.kind=6 then l else[])
def kC(f:D6):Bool:=(decide (1<=f.room)&&decide (f.room<=6))&&((decide (1<=f.no)&&decide (f.no<=60))&&(decide (0<=f.known)&&decide (f.known<=1099511627776)))
def fq(f:D6)(a b l:cQ):Bool:=kC f&&(qB f a b l&&SK f a b l)
def Vv{l:cQ}(c:m.Ok)(r:m.lim<=m.nx)(hf:aR m f a b l)(n e:Nat)(i:20000<=e)(u:ah f.gn)(hb:ah f.gd):∃m',l9 KW e (n+7) (.func 65) [.agg f.cells] m=some [⟨.bool (fq f a b l),m'⟩]∧cE m m':=by
 rw[en f65];have o:=hf.ext (o8 c [j6 f.cells]);obtain⟨d,k,E1⟩:=af0 (I7 c [j6 f.cells]) ZD o n e i u hb;have j:d.Ok:=E1.ok;have E01:=(o8 c [j6 f.cells]).trans E1;have v:d.lim<=d.nx:=by rw[E01.lim];have:=E01.nx;omega
 have p:d.get m.nx=some (j6 f.cells):=by rw[E1.old _ ZZ,l8 c];rfl
 have w:∀q,(ext d q).get m.nx=some (j6 f.cells):=λq=>by rw[H6 j _ (by have:=E1.nx;simp at this;omega)];exact p
 have g:=hf.ext E01;have s:=aen j v g (n+5) e;have B:=[j6 f.cells,j6 (U3 f).cells,j6 (U3 f).cells];have h:=g.ext (o8 j [j6 f.cells,j6 (U3 f).cells,j6 (U3 f).cells]);have t:=PX (I7 j _) h (Xo h) (n+3) e i;have x:=w [j6 f.cells,j6 (U3 f).cells,j6 (U3 f).cells];cases h0:(decide (1<=f.room)&&decide (f.room<=6))with
 |true=>
  cases h1:(decide (1<=f.no)&&decide (f.no<=60))with
  |true=>
   cases h2:(decide (0<=f.known)&&decide (f.known<=1099511627776))with
   |true=>
    cases hF:qB f a b l with
    |false=>rw[hF]at k;exact⟨d,by simp[f65,ay c r,bJ,Kz,fq,kC,h0,h1,h2,hF,k,p],E01⟩
    |true=>rw[hF]at k;exact⟨ext d ([j6 f.cells,j6 (U3 f).cells,j6 (U3 f).cells]++[j6 f.cells,j6 (U3 f).cells,j6 f.cmp,j6 (U3 f).cmp]),by simp[f65,ay c r,bJ,Kz,fq,kC,h0,h1,h2,hF,k,p,s,x,t,hf.same,SK],E01.trans (o8 j ([j6 f.cells,j6 (U3 f).cells,j6 (U3 f).cells]++[j6 f.cells,j6 (U3 f).cells,j6 f.cmp,j6 (U3 f).cmp]))⟩
   |false=>exact⟨ext m [j6 f.cells],by simp[f65,o9,l8 c,bJ,Kz,fq,kC,h0,h1,h2],o8 c _⟩
  |false=>exact⟨ext m [j6 f.cells],by simp[f65,o9,l8 c,bJ,Kz,fq,kC,h0,h1],o8 c _⟩
 |false=>exact⟨ext m [j6 f.cells],by simp[f65,o9,l8 c,bJ,Kz,fq,kC,h0],o8 c _⟩
def Q6(f:IL)(k:j5)(e:j5×j5)(es:List (j5×j5))(i:Nat):findKey f k (e::es) i=ob (f k e.1) λb=>bi b (some (some (i,e.2))) (findKey f k es (i+1)):=rfl
def T9(f:IL)(k:j5)(i:Nat):findKey f k [] i=some none:=rfl
noncomputable def fieldMap:List (j5×j5):=[(iV 1,.agg [.func (.func 205) [] [],.func (.func 207) [] []]),(iV 2,.agg [.func (.func 208) [] [],.func (.func 209) [] []]),(iV 3,.agg [.func (.func 210) [] [],.func (.func 212) [] []]),(iV 4,.agg [.func (.func 213) [] [],.func (.func 214) [] []]),(iV 5,.agg [.func (.func 215) [] [],.func (.func 217) [] []]),(iV 6,.agg [.func (.func 218) [] [],.func (.func 220) [] []]),(iV 7,.agg [.func (.func 221) [] [],.func (.func 222) [] []])]
def eT(f:IL)(n:Nat)(zero:j5)(ok:Bool)(mp k:OF)(ls:cM)(env:T j5)(m:cD)(id:Nat)(es:List (j5×j5))(h:mp ls env=.map id)(a:m.get id=some (.map es)):
   nX f n zero ok mp k ls env m=ob (gD f n (k ls env) es) λr=>found ok zero r:=by
 show Ba (mp ls env) _ _=_;rw[h];show ZT (m.get id) _=_;rw[a];rfl
def Xr(n c:Nat)(m:cD)(d:m.Ok)(b:m.lim<=m.nx):l9 KW c (n+1) (.func 137) [] m=some [⟨.map m.nx,ext m [.map fieldMap]⟩]:=by
 rw[en f137];have a:blt m.nx m.lim=false:=by have:=Ei b [];rwa [Ay]at this
 simp[f137,ay d b,Cm,a,Ph,wO,U8,Q6,T9,mM,fieldMap]
def Zd(f:D6):H8 (aG f).cells=true:=rfl
def BH(f:D6)(a b l:cQ):Bool:=bX (U3 f) f (if f.kind=5 then a else[]) (if f.kind=5 then b else[]) (if f.kind=6 then l else[]) a b l
def aqH{l:cQ}(e:m.Ok)(y:m.lim<=m.nx)(hf:aR m f a b l)(n i:Nat)(x:20000<=i)(z:ah f.gn)(hb:ah f.gd)(q:f.kind≠1)(r:f.kind≠2)(s:f.kind≠3)(t:f.kind≠4)(u:f.kind≠5)(v:f.kind≠6)(w:f.kind≠7):∃m',l9 KW i (n+11) (.func 62) [.agg f.cells] m=some [⟨fV,m'⟩]∧cE m m':=by
 rw[en f62];have h:=Xr (n+9) i (ext m [j6 f.cells,.void]) (I7 e _) ZD;have d:∀(j k:OF) g c,j g c=.map (m.nx+2)->k g c=iV f.kind->nX jQ 1 (.agg [.nilFunc,.nilFunc]) true j k g c (ext m [j6 f.cells,.void,.map fieldMap])=some (.tuple [.agg [.nilFunc,.nilFunc],fV]):=by intro j k g c o p;rw[eT _ _ _ _ _ _ _ _ _ _ fieldMap o (by rw[r9 e];rfl),p];simp[fieldMap,U8,Q6,T9,q,r,s,t,u,v,w];rfl
 exact⟨ext m [j6 f.cells,j6 [.nilFunc,.nilFunc],.map fieldMap],by simp[f62,ay e y,D8,h,d,G8,isVoid],o8 e _⟩
def wW{l:cQ}(e:m.Ok)(q:m.lim<=m.nx)(hf:aR m f a b l)(n j:Nat)(v:20000<=j){A B:FuncId}{P:Bool}
   (u:(ob (gD jQ 1 (iV f.kind) fieldMap) λr=>found true (.agg [.nilFunc,.nilFunc]) r)=some (.tuple [.agg [.func (.func A) [] [],.func (.func B) [] []],tV]))
   (K:∀M:cD,M.Ok->M.lim<=M.nx->aR M f a b l->∃m1,l9 KW j (n+10) (.func A) [.agg f.cells] M=some [⟨.bool P,m1⟩]∧cE M m1)
   (L:∀(M:cD) (p:Nat),M.Ok->M.lim<=p->p<M.nx->aR M f a b l->M.get p=some (j6 (aG f).cells)->∃m',l9 KW j (n+10) (.func B) [.ptr p 0,.agg f.cells] M=some [⟨.tuple [],m'⟩]∧m'.Ok∧m'.lim=M.lim∧M.nx<=m'.nx∧(∀i,i<M.nx->i≠p->m'.get i=M.get i)∧m'.get p=some (j6 (U3 f).cells)):
   ∃m',l9 KW j (n+11) (.func 62) [.agg f.cells] m=some [⟨.bool (kC f&&(P&&BH f a b l)),m'⟩]∧cE m m':=by
 rw[en f62];have d:=Xr (n+9) j (ext m [j6 f.cells,.void]) (I7 e _) ZD;have c:∀(z k:OF) t g,z t g=.map (m.nx+2)->k t g=iV f.kind->nX jQ 1 (.agg [.nilFunc,.nilFunc]) true z k t g (ext m [j6 f.cells,.void,.map fieldMap])=some (.tuple [.agg [.func (.func A) [] [],.func (.func B) [] []],tV]):=by intro z k t g G H;rw[eT _ _ _ _ _ _ _ _ _ _ fieldMap G (by rw[r9 e];rfl),H];exact u
 have E0:=o8 e [j6 f.cells,j6 [.func (.func A) [] [],.func (.func B) [] []],.map fieldMap];obtain⟨m1,D,E1⟩:=K (ext m [j6 f.cells,j6 [.func (.func A) [] [],.func (.func B) [] []],.map fieldMap]) (I7 e _) ZD (hf.ext E0);have h:m1.Ok:=E1.ok;have E01:=E0.trans E1;have W:m.nx+3<=m1.nx:=by have:=E1.nx;simpa using this
 have Q:m1.lim<=m1.nx:=by rw[E01.lim];omega
 have F:m1.get m.nx=some (j6 f.cells):=by rw[E1.old _ ZZ,l8 e];rfl
 have U:m1.get (m.nx+1)=some (j6 [.func (.func A) [] [],.func (.func B) [] []]):=by rw[E1.old _ ZZ,r9 e];rfl
 have s:(ext m1 [j6 (aG f).cells]).get m.nx=some (j6 f.cells):=by rw[H6 h _ Zs];exact F
 have C:(ext m1 [j6 (aG f).cells]).get (m.nx+1)=some (j6 [.func (.func A) [] [],.func (.func B) [] []]):=by rw[H6 h _ Zs];exact U
 obtain⟨m2,I,x,y,R,E,T⟩:=L (ext m1 [j6 (aG f).cells]) m1.nx (I7 h _) ZD ZZ ((hf.ext E01).ext (o8 h _)) (by rw[l8 h];rfl);have S:m1.nx+1<=m2.nx:=by simpa using R
 have E02:cE m m2:=⟨x,Zs,by rw[y,Ay];exact E01.lim,λi N=>by rw[E i ZD Zs,H6 h _ Zs];exact E01.old i N⟩;have V:m2.get m.nx=some (j6 f.cells):=by rw[E _ ZD Zs];exact s
 have o:=hf.ext E02;have J:=Xn x (by rw[E02.lim];omega) (Xo o) o (n+7) j v;have O:[j5.int .i64 f.room,iV f.no,iV f.known,iV f.kind,iZ,iZ,iZ,iZ,iZ,iZ,iZ,iZ,iZ,iZ,iZ,iZ,iZ,iZ,iZ,iZ,iZ,iZ,nS,nS,iZ,iZ,iZ,iZ,iZ,nS,iZ,iZ]=(aG f).cells:=rfl;have w:=Zd f;by_cases h0:(decide (1<=f.room)&&decide (f.room<=6))=true;by_cases h1:(decide (1<=f.no)&&decide (f.no<=60))=true;by_cases h2:(decide (0<=f.known)&&decide (f.known<=1099511627776))=true;cases P with
 |false=>exact⟨m1,by simp[f62,ay e q,D8,d,c,G8,isVoid,eB,Ky,kC,h0,h1,h2,D],E01⟩
 |true=>exact⟨_,by simp[f62,ay e q,D8,d,c,G8,isVoid,eB,Ky,kC,dh h Q,h0,h1,h2,D,F,O,w,s,C,I,V,T,J,BH],E02.trans (o8 x ([j6 (U3 f).cells,j6 f.cells,j6 (U3 f).cells,(U3 f).nm,j6 f.cells,f.nm]++(bif eH (U3 f) f then[j6 (U3 f).cmp,j6 f.cmp]else[])))⟩
 exact⟨_,by simp[f62,ay e q,D8,d,c,G8,isVoid,eB,Ky,kC,h0,h1,h2],E0⟩;exact⟨_,by simp[f62,ay e q,D8,d,c,G8,isVoid,eB,Ky,kC,h0,h1],E0⟩;exact⟨_,by simp[f62,ay e q,D8,d,c,G8,isVoid,eB,Ky,kC,h0],E0⟩
def aqI{l:cQ}(r:m.Ok)(q:m.lim<=m.nx)(hf:aR m f a b l)(n c:Nat)(h:20000<=c)(s:ah f.gn)(hb:ah f.gd)(j:f.kind=1):∃m',l9 KW c (n+11) (.func 62) [.agg f.cells] m=some [⟨.bool (kC f&&(NA f&&BH f a b l)),m'⟩]∧cE m m':=
 wW r q hf n c h (by rw[j];rfl) (λM d e i=>aeh (n+8) c f M d e) λM p d e i k o=>by
  have:=aev (g:=aG f) d e i k o (n+9) c
  rwa [show({aG f with flo:=f.flo,fhi:=f.fhi}:D6)=U3 f by simp[U3,j]]at this
def aqJ{l:cQ}(s:m.Ok)(r:m.lim<=m.nx)(hf:aR m f a b l)(n c:Nat)(d:20000<=c)(q:ah f.gn)(hb:ah f.gd)(j:f.kind=2):∃m',l9 KW c (n+11) (.func 62) [.agg f.cells] m=some [⟨.bool (kC f&&(Y0 f&&BH f a b l)),m'⟩]∧cE m m':=
 wW s r hf n c d (by rw[j];rfl) (λM e h i=>aeS q hb e h (n+1) c d) λM p e h i k o=>by
  have:=aew (g:=aG f) e h i k o (n+9) c
  rwa [show({aG f with gid:=f.gid,made:=f.made,nom:=f.nom,tlo:=f.tlo,thi:=f.thi,gn:=f.gn,gd:=f.gd,wear:=f.wear}:D6)=U3 f by simp[U3,j]]at this
def aqK{l:cQ}(r:m.Ok)(q:m.lim<=m.nx)(hf:aR m f a b l)(n c:Nat)(h:20000<=c)(s:ah f.gn)(hb:ah f.gd)(j:f.kind=3):∃m',l9 KW c (n+11) (.func 62) [.agg f.cells] m=some [⟨.bool (kC f&&(SF f&&BH f a b l)),m'⟩]∧cE m m':=
 wW r q hf n c h (by rw[j];rfl) (λM d e i=>aei (n+7) c f M d e) λM p d e i k o=>by
  have:=aex (g:=aG f) d e i k o (n+9) c
  rwa [show({aG f with ug:=f.ug,ud:=f.ud}:D6)=U3 f by simp[U3,j]]at this
def aqL{l:cQ}(r:m.Ok)(q:m.lim<=m.nx)(hf:aR m f a b l)(n c:Nat)(h:20000<=c)(s:ah f.gn)(hb:ah f.gd)(j:f.kind=4):∃m',l9 KW c (n+11) (.func 62) [.agg f.cells] m=some [⟨.bool (kC f&&(tL f&&BH f a b l)),m'⟩]∧cE m m':=
 wW r q hf n c h (by rw[j];rfl) (λM d e i=>aeo (n+7) c f M d e) λM p d e i k o=>by
  have:=aey (g:=aG f) d e i k o (n+9) c
  rwa [show({aG f with lg:=f.lg,ll:=f.ll,lh:=f.lh,lw:=f.lw}:D6)=U3 f by simp[U3,j]]at this
def aqM{l:cQ}(r:m.Ok)(q:m.lim<=m.nx)(hf:aR m f a b l)(n c:Nat)(d:20000<=c)(s:ah f.gn)(hb:ah f.gd)(j:f.kind=5):∃m',l9 KW c (n+11) (.func 62) [.agg f.cells] m=some [⟨.bool (kC f&&(eZ f a b&&BH f a b l)),m'⟩]∧cE m m':=
 wW r q hf n c d (by rw[j];rfl) (λM e h i=>aer e h i n c d) λM p e h i k o=>by
  have:=aez (g:=aG f) e h i k o (n+9) c
  rwa [show({aG f with cid:=f.cid,cday:=f.cday,A:=f.A,B:=f.B,diff:=f.diff,err:=f.err,hlo:=f.hlo,hhi:=f.hhi}:D6)=U3 f by simp[U3,j]]at this
def aqN{l:cQ}(r:m.Ok)(q:m.lim<=m.nx)(hf:aR m f a b l)(n c:Nat)(d:20000<=c)(s:ah f.gn)(hb:ah f.gd)(j:f.kind=6):∃m',l9 KW c (n+11) (.func 62) [.agg f.cells] m=some [⟨.bool (kC f&&(Md f l&&BH f a b l)),m'⟩]∧cE m m':=
 wW r q hf n c d (by rw[j];rfl) (λM e h i=>aes e h i (n+6) c d) λM p e h i k o=>by
  have:=aeA (g:=aG f) e h i k o (n+9) c
  rwa [show({aG f with mday:=f.mday,L:=f.L}:D6)=U3 f by simp[U3,j]]at this
def aqO{l:cQ}(r:m.Ok)(q:m.lim<=m.nx)(hf:aR m f a b l)(n c:Nat)(i:20000<=c)(s:ah f.gn)(hb:ah f.gd)(j:f.kind=7):∃m',l9 KW c (n+11) (.func 62) [.agg f.cells] m=some [⟨.bool (kC f&&(Vu f&&BH f a b l)),m'⟩]∧cE m m':=
 wW r q hf n c i (by rw[j];rfl) (λM d e h=>aeu d e h (n+8) c) λM p d e h k o=>by
  have:=aeB (g:=aG f) d e h k o (n+9) c
  rwa [show({aG f with tr:=f.tr,tn:=f.tn}:D6)=U3 f by simp[U3,j]]at this
variable {α:Type}
def X9  [DecidableEq α](x y:α):decide (x=y)=decide (y=x):=by rw[acv];simp[eq_comm]
def Vw(f g:D6):eH f g=eH g f:=by simp only[eH,X9 f.room g.room,X9 f.no g.no,X9 f.known g.known,X9 f.kind g.kind,X9 f.flo g.flo,X9 f.fhi g.fhi,X9 f.gid g.gid,X9 f.made g.made,X9 f.nom g.nom,X9 f.tlo g.tlo,X9 f.thi g.thi,X9 f.gn g.gn,X9 f.gd g.gd,X9 f.wear g.wear,X9 f.ug g.ug,X9 f.ud g.ud,X9 f.lg g.lg,X9 f.ll g.ll,X9 f.lh g.lh,X9 f.lw g.lw,X9 f.tr g.tr,X9 f.tn g.tn]
def Vx(f g:D6)(a b l a' b' c:cQ):bX f g a b l a' b' c=bX g f a' b' c a b l:=by simp only[bX,Vw f g,nW,X9 f.cid g.cid,X9 f.cday g.cday,X9 f.diff g.diff,X9 f.err g.err,X9 f.hlo g.hlo,X9 f.hhi g.hhi,X9 f.mday g.mday,X9 a a',X9 b b',X9 l c]
def abF(f:D6)(a b l:cQ):BH f a b l=SK f a b l:=Vx ..
def Vy{l:cQ}(h:m.Ok)(g:m.lim<=m.nx)(hf:aR m f a b l)(n d:Nat)(c:20000<=d)(e:ah f.gn)(hb:ah f.gd):∃m',l9 KW d (n+11) (.func 62) [.agg f.cells] m=some [⟨.bool (fq f a b l),m'⟩]∧cE m m':=by unfold fq qB;rw[← abF];by_cases h1:f.kind=1;rw[cg h1];exact aqI h g hf n d c e hb h1;by_cases h2:f.kind=2;rw[aE h1];rw[cg h2];exact aqJ h g hf n d c e hb h2;by_cases h3:f.kind=3;rw[aE h1];rw[aE h2];rw[cg h3];exact aqK h g hf n d c e hb h3;by_cases h4:f.kind=4;rw[aE h1];rw[aE h2];rw[aE h3];rw[cg h4];exact aqL h g hf n d c e hb h4;by_cases h5:f.kind=5;rw[aE h1];rw[aE h2];rw[aE h3];rw[aE h4];rw[cg h5];exact aqM h g hf n d c e hb h5;by_cases h6:f.kind=6;rw[aE h1];rw[aE h2];rw[aE h3];rw[aE h4];rw[aE h5];rw[cg h6];exact aqN h g hf n d c e hb h6;by_cases h7:f.kind=7;rw[aE h1];rw[aE h2];rw[aE h3];rw[aE h4];rw[aE h5];rw[aE h6];rw[cg h7];exact aqO h g hf n d c e hb h7;rw[aE h1];rw[aE h2];rw[aE h3];rw[aE h4];rw[aE h5];rw[aE h6];rw[aE h7];rw[axT,Bool.and_false];exact aqH h g hf n d c e hb h1 h2 h3 h4 h5 h6 h7
structure FR where
 f:D6
 a:cQ
 b:cQ
 l:cQ
abbrev cN:=List FR
structure J9(m:cD)(r:FR):Prop where
 a:U5 m r.f.A r.a
 b:U5 m r.f.B r.b
 l:U5 m r.f.L r.l
 ga:ah r.f.gn
 gb:ah r.f.gd
 nb:ah r.f.no
variable {r:FR}
def J9.ext{c:cD}(h:cE m c)(k:J9 m r):J9 c r:=⟨k.a.ext h,k.b.ext h,k.l.ext h,k.ga,k.gb,k.nb⟩
def FR.small(r:FR):Bool:=decide (r.a.length<=9)&&(decide (r.b.length<=9)&&decide (r.l.length<=9))
def J9.at{m:cD}{r:FR}(k:J9 m r)(h:r.small=true):aR m r.f r.a r.b r.l:=by simp only[FR.small,oo,ck]at h;exact⟨k.a,k.b,k.l,Zs,Zs,Zs⟩
def PY(d:m.Ok)(hf:J9 m r)(n k:Nat):
   l9 KW k (n+1) (.func 15) [.agg r.f.cells] m=some [⟨.bool r.small,ext m [j6 r.f.cells]⟩]:=by
 rw[en f15];have e:=hf.a.len;have h:=hf.b.len;have j:=hf.l.len;have c:decide (((r.a.length:Nat):Int)<=9)=decide (r.a.length<=9):=by rw[acv];simp;omega
 have g:decide (((r.b.length:Nat):Int)<=9)=decide (r.b.length<=9):=by rw[acv];simp;omega
 have i:decide (((r.l.length:Nat):Int)<=9)=decide (r.l.length<=9):=by rw[acv];simp;omega
 cases h0:decide (r.a.length<=9)with
 |true=>
  cases h1:decide (r.b.length<=9)with
  |true=>
   cases h2:decide (r.l.length<=9)with
   |true=>simp[f15,o9,l8 d,e,h,j,c,g,i,FR.small,h0,h1,h2]
   |false=>simp[f15,o9,l8 d,e,h,j,c,g,i,FR.small,h0,h1,h2]
  |false=>simp[f15,o9,l8 d,e,h,c,g,FR.small,h0,h1]
 |false=>simp[f15,o9,l8 d,e,c,FR.small,h0]
def au(m:cD)(v:j5)(fs:cN):Prop:=
 (v=nS∧fs=[])∨∃id,((∃c,v=.slice id 0 fs.length c)∨v=.sliceU id 0 fs.length 32)∧id<m.nx∧(fs=[]∨∃c cF,m.get id=some (.cells 32 c cF)∧fs.length<=c∧∀i (h:i<fs.length),cF.get i=some fs[i].f.cells)
def au.ext{b:cD}(h:cE m b){fs:cN}(a:au m v fs):au b v fs:=by rcases a with a|⟨id,h1,h2,h3⟩;exact .inl a;refine .inr ⟨id,h1,aP h2 h.nx,?_⟩;rcases h3 with h3|⟨c,cF,h4,h5,h6⟩;exact .inl h3;exact .inr ⟨c,cF,(h.old id h2).trans h4,h5,h6⟩
def au.len{a:cN}(h:au m v a):xC v (some (j5.int .i64 0)) (λ_ _ n _=>some (iV n)) (λ_ _ n _=>some (iV n))=some (iV a.length):=by rcases h with⟨rfl,rfl⟩|⟨id,⟨c,rfl⟩|rfl,_⟩<;>rfl
def au.cells{a:cN}(h:au m v a):v.cells=[v]:=by rcases h with⟨rfl,rfl⟩|⟨id,⟨c,rfl⟩|rfl,_⟩<;>rfl
def au.aL{a:cN}(h:au m v a){β:Type}(p:j5->β)(q:β):iK v p q=q:=by rcases h with⟨rfl,rfl⟩|⟨id,⟨c,rfl⟩|rfl,_⟩<;>rfl
def au.at{m:cD}{v:j5}{b:cN}(h:au m v b){i:Nat}(hi:i<b.length):
   ∃id,xC v none (λid off len _=>idx len (iV i) λk=>some (j5.ptr id (off+k*32))) (λid off len _=>idx len (iV i) λk=>some (j5.ptr id (off+k*32)))=some (.ptr id (i*32))∧id<m.nx∧
    RU (m.get id) (i*32) 32=some (.agg b[i].f.cells)∧ld1 (m.get id) (i*32)=some (iV b[i].f.room)∧ld1 (m.get id) (i*32+1)=some (iV b[i].f.no)∧ld1 (m.get id) (i*32+3)=some (iV b[i].f.kind):=by
 rcases h with⟨_,rfl⟩|⟨id,hv,h2,h3⟩;simp at hi;rcases h3 with rfl|⟨c,cF,h4,h5,h6⟩;simp at hi;have e:=h6 i hi;have d:i<c:=Zs
 refine⟨id,?_,h2,?_,?_,?_,?_⟩;rcases hv with⟨c',rfl⟩|rfl;simp only[vI];rw[Z0 _ _ _ hi];simp;simp only[rV];rw[Z0 _ _ _ hi];simp;rw[h4];have a:=wN (rs:=32) (j:=0) (k:=32) Zs d e (D6.len _) Zs;rw[adh]at a;unfold RU;rw[dJ,a,I6,W9,P9 (by rw[D6.len];omega)];have a:=iw (rs:=32) (j:=0) Zs d e;rw[adh]at a;rw[h4,ld1,dJ,a];exact D6.c0 _;have a:=iw (rs:=32) (j:=1) Zs d e
 skip
 rw[h4,ld1,dJ,a];exact D6.c1 _;have a:=iw (rs:=32) (j:=3) Zs d e
 skip
 rw[h4,ld1,dJ,a];exact D6.c3 _
abbrev By:=List cL
abbrev cP:=List By
def SL(b:cL):cP->cP
 |[]=>[[b]]
 |w::ws=>(b::w)::ws
def cA(c:cL):By->cP
 |[]=>[[]]
 |b::l=>if b=c then[]::cA c l else SL b (cA c l)
def mO(c:cL):∀l,∃w ws,cA c l=w::ws
 |[]=>⟨[],[],rfl⟩
 |b::l=>by obtain⟨w,ws,h⟩:=mO c l;by_cases hb:b=c;exact⟨[],w::ws,by rw[cA,cg hb,h]⟩;exact⟨b::w,ws,by rw[cA,aE hb,h];rfl⟩
def CF(c:cL):∀(w l h:By) (t:cP),(∀b∈w,b≠c)->cA c l=h::t->cA c (w++l)=(w++h)::t
 |[],l,h,t,_,e=>e
 |b::w,l,h,t,hw,e=>by show cA c (b::(w++l))=_;rw[cA,aE (hw b ZZ),CF c w l h t (λx hx=>hw x (by simp[hx])) e];rfl
def qg(c:cL):∀(ws:cP) (w:By),(∀b∈w,b≠c)->(∀x∈ws,∀b∈x,b≠c)->cA c (w++(ws.map (c :: ·)).flatten)=w::ws
 |[],w,hw,_=>by have:=CF c w [] [] [] hw rfl;simpa using this
 |x::ws,w,hw,hs=>by
  have ih:=qg c ws x (hs x ZZ) (λy hy=>hs y (by simp[hy]));have e:cA c (c::(x++(ws.map (c :: ·)).flatten))=[]::x::ws:=by rw[cA,cg rfl,ih]
  have:=CF c w _ _ _ hw e;simpa using this
def Tok(w:By):Prop:=w≠[]∧∀b∈w,33<=b.toNat∧b.toNat<127
def Xt{b:cL}(h:33<=b.toNat∧b.toNat<127):Lib.isSp b=false:=by
 have a:∀c:cL,c.toNat<33->(b==c)=false:=λc d=>by
  cases e:b==c with
  |false=>rfl
  |true=>have e:=eq_of_beq e;rw[e]at h;omega
 unfold Lib.isSp;rw[a 9 ZS,a 10 ZS,a 11 ZS,a 12 ZS,a 13 ZS,a 32 ZS];rfl
def uN:∀(w cur l:By),(∀b∈w,Lib.isSp b=false)->Lib.fieldsGo cur (w++l)=Lib.fieldsGo (cur++w) l
 |[],cur,l,_=>ZZ
 |b::w,cur,l,h=>by show Lib.fieldsGo cur (b::(w++l))=_;rw[Lib.fieldsGo_more _ _ _ (h b ZZ),uN w _ l (λx hx=>h x (by simp[hx]))];simp
def zX:∀(ws:cP) (w:By) (s:cL) (rest:By),Tok w->(∀x∈ws,Tok x)->Lib.isSp s=true->Lib.fieldsGo [] (w++(ws.map (32 :: ·)).flatten++s::rest)=w::ws++Lib.fieldsGo [] rest
 |[],w,s,rest,hw,_,hs=>by
  have e:w++(([]:cP).map (32 :: ·)).flatten++s::rest=w++(s::rest):=ZZ
  rw[e,uN w _ _ (λb hb=>Xt (hw.2 b hb)),O9,Lib.fieldsGo_end _ _ _ hs hw.1];rfl
 |x::ws,w,s,rest,hw,hx,hs=>by
  have e:w++((x::ws).map (32 :: ·)).flatten++s::rest=w++(32::(x++(ws.map (32 :: ·)).flatten++s::rest)):=ZZ
  rw[e,uN w _ _ (λb hb=>Xt (hw.2 b hb)),O9,Lib.fieldsGo_end _ _ _ ZS hw.1,
   zX ws x s rest (hx x ZZ) (λy hy=>hx y (by simp[hy])) hs];rfl
def abG(d:Nat)(h:d<10):(UInt8.ofNat (48+d)).toNat=48+d:=by show(48+d)%256=_;omega
def pG(u:Nat):∀b∈Lib.decDigits u,48<=b.toNat∧b.toNat<=57:=by
 induction u using Nat.strongRecOn with
 |_ u ih=>intro b a;rw[Lib.decDigits]at a;split at a;rename_i h;simp only[lM]at a;subst a;rw[abG _ h];omega;rename_i h;rcases LA.1 a with a|a;exact ih (u / 10) Zs b a;simp only[lM]at a;subst a;rw[abG _ (ajq _ Zs)];omega
def qQ(u:Nat):Lib.decDigits u≠[]:=by have a:=Lib.decDigits_length u;have b:=Lib.nDigits_pos u;intro h;rw[h]at a;simp at a;omega
def KD(n:Int):∀b∈Lib.itoa n,45<=b.toNat∧b.toNat<=57:=by intro b a;unfold Lib.itoa at a;split at a;rcases O4.1 a with rfl|a;decide;have:=pG _ b a;omega;have:=pG _ b a;omega
def Xu(n:Int):Lib.itoa n≠[]:=by unfold Lib.itoa;split;simp;exact qQ _
def abH(n:Int):Tok (Lib.itoa n):=⟨Xu n,λb a=>by have:=KD n b a;omega⟩
def KE:∀(l:By) (acc:Nat) (c:cL) (u:Nat),Lib.parseUint10 acc l=.ok u->Lib.parseUint10 acc (l++[c])=Lib.parseUint10 u [c]
 |[],acc,c,u,h=>by simp only[Lib.parseUint10]at h;injection h with h;subst h;rfl
 |b::l,acc,c,u,h=>by show Lib.parseUint10 acc (b::(l++[c]))=_;rw[Lib.parseUint10]at h ⊢;split at h;rename_i h1;split at h;cases h;rename_i h2;split at h;cases h;rename_i h3;rw[cg h1,aE h2,aE h3,KE l _ c u h];cases h
def KF(u d:Nat)(a:d<10)(h:u*10+d<18446744073709551616):Lib.parseUint10 u [UInt8.ofNat (48+d)]=.ok (u*10+d):=by rw[Lib.parseUint10,abG d a,cg Zs,aE Zs,aE Zs,Lib.parseUint10];congr 1;omega
def KG(u:Nat):u<18446744073709551616->Lib.parseUint10 0 (Lib.decDigits u)=.ok u:=by
 induction u using Nat.strongRecOn with
 |_ u ih=>intro a;rw[Lib.decDigits];split;rename_i h;rw[KF 0 u h Zs];congr 1;omega;rename_i h;rw[KE _ _ _ _ (ih (u / 10) Zs Zs),KF _ _ (ajq _ Zs) Zs];congr 1;omega
variable {n:Int}
def Gb(h0:-9223372036854775808<=n)(d:n<9223372036854775808):Lib.atoiAll (Lib.itoa n)=.ok n:=by
 unfold Lib.itoa;split;rename_i h;have e:Lib.parseMag (Lib.decDigits n.natAbs)=.ok n.natAbs:=by rw[Lib.parseMag,aE (qQ _),KG _ Zs]
 have a:(45:cL).toNat=45:=rfl;simp only[Lib.atoiAll,a,or_true,if_true,e];rw[aE ZZ,aE ZD];simp;omega;rename_i h;have e:Lib.parseMag (Lib.decDigits n.toNat)=.ok n.toNat:=by rw[Lib.parseMag,aE (qQ _),KG _ Zs]
 cases hd:Lib.decDigits n.toNat with
 |nil=>exact cj hd (qQ _)
 |cons c r=>
  have f:=pG n.toNat c (by rw[hd];simp);rw[hd]at e;have b:¬ (c.toNat=43∨c.toNat=45):=Zs
  have a:¬ c.toNat=45:=Zs
  simp only[Lib.atoiAll,aE b,e];rw[aE Zs,aE Zs,aE a];congr 1;omega
def kD(acc:Nat):By->Nat
 |[]=>acc
 |b::l=>kD (if 48<=b.toNat∧b.toNat<=57 then 10*acc+(b.toNat-48)else acc) l
def kE(s:By):Int:=if s.head?=some 45 then -(kD 0 (s.take 18):Nat)else(kD 0 (s.take 18):Nat)
def KH:∀(l m:By) (acc:Nat),kD acc (l++m)=kD (kD acc l) m
 |[],m,acc=>rfl
 |b::l,m,acc=>by show kD acc (b::(l++m))=_;rw[kD,kD,KH l m]
def SN(u:Nat):kD 0 (Lib.decDigits u)=u:=by
 induction u using Nat.strongRecOn with
 |_ u ih=>rw[Lib.decDigits];split;rename_i h;rw[kD,kD,abG _ h,cg Zs];omega;rename_i h;have a:=ajq u (show 0<10 by omega);rw[KH,ih (u / 10) Zs,kD,kD,abG _ a,cg Zs];omega
def Im:∀(l:By) (acc:Nat),kD acc l<(acc+1)*10^l.length
 |[],acc=>by simp[kD]
 |b::l,acc=>by rw[kD];have h1:=Im l (if 48<=b.toNat∧b.toNat<=57 then 10*acc+(b.toNat-48)else acc);refine aP h1 ?_;rw[aa5,ata,ajr (10^l.length) 10,← Nat.mul_assoc];refine U0 _ ?_;split<;>omega
def mo:∀(k u:Nat),u<10^(k+1)->Lib.nDigits u<=k+1
 |0,u,h=>by rw[Lib.nDigits_small (by simpa using h)];omega
 |k+1,u,h=>by by_cases hu:u<10;rw[Lib.nDigits_small hu];omega;rw[ata]at h;have:=mo k (u / 10) Zs;rw[Lib.nDigits_big hu];omega
def ND(h0:-100000000000000000<n)(d:n<100000000000000000):kE (Lib.itoa n)=n:=by
 have a:(10:Nat)^17=100000000000000000:=ZS
 unfold Lib.itoa;split;rename_i h;have b:(Lib.decDigits n.natAbs).length<=17:=by rw[Lib.decDigits_length];exact mo 16 _ (by rw[a];omega)
 unfold kE;rw[cg (show(45::Lib.decDigits n.natAbs).head?=some 45 from rfl),P9 ZD,kD];have:¬ (48<=(45:cL).toNat∧(45:cL).toNat<=57):=ZS
 rw[aE this,SN];omega;rename_i h;have b:(Lib.decDigits n.toNat).length<=17:=by rw[Lib.decDigits_length];exact mo 16 _ (by rw[a];omega)
 unfold kE;rw[aE,P9 Zs,SN];omega;cases hd:Lib.decDigits n.toNat with
 |nil=>simp
 |cons c r=>have e:=pG n.toNat c (by rw[hd];simp);simp;rintro rfl;have:(45:cL).toNat=45:=rfl;omega
def abI(s:By):-9223372036854775808<=kE s∧kE s<9223372036854775808:=by
 have h:=Im (s.take 18) 0;have a:(s.take 18).length<=18:=by rw[ajv];omega
 have b:=at1 (n:=10) ZS a;have e:(10:Nat)^18=1000000000000000000:=ZS
 unfold kE;split<;>omega
def K5:By:=[102,97,99,116]
def sw:By:=[102,105,108,109]
def mD:By:=[103,97,117,103,101]
def CG:By:=[117,115,101]
def sD:By:=[108,111,97,110]
def V8:By:=[99,111,109,112,97,114,101]
def vP:By:=[109,105,120]
def eD:By:=[119,105,116,104,100,114,97,119]
def kA:By:=[97]
def kB:By:=[98]
def C9(w:By)(l:cQ):By:=w++(l.map λn=>32::Lib.itoa n).flatten
def Gc(w:By):C9 w []=w:=by simp[C9]
def Vz(w:By)(l:cQ)(n:Int):C9 w (l++[n])=C9 w l++(32::Lib.itoa n):=by simp[C9]
def VA(w:By)(n:Int)(l:cQ):C9 w (n::l)=C9 (w++(32::Lib.itoa n)) l:=by simp[C9]
def G9(r:FR):cQ:=[r.f.room,r.f.no,r.f.known,r.f.kind]
def U7(r:FR):By:=
 if r.f.kind=1 then C9 sw [r.f.flo,r.f.fhi]
 else if r.f.kind=2 then C9 mD [r.f.gid,r.f.made,r.f.nom,r.f.tlo,r.f.thi,r.f.gn,r.f.gd,r.f.wear]
 else if r.f.kind=3 then C9 CG [r.f.ug,r.f.ud]
 else if r.f.kind=4 then C9 sD [r.f.lg,r.f.ll,r.f.lh,r.f.lw]
 else if r.f.kind=5 then C9 V8 [r.f.cday,r.f.diff,r.f.err,r.f.hlo,r.f.hhi]++C9 (32::kA) r.a++C9 (32::kB) r.b
 else if r.f.kind=6 then C9 vP [r.f.mday]++C9 [] r.l
 else if r.f.kind=7 then C9 eD [r.f.tr,r.f.tn]
 else[]
def C8(r:FR):By:=C9 K5 (G9 r)++[10]++U7 r++[10]
def aX(l:cQ):cP:=l.map Lib.itoa
def kW(r:FR):By×cP:=
 if r.f.kind=1 then(sw,aX [r.f.flo,r.f.fhi])
 else if r.f.kind=2 then(mD,aX [r.f.gid,r.f.made,r.f.nom,r.f.tlo,r.f.thi,r.f.gn,r.f.gd,r.f.wear])
 else if r.f.kind=3 then(CG,aX [r.f.ug,r.f.ud])
 else if r.f.kind=4 then(sD,aX [r.f.lg,r.f.ll,r.f.lh,r.f.lw])
 else if r.f.kind=5 then(V8,aX [r.f.cday,r.f.diff,r.f.err,r.f.hlo,r.f.hhi]++kA::(aX r.a++kB::aX r.b))
 else if r.f.kind=6 then(vP,aX (r.f.mday::r.l))
 else if r.f.kind=7 then(eD,aX [r.f.tr,r.f.tn])
 else([],[])
def iO(w:By)(l:cQ):C9 w l=w++((aX l).map (32 :: ·)).flatten:=by simp only[C9,aX,axH];rfl
def wX(r:FR):U7 r=(kW r).1++((kW r).2.map (32 :: ·)).flatten:=by unfold U7 kW;by_cases h1:r.f.kind=1;simp only[cg h1,iO];by_cases h2:r.f.kind=2;simp only[aE h1,cg h2,iO];by_cases h3:r.f.kind=3;simp only[aE h1,aE h2,cg h3,iO];by_cases h4:r.f.kind=4;simp only[aE h1,aE h2,aE h3,cg h4,iO];by_cases h5:r.f.kind=5;simp only[aE h1,aE h2,aE h3,aE h4,cg h5,iO];simp;by_cases h6:r.f.kind=6;simp only[aE h1,aE h2,aE h3,aE h4,aE h5,cg h6,iO];simp[aX];by_cases h7:r.f.kind=7;simp only[aE h1,aE h2,aE h3,aE h4,aE h5,aE h6,cg h7,iO];simp only[aE h1,aE h2,aE h3,aE h4,aE h5,aE h6,aE h7];rfl
def eY(l:cQ):∀x∈aX l,Tok x:=λx a=>by obtain⟨n,_,rfl⟩:=adg.1 a;exact abH n
def nJ{w:By}(h:(!w.isEmpty&&w.all λb=>decide (33<=b.toNat)&&decide (b.toNat<127))=true):Tok w:=by simp only[oo,agT,ck]at h;exact⟨by rintro rfl;simp at h,h.2⟩
def Az:Tok K5:=nJ ZS
def aiq:Tok kA:=nJ ZS
def air:Tok kB:=nJ ZS
def kindOk(r:FR):Prop:=1<=r.f.kind∧r.f.kind<=7
def AA(b:kindOk r):Tok (kW r).1∧∀x∈(kW r).2,Tok x:=by unfold kW;obtain⟨c,d⟩:=b;by_cases h1:r.f.kind=1;simp only[cg h1];exact⟨nJ ZS,eY _⟩;by_cases h2:r.f.kind=2;simp only[aE h1,cg h2];exact⟨nJ ZS,eY _⟩;by_cases h3:r.f.kind=3;simp only[aE h1,aE h2,cg h3];exact⟨nJ ZS,eY _⟩;by_cases h4:r.f.kind=4;simp only[aE h1,aE h2,aE h3,cg h4];exact⟨nJ ZS,eY _⟩;by_cases h5:r.f.kind=5;simp only[aE h1,aE h2,aE h3,aE h4,cg h5];refine⟨nJ ZS,λx a=>?_⟩;rcases LA.1 a with a|a;exact eY _ x a;rcases O4.1 a with rfl|a;exact aiq;rcases LA.1 a with a|a;exact eY _ x a;rcases O4.1 a with rfl|a;exact air;exact eY _ x a;by_cases h6:r.f.kind=6;simp only[aE h1,aE h2,aE h3,aE h4,aE h5,cg h6];exact⟨nJ ZS,eY _⟩;by_cases h7:r.f.kind=7;simp only[aE h1,aE h2,aE h3,aE h4,aE h5,aE h6,cg h7];exact⟨nJ ZS,eY _⟩;omega
def Xv(r:FR):cP:=K5::aX (G9 r)++(kW r).1::(kW r).2
def SQ(c:kindOk r):Lib.fields (C8 r)=Xv r:=by
 obtain⟨d,f⟩:=AA c;have a:=zX (aX (G9 r)) K5 10 ((kW r).1++((kW r).2.map (32 :: ·)).flatten++10 :: []) Az (eY _) ZS;have b:=zX (kW r).2 (kW r).1 10 [] d f ZS;have e:C8 r=K5++((aX (G9 r)).map (32 :: ·)).flatten++10::((kW r).1++((kW r).2.map (32 :: ·)).flatten++10 :: []):=by rw[C8,wX,iO];simp
 rw[Lib.fields,e,a,b];simp[Xv,Lib.fieldsGo]
def abJ{ws:cP}(h:∀x∈ws,Tok x):∀b∈(ws.map (32 :: ·)).flatten,b.toNat<128∧b≠10:=λb a=>by obtain⟨l,d,c⟩:=List.mem_flatten.1 a;obtain⟨w,e,rfl⟩:=adg.1 d;rcases O4.1 c with rfl|a;decide;have:=(h w e).2 b a;exact⟨Zs,by rintro rfl;exact cj this.1 ZS⟩
def CJ{w:By}(h:Tok w){c:cL}(d:c.toNat<33):∀b∈w,b≠c:=λb a e=>by have:=(h.2 b a).1;rw[e]at this;omega
def Io{w:By}{ws:cP}(c:Tok w)(h:∀x∈ws,Tok x):∀b∈w++(ws.map (32 :: ·)).flatten,b.toNat<128∧b≠10:=λb a=>by rcases LA.1 a with a|a;exact⟨by have:=c.2 b a;omega,CJ c ZS b a⟩;exact abJ h b a
def Gf(r:FR):C9 K5 (G9 r)=K5++((aX (G9 r)).map (32 :: ·)).flatten:=iO _ _
def VB(d:kindOk r):∀b∈C8 r,b.toNat<128:=λb a=>by
 obtain⟨e,f⟩:=AA d;rw[C8,wX,Gf]at a;have c:(10:cL).toNat<128:=ZS
 simp only[LA,lM]at a;rcases a with ((a|rfl)|a)|rfl;exact(Io Az (eY _) b (LA.2 a)).1;exact c;exact(Io e f b (LA.2 a)).1;exact c
def KI(d:kindOk r):cA 10 (C8 r)=[C9 K5 (G9 r),U7 r,[]]:=by
 obtain⟨e,f⟩:=AA d;have:=qg 10 [U7 r,[]] (C9 K5 (G9 r)) (λb a=>by
  rw[Gf]at a;exact(Io Az (eY _) b a).2) (λx c b a=>by
  rcases O4.1 c with rfl|c;rw[wX]at a;exact(Io e f b a).2;simp at c;subst c;simp at a)
 rw[← this];congr 1;simp[C8]
def VD(r:FR):cA 32 (C9 K5 (G9 r))=K5::aX (G9 r):=by rw[Gf];exact qg 32 _ _ (CJ Az ZS) (λx a=>CJ (eY _ x a) ZS)
def VE(a:kindOk r):cA 32 (U7 r)=(kW r).1::(kW r).2:=by obtain⟨c,d⟩:=AA a;rw[wX];exact qg 32 _ _ (CJ c ZS) (λx b=>CJ (d x b) ZS)
set_option maxHeartbeats 4000000
def FR.cn(r:FR):FR:=⟨{r.f with A:=nS,B:=nS,L:=nS},r.a,r.b,r.l⟩
abbrev FR.valid(r:FR):Bool:=fq r.f r.a r.b r.l
def abK(f:D6)(A B L:j5)(a b l:cQ):qB {f with A:=A,B:=B,L:=L} a b l=qB f a b l:=by unfold qB NA Y0 SF tL eZ Md Vu;rfl
def af2{g f' g':D6}(r:{f with A:=nS,B:=nS,L:=nS}=({f' with A:=nS,B:=nS,L:=nS}:D6))
   (s:{g with A:=nS,B:=nS,L:=nS}=({g' with A:=nS,B:=nS,L:=nS}:D6)) (a b l a' b' l':cQ):
   bX f g a b l a' b' l'=bX f' g' a b l a' b' l':=by
 obtain⟨j,f2,k,m,n,o,u,f6,E,F,c,h,v,G,i,x,I,e,d,p,t,z,A,B,C,f5,q,H,y,L,w,D⟩:=f;obtain⟨g1,g2,g3,g4,g5,g6,g7,g8,g9,J,K,M,N,O,P,Q,R,S,T,U,V,W,A',B',X,Y,Z,a0,a1,L',a2,a3⟩:=g;obtain⟨p1,p2,p3,p4,p5,p6,p7,p8,p9,a4,a5,a6,a7,a8,a9,aa,ab,ac,ad,ae,af,ag,A2,B2,ah,ai,aj,ak,al,L2,am,an⟩:=f';obtain⟨q1,q2,q3,q4,q5,q6,q7,q8,q9,ao,ap,aq,ar,au,av,aw,ax,ay,az,b0,b1,b2,A3,B3,b3,b4,b5,b6,b7,L3,b8,b9⟩:=g';simp only[D6.mk.injEq,true_and]at r s;obtain⟨rfl,rfl,rfl,rfl,rfl,rfl,rfl,rfl,rfl,rfl,rfl,rfl,rfl,rfl,rfl,rfl,rfl,rfl,rfl,rfl,rfl,rfl,rfl,rfl,rfl,rfl,rfl,rfl,rfl⟩:=r;obtain⟨rfl,rfl,rfl,rfl,rfl,rfl,rfl,rfl,rfl,rfl,rfl,rfl,rfl,rfl,rfl,rfl,rfl,rfl,rfl,rfl,rfl,rfl,rfl,rfl,rfl,rfl,rfl,rfl,rfl⟩:=s;unfold bX eH nW;rfl
def af3(f:D6):({U3 {f with A:=nS,B:=nS,L:=nS} with A:=nS,B:=nS,L:=nS}:D6)={U3 f with A:=nS,B:=nS,L:=nS}:=by unfold U3;simp only;by_cases h1:f.kind=1;simp only[cg h1];rfl;by_cases h2:f.kind=2;simp only[aE h1,cg h2];rfl;by_cases h3:f.kind=3;simp only[aE h1,aE h2,cg h3];rfl;by_cases h4:f.kind=4;simp only[aE h1,aE h2,aE h3,cg h4];rfl;by_cases h5:f.kind=5;simp only[aE h1,aE h2,aE h3,aE h4,cg h5];rfl;by_cases h6:f.kind=6;simp only[aE h1,aE h2,aE h3,aE h4,aE h5,cg h6];rfl;by_cases h7:f.kind=7;simp only[aE h1,aE h2,aE h3,aE h4,aE h5,aE h6,cg h7];rfl;simp only[aE h1,aE h2,aE h3,aE h4,aE h5,aE h6,aE h7];rfl
def iI(r:FR):r.cn.valid=r.valid:=by show fq _ r.a r.b r.l=fq _ r.a r.b r.l;unfold fq SK;refine congr (ci _ (show kC _=kC _ from rfl)) (congr (ci _ (abK r.f _ _ _ _ _ _)) ?_);exact af2 rfl (af3 r.f) _ _ _ _ _ _
def wY(r:FR):C8 r.cn=C8 r:=rfl
def jw(h:r.valid=true):kindOk r:=by simp only[FR.valid,fq,qB,oo]at h;obtain⟨_,h,_⟩:=h;unfold kindOk;by_cases h1:r.f.kind=1;omega;by_cases h2:r.f.kind=2;omega;by_cases h3:r.f.kind=3;omega;by_cases h4:r.f.kind=4;omega;by_cases h5:r.f.kind=5;omega;by_cases h6:r.f.kind=6;omega;by_cases h7:r.f.kind=7;omega;rw[aE h1,aE h2,aE h3,aE h4,aE h5,aE h6,aE h7]at h;cases h
def Sm(n:Int):Prop:=-1125899906842624<=n∧n<=1125899906842624
def PZ{xs:cQ}(h:Z9 (okB xs) xs.length 0=true):∀n∈xs,Sm n:=by
 have a:∀(j i:Nat),Z9 (okB xs) j i=true->∀t,i<=t->t<i+j->okB xs t=true:=by
  intro j;induction j with
  |zero=>intro i _ t b c;omega
  |succ j ih=>intro i h t b c;simp only[Z9,oo]at h;by_cases ht:t=i;subst ht;exact h.1;exact ih (i+1) h.2 t Zs Zs
 intro n e;obtain⟨i,d,rfl⟩:=agB e;have:=a _ _ h i Zs Zs;simp only[okB,oo,ck,kR d]at this;unfold Sm;omega
def nK(h:r.valid=true):∀n∈G9 r,Sm n:=by have b:=jw h;simp only[FR.valid,fq,kC,oo,ck]at h;unfold kindOk at b;intro n a;simp only[G9,O4,arj,or_false]at a;unfold Sm;rcases a with rfl|rfl|rfl|rfl<;>omega
structure ais(r:FR):Prop where
 k1:r.f.kind=1->Sm r.f.flo∧Sm r.f.fhi
 k2:r.f.kind=2->Sm r.f.gid∧Sm r.f.made∧Sm r.f.nom∧Sm r.f.tlo∧Sm r.f.thi∧Sm r.f.gn∧Sm r.f.gd∧Sm r.f.wear
 k3:r.f.kind=3->Sm r.f.ug∧Sm r.f.ud
 k4:r.f.kind=4->Sm r.f.lg∧Sm r.f.ll∧Sm r.f.lh∧Sm r.f.lw
 k5:r.f.kind=5->(Sm r.f.cday∧Sm r.f.diff∧Sm r.f.err∧Sm r.f.hlo∧Sm r.f.hhi)∧(∀n∈r.a,Sm n)∧(∀n∈r.b,Sm n)∧r.a.length<=6∧r.b.length<=6
 k6:r.f.kind=6->Sm r.f.mday∧(∀n∈r.l,Sm n)∧r.l.length<=5
 k7:r.f.kind=7->Sm r.f.tr∧Sm r.f.tn
def gM(h:r.valid=true):ais r:=by simp only[FR.valid,fq,qB,oo]at h;obtain⟨_,h,_⟩:=h;refine⟨λa=>?_,λa=>?_,λa=>?_,λa=>?_,λa=>?_,λa=>?_,λa=>?_⟩;rw[cg a]at h;simp only[NA,oo,ck]at h;unfold Sm;omega;rw[aE Zs,cg a]at h;simp only[Y0,Ga,oo,ck]at h;unfold Sm;omega;rw[aE Zs,aE Zs,cg a]at h;simp only[SF,oo,ck]at h;unfold Sm;omega;rw[aE Zs,aE Zs,aE Zs,cg a]at h;simp only[tL,oo,ck]at h;unfold Sm;omega;rw[aE Zs,aE Zs,aE Zs,aE Zs,cg a]at h;simp only[eZ,sj,oo,ck]at h;obtain⟨b,d,e,c,k,⟨f,g⟩,i,j⟩:=h;exact⟨by unfold Sm;omega,PZ f,PZ i,g,j⟩;rw[aE Zs,aE Zs,aE Zs,aE Zs,aE Zs,cg a]at h;simp only[Md,oo,ck]at h;obtain⟨b,d,e,c⟩:=h;exact⟨by unfold Sm;omega,PZ b,c⟩;rw[aE Zs,aE Zs,aE Zs,aE Zs,aE Zs,aE Zs,cg a]at h;simp only[Vu,oo,ck]at h;unfold Sm;omega
def nL(r:FR):FR:=⟨U3 r.f,if r.f.kind=5 then r.a else[],if r.f.kind=5 then r.b else[],if r.f.kind=6 then r.l else[]⟩
def af4{g:D6}(h:eH f g=true)(hc:f.cid=g.cid∧f.cday=g.cday∧f.diff=g.diff∧f.err=g.err∧f.hlo=g.hlo∧f.hhi=g.hhi)(hm:f.mday=g.mday):
   ({f with A:=nS,B:=nS,L:=nS}:D6)={g with A:=nS,B:=nS,L:=nS}:=by
 obtain⟨i,f2,j,k,l,m,q,f6,y,z,a,d,r,C,e,t,E,c,b,n,p,v,A,B,w,f5,o,D,u,L,s,x⟩:=f;obtain⟨g1,g2,g3,g4,g5,g6,g7,g8,g9,F,G,H,I,J,K,M,N,O,P,Q,R,S,A',B',T,U,V,W,X,L',Y,Z⟩:=g;simp only[eH,oo,ck]at h;obtain⟨⟨rfl,rfl⟩,rfl,rfl,⟨rfl,rfl⟩,⟨rfl,rfl,rfl,rfl,rfl,rfl,rfl,rfl⟩,⟨rfl,rfl⟩,⟨rfl,rfl,rfl,rfl⟩,rfl,rfl⟩:=h;obtain⟨rfl,rfl,rfl,rfl,rfl,rfl⟩:=hc;obtain rfl:=hm;rfl
def AB{s:FR}:bX r.f s.f r.a r.b r.l s.a s.b s.l=true↔r.cn=s.cn:=by
 constructor;intro h;simp only[bX,nW,oo,ck]at h;obtain⟨h1,⟨y,z,C,D,E,F,G,H⟩,h3,h4⟩:=h;unfold FR.cn;rw[af4 h1 ⟨y,z,C,D,E,F⟩ h3,G,H,h4];intro h;have c:r.cn.f=s.cn.f:=by rw[h]
 have d:r.a=s.a:=by have:r.cn.a=s.cn.a:=by rw[h]
                    exact this
 have e:r.b=s.b:=by have:r.cn.b=s.cn.b:=by rw[h]
                    exact this
 have i:r.l=s.l:=by have:r.cn.l=s.cn.l:=by rw[h]
                    exact this
 obtain⟨f,a,b,l⟩:=r;obtain⟨g,a',b',l'⟩:=s;obtain⟨p,f2,q,t,u,v,J,f6,S,T,j,n,K,U,o,N,W,m,k,w,I,P,A,B,Q,f5,x,V,O,L,M,R⟩:=f;obtain⟨g1,g2,g3,g4,g5,g6,g7,g8,g9,X,Y,Z,a0,a1,a2,a3,a4,a5,a6,a7,a8,a9,A',B',aa,ab,ac,ad,ae,L',af,ag⟩:=g;simp only[FR.cn,D6.mk.injEq,true_and]at c;simp only at d e i;subst d e i;obtain⟨rfl,rfl,rfl,rfl,rfl,rfl,rfl,rfl,rfl,rfl,rfl,rfl,rfl,rfl,rfl,rfl,rfl,rfl,rfl,rfl,rfl,rfl,rfl,rfl,rfl,rfl,rfl,rfl,rfl⟩:=c;simp[bX,eH,nW]
def CK(h:r.valid=true):r.cn=(nL r).cn:=by simp only[FR.valid,fq,SK,oo]at h;exact AB.1 h.2.2
def KJ(w:By):Option Int:=match Lib.atoiAll w with
 |.ok v=>some v
 |_=>none
def NG(h:Sm n):KJ (Lib.itoa n)=some n:=by unfold Sm at h;rw[KJ,Gb Zs Zs]
def pN:cP->(Int->cP->Option α)->Option α
 |[],_=>none
 |w::ws,k=>(KJ w).bind λv=>k v ws
def pW(s:By):cP->(cP->Option α)->Option α
 |[],_=>none
 |w::ws,k=>if w=s then k ws else none
def Ie(e:By):cP->Option (cQ×cP)
 |[]=>some ([],[])
 |w::ws=>if w=e then some ([],w::ws)else(KJ w).bind λv=>(Ie e ws).bind λp=>some (v::p.1,p.2)
def zF(room no known kind:Int):D6:=aG ⟨room,no,known,kind,0,0,0,0,0,0,0,0,0,0,0,0,0,0,0,0,0,0,nS,nS,0,0,0,0,0,nS,0,0⟩
def parseBody(h:D6)(ws:cP):Option FR:=
 if h.kind=1 then pW sw ws λws=>pN ws λlo ws=>pN ws λhi ws=>some ⟨{h with flo:=lo,fhi:=hi},[],[],[]⟩
 else if h.kind=2 then pW mD ws λws=>pN ws λgid ws=>pN ws λmade ws=>pN ws λnom ws=>pN ws λtlo ws=>pN ws λthi ws=>pN ws λgn ws=>pN ws λgd ws=>pN ws λwear ws=>some ⟨{h with gid:=gid,made:=made,nom:=nom,tlo:=tlo,thi:=thi,gn:=gn,gd:=gd,wear:=wear},[],[],[]⟩
 else if h.kind=3 then pW CG ws λws=>pN ws λug ws=>pN ws λud ws=>some ⟨{h with ug:=ug,ud:=ud},[],[],[]⟩
 else if h.kind=4 then pW sD ws λws=>pN ws λlg ws=>pN ws λll ws=>pN ws λlh ws=>pN ws λlw ws=>some ⟨{h with lg:=lg,ll:=ll,lh:=lh,lw:=lw},[],[],[]⟩
 else if h.kind=5 then pW V8 ws λws=>pN ws λcday ws=>pN ws λdiff ws=>pN ws λerr ws=>pN ws λhlo ws=>pN ws λhhi ws=>pW kA ws λws=>(Ie kB ws).bind λp=>pW kB p.2 λws=>(Ie [] ws).bind λq=>some ⟨{h with cday:=cday,diff:=diff,err:=err,hlo:=hlo,hhi:=hhi},p.1,q.1,[]⟩
 else if h.kind=6 then pW vP ws λws=>pN ws λmday ws=>(Ie [] ws).bind λp=>some ⟨{h with mday:=mday},[],[],p.1⟩
 else if h.kind=7 then pW eD ws λws=>pN ws λtr ws=>pN ws λtn ws=>some ⟨{h with tr:=tr,tn:=tn},[],[],[]⟩
 else none
def parse(ws:cP):Option FR:=
 pW K5 ws λws=>pN ws λroom ws=>pN ws λno ws=>pN ws λknown ws=>pN ws λkind ws=>parseBody (zF room no known kind) ws
def nO(s:By)(ws:cP)(k:cP->Option α):pW s (s::ws) k=k ws:=by rw[pW,cg rfl]
def bF(h:Sm n)(ws:cP)(k:Int->cP->Option α):pN (Lib.itoa n::ws) k=k n ws:=by rw[pN,NG h];rfl
def Gg{e:By}(he:∀n:Int,Lib.itoa n≠e):∀(l:cQ) (t:cP),(∀n∈l,Sm n)->(t=[]∨∃u,t=e::u)->Ie e (aX l++t)=some (l,t)
 |[],t,_,ht=>by rcases ht with rfl|⟨u,rfl⟩;rfl;show Ie e (e::u)=_;rw[Ie,cg rfl]
 |n::l,t,hl,ht=>by show Ie e (Lib.itoa n::(aX l++t))=_;rw[Ie,aE (he n),NG (hl n ZZ),Gg he l t (λx hx=>hl x (by simp[hx])) ht];rfl
def Ip(n:Int):Lib.itoa n≠kB:=λh=>by have:=KD n 98 (by rw[h];decide);exact cj this.2 ZS
def qh(r:FR):(nL r).cn=⟨{U3 r.f with A:=nS,B:=nS,L:=nS},(nL r).a,(nL r).b,(nL r).l⟩:=rfl
def VF(h:r.valid=true):parse (Xv r)=some r.cn:=by
 have o:=nK h;have g:=gM h;have t:=jw h;obtain⟨F,G⟩:=t;simp only[G9,O4,arj,or_false,forall_eq_or_imp,forall_eq]at o;obtain⟨B,C,D,E⟩:=o;have q:parse (Xv r)=parseBody (zF r.f.room r.f.no r.f.known r.f.kind) ((kW r).1::(kW r).2):=by show parse (K5::Lib.itoa r.f.room::Lib.itoa r.f.no::Lib.itoa r.f.known::Lib.itoa r.f.kind::((kW r).1::(kW r).2))=_;rw[parse,nO,bF B,bF C,bF D,bF E]
 rw[q,CK h];have s:(zF r.f.room r.f.no r.f.known r.f.kind).kind=r.f.kind:=rfl;unfold parseBody kW;rw[s];have u:=Gg (e:=kB) Ip;have p:=Gg (e:=[]) Xu;by_cases h1:r.f.kind=1;obtain⟨c,d⟩:=g.k1 h1;simp only[cg h1];show pW sw (sw::Lib.itoa r.f.flo::Lib.itoa r.f.fhi :: []) _=_;rw[nO,bF c,bF d,qh];simp[nL,U3,h1,aG,zF];by_cases h2:r.f.kind=2;obtain⟨c,d,k,m,n,v,w,x⟩:=g.k2 h2;simp only[aE h1,cg h2];show pW mD (mD::Lib.itoa r.f.gid::Lib.itoa r.f.made::Lib.itoa r.f.nom::Lib.itoa r.f.tlo::Lib.itoa r.f.thi::Lib.itoa r.f.gn::Lib.itoa r.f.gd::Lib.itoa r.f.wear :: []) _=_;rw[nO,bF c,bF d,bF k,bF m,bF n,bF v,bF w,bF x,qh];simp[nL,U3,h2,aG,zF];by_cases h3:r.f.kind=3;obtain⟨c,d⟩:=g.k3 h3;simp only[aE h1,aE h2,cg h3];show pW CG (CG::Lib.itoa r.f.ug::Lib.itoa r.f.ud :: []) _=_;rw[nO,bF c,bF d,qh];simp[nL,U3,h3,aG,zF];by_cases h4:r.f.kind=4;obtain⟨c,d,k,m⟩:=g.k4 h4;simp only[aE h1,aE h2,aE h3,cg h4];show pW sD (sD::Lib.itoa r.f.lg::Lib.itoa r.f.ll::Lib.itoa r.f.lh::Lib.itoa r.f.lw :: []) _=_;rw[nO,bF c,bF d,bF k,bF m,qh];simp[nL,U3,h4,aG,zF];by_cases h5:r.f.kind=5;obtain⟨⟨c,d,k,m,n⟩,y,z,_,_⟩:=g.k5 h5;have j:r.f.cid=0:=by have i:=h;simp only[FR.valid,fq,qB,oo]at i;obtain⟨_,i,_⟩:=i;rw[aE h1,aE h2,aE h3,aE h4,cg h5]at i;simp only[eZ,oo,ck]at i;exact i.1
 simp only[aE h1,aE h2,aE h3,aE h4,cg h5];show pW V8 (V8::Lib.itoa r.f.cday::Lib.itoa r.f.diff::Lib.itoa r.f.err::Lib.itoa r.f.hlo::Lib.itoa r.f.hhi::kA::(aX r.a++kB::aX r.b)) _=_;rw[nO,bF c,bF d,bF k,bF m,bF n,nO,u r.a _ y (.inr ⟨_,rfl⟩),agU,nO];have:=p r.b [] z (.inl rfl);rw[agA]at this;rw[this,agU,qh];simp[nL,U3,h5,aG,zF,j];by_cases h6:r.f.kind=6;obtain⟨c,A,_⟩:=g.k6 h6;simp only[aE h1,aE h2,aE h3,aE h4,aE h5,cg h6];show pW vP (vP::Lib.itoa r.f.mday::aX r.l) _=_;have:=p r.l [] A (.inl rfl);rw[agA]at this;rw[nO,bF c,this,agU,qh];simp[nL,U3,h6,aG,zF];by_cases h7:r.f.kind=7;obtain⟨c,d⟩:=g.k7 h7;simp only[aE h1,aE h2,aE h3,aE h4,aE h5,aE h6,cg h7];show pW eD (eD::Lib.itoa r.f.tr::Lib.itoa r.f.tn :: []) _=_;rw[nO,bF c,bF d,qh];simp[nL,U3,h7,aG,zF];omega
def kX(text:By)(r:FR):Prop:=r.valid=true∧C8 r=text
def tN{text:By}(h:kX text r):parse (Lib.fieldsD text)=some r.cn:=by obtain⟨a,rfl⟩:=h;have b:=jw a;rw[Lib.fieldsD_ascii _ (VB b),SQ b,VF a]
def VG{text:By}{s:FR}(h:kX text r)(k:kX text s):r.cn=s.cn:=by have:=(tN h).symm.trans (tN k);exact rW this
def zY(many:Nat)(l:cQ):cQ:=l++List.replicate (many-l.length) 0
def dU(w:cP)(many:Nat):cQ:=zY many ((w.drop 1).map kE)
def aK:Nat->cP->cQ×cQ
 |_,[]=>([],[])
 |k,w::ws=>if w=kA then aK 1 ws else if w=kB then aK 2 ws
  else if k=1 then(kE w::(aK k ws).1,(aK k ws).2)else if k=2 then((aK k ws).1,kE w::(aK k ws).2)else aK k ws
def zZ(h:D6)(n:cQ)(w:cP):FR:=
 if h.kind=1 then⟨{h with flo:=n.getD 0 0,fhi:=n.getD 1 0},[],[],[]⟩
 else if h.kind=2 then⟨{h with gid:=n.getD 0 0,made:=n.getD 1 0,nom:=n.getD 2 0,tlo:=n.getD 3 0,thi:=n.getD 4 0,gn:=n.getD 5 0,gd:=n.getD 6 0,wear:=n.getD 7 0},[],[],[]⟩
 else if h.kind=3 then⟨{h with ug:=n.getD 0 0,ud:=n.getD 1 0},[],[],[]⟩
 else if h.kind=4 then⟨{h with lg:=n.getD 0 0,ll:=n.getD 1 0,lh:=n.getD 2 0,lw:=n.getD 3 0},[],[],[]⟩
 else if h.kind=5 then⟨{h with cday:=n.getD 0 0,diff:=n.getD 1 0,err:=n.getD 2 0,hlo:=n.getD 3 0,hhi:=n.getD 4 0},(aK 0 w).1,(aK 0 w).2,[]⟩
 else if h.kind=6 then⟨{h with mday:=n.getD 0 0},[],[],(dU w 0).drop (min (w.length-1) 1)⟩
 else if h.kind=7 then⟨{h with tr:=n.getD 0 0,tn:=n.getD 1 0},[],[],[]⟩
 else⟨h,[],[],[]⟩
def abL(l0:By):D6:=zF ((dU (cA 32 l0) 4).getD 0 0) ((dU (cA 32 l0) 4).getD 1 0) ((dU (cA 32 l0) 4).getD 2 0) ((dU (cA 32 l0) 4).getD 3 0)
def SV(l0 l1:By):FR:=zZ (abL l0) (dU (cA 32 l1) 8) (cA 32 l1)
def Er(h:Sm n):kE (Lib.itoa n)=n:=by unfold Sm at h;exact ND Zs Zs
def CP:∀(l:cQ),(∀n∈l,Sm n)->(aX l).map kE=l
 |[],_=>rfl
 |n::l,h=>by show kE (Lib.itoa n)::(aX l).map kE=_;rw[Er (h n ZZ),CP l (λx hx=>h x (by simp[hx]))]
def jh(w:By)(l:cQ)(a:Nat)(h:∀n∈l,Sm n):dU (w::aX l) a=zY a l:=by rw[dU,List.drop_succ_cons,W9,CP l h]
def Qa(n:Int):Lib.itoa n≠kA:=λh=>by have:=KD n 97 (by rw[h];decide);exact cj this.2 ZS
def Xw:∀(l:cQ) (t:cP),(∀n∈l,Sm n)->aK 1 (aX l++t)=(l++(aK 1 t).1,(aK 1 t).2)
 |[],t,_=>rfl
 |n::l,t,h=>by show aK 1 (Lib.itoa n::(aX l++t))=_;rw[aK,aE (Qa n),aE (Ip n),cg rfl,Er (h n ZZ),Xw l t (λx hx=>h x (by simp[hx]))];rfl
def Xx:∀(l:cQ),(∀n∈l,Sm n)->aK 2 (aX l)=([],l)
 |[],_=>rfl
 |n::l,h=>by show aK 2 (Lib.itoa n::aX l)=_;rw[aK,aE (Qa n),aE (Ip n),aE Zs,cg rfl,Er (h n ZZ),Xx l (λx hx=>h x (by simp[hx]))]
def Xy:∀(l:cQ) (t:cP),aK 0 (aX l++t)=aK 0 t
 |[],t=>rfl
 |n::l,t=>by show aK 0 (Lib.itoa n::(aX l++t))=_;rw[aK,aE (Qa n),aE (Ip n),aE Zs,aE Zs,Xy l t]
def VH(h:r.valid=true):SV (C9 K5 (G9 r)) (U7 r)=r.cn:=by
 have u:=nK h;have c:=gM h;have k:=jw h;have o:abL (C9 K5 (G9 r))=zF r.f.room r.f.no r.f.known r.f.kind:=by unfold abL;rw[VD,jh _ _ _ u];rfl
 have s:(zF r.f.room r.f.no r.f.known r.f.kind).kind=r.f.kind:=rfl;rw[SV,o,VE k,CK h,qh];obtain⟨C,D⟩:=k;unfold zZ kW;rw[s];by_cases h1:r.f.kind=1;simp only[cg h1];rw[jh _ _ _ (by simpa using c.k1 h1)];simp[nL,U3,h1,aG,zF,zY];by_cases h2:r.f.kind=2;simp only[aE h1,cg h2];rw[jh _ _ _ (by simpa using c.k2 h2)];simp[nL,U3,h2,aG,zF,zY];by_cases h3:r.f.kind=3;simp only[aE h1,aE h2,cg h3];rw[jh _ _ _ (by simpa using c.k3 h3)];simp[nL,U3,h3,aG,zF,zY];by_cases h4:r.f.kind=4;simp only[aE h1,aE h2,aE h3,cg h4];rw[jh _ _ _ (by simpa using c.k4 h4)];simp[nL,U3,h4,aG,zF,zY];by_cases h5:r.f.kind=5;obtain⟨q,z,A,_,_⟩:=c.k5 h5;have e:r.f.cid=0:=by have d:=h;simp only[FR.valid,fq,qB,oo]at d;obtain⟨_,d,_⟩:=d;rw[aE h1,aE h2,aE h3,aE h4,cg h5]at d;simp only[eZ,oo,ck]at d;exact d.1
 simp only[aE h1,aE h2,aE h3,aE h4,cg h5];have g:∃t,dU (V8::(aX [r.f.cday,r.f.diff,r.f.err,r.f.hlo,r.f.hhi]++kA::(aX r.a++kB::aX r.b))) 8=r.f.cday::r.f.diff::r.f.err::r.f.hlo::r.f.hhi::t:=by obtain⟨j,v,w,x,y⟩:=q;refine⟨(kA::(aX r.a++kB::aX r.b)).map kE++List.replicate (8-((aX [r.f.cday,r.f.diff,r.f.err,r.f.hlo,r.f.hhi]++kA::(aX r.a++kB::aX r.b)).map kE).length) 0,?_⟩;rw[dU,zY,List.drop_succ_cons,W9,ajo,CP [r.f.cday,r.f.diff,r.f.err,r.f.hlo,r.f.hhi] (by simp;exact⟨j,v,w,x,y⟩)];rfl
 obtain⟨t,g⟩:=g;have p:aK 0 (V8::(aX [r.f.cday,r.f.diff,r.f.err,r.f.hlo,r.f.hhi]++kA::(aX r.a++kB::aX r.b)))=(r.a,r.b):=by rw[aK,aE ZS,aE ZS,aE Zs,aE Zs,Xy,aK,cg rfl,Xw _ _ z,aK,aE ZS,cg rfl,Xx _ A];simp
 rw[g,p];simp[nL,U3,h5,aG,zF,e];by_cases h6:r.f.kind=6;obtain⟨j,B,_⟩:=c.k6 h6;have m:∀n∈r.f.mday::r.l,Sm n:=λn i=>by rcases O4.1 i with rfl|i;exact j;exact B n i
 simp only[aE h1,aE h2,aE h3,aE h4,aE h5,cg h6];rw[jh _ _ _ m,jh _ _ _ m];simp[nL,U3,h6,aG,zF,zY,aX];by_cases h7:r.f.kind=7;simp only[aE h1,aE h2,aE h3,aE h4,aE h5,aE h6,cg h7];rw[jh _ _ _ (by simpa using c.k7 h7)];simp[nL,U3,h7,aG,zF,zY];omega
def bZ:By:=[114,101,99,111,114,100]
def Qb(n:Nat):By->Nat
 |[]=>n
 |b::l=>Qb ((31*n+b.toNat+1)%2147483647) l
def mW(s:By):Nat:=Qb 0 s
def NH:∀(l:By) (n:Nat) (b:cL),Qb n (l++[b])=(31*Qb n l+b.toNat+1)%2147483647
 |[],n,b=>rfl
 |c::l,n,b=>by show Qb n (c::(l++[b]))=_;rw[Qb,NH l,Qb]
def Xz:∀(l:By) (n:Nat),n<2147483647->Qb n l<2147483647
 |[],n,h=>h
 |c::l,n,h=>by rw[Qb];exact Xz l _ (ajq _ Zs)
def Es(s:By):mW s<2147483647:=Xz s 0 Zs
def NI{s:By}{i:Nat}(h:i<s.length):mW (s.take (i+1))=(31*mW (s.take i)+(s[i]).toNat+1)%2147483647:=by rw[O7 h];exact NH _ _ _
def wZ:Nat->By->cP
 |0,_=>[]
 |k+1,s=>if s=[]then[]else s.take 64::wZ k (s.drop 64)
def chunks(s:By):cP:=wZ s.length s
def Hl:∀(k j:Nat) (s:By),s.length<=k->s.length<=j->wZ k s=wZ j s
 |0,j,s,hk,hj=>by obtain rfl:=U1.1 (show s.length=0 by omega);cases j<;>simp[wZ]
 |k+1,0,s,hk,hj=>by obtain rfl:=U1.1 (show s.length=0 by omega);simp[wZ]
 |k+1,j+1,s,hk,hj=>by rw[wZ,wZ];by_cases h:s=[];rw[cg h,cg h];have hp:=P6.2 h;rw[aE h,aE h,Hl k j (s.drop 64) ZD ZD]
def ji{s:By}(h:s≠[]):chunks s=s.take 64::chunks (s.drop 64):=by obtain⟨k,a⟩:∃k,s.length=k+1:=⟨s.length-1,by have:=P6.2 h;omega⟩;rw[chunks,a,wZ,aE h,chunks,Hl k (s.drop 64).length _ ZD (aA _)]
def dF:chunks []=[]:=rfl
def gI:∀(n:Nat) (s:By),s.length<=n->(chunks s).length<=s.length
 |0,s,h=>by obtain rfl:=U1.1 (show s.length=0 by omega);simp[dF]
 |n+1,s,h=>by by_cases hs:s=[];subst hs;simp[dF];have hp:=P6.2 hs;rw[ji hs];have:=gI n (s.drop 64) ZD;simp at this ⊢;omega
def iQ(n:Int)(s:By):cP:=C9 bZ [n,((chunks s).length:Int),(s.length:Int),(mW s:Int)]::chunks s
end Go.Proofs.YtpmfjipaheolgaaGreatDoor.TT
namespace Go.Proofs.YtpmfjipaheolgaaGreatDoor.TT
open Go Go.AM
open Nat (beq ble blt)
def uO:∀(f:Nat) (cur l:By),((Lib.fieldsGoD f cur l).map List.length).sum<=cur.length+l.length∧∀w∈Lib.fieldsGoD f cur l,w≠[]
 |0,cur,l=>by rw[Lib.fieldsGoD];split;simp;rename_i h;simp;exact h
 |f+1,cur,l=>by rw[Lib.fieldsGoD];split;split;simp;rename_i h;simp;exact h;split;obtain⟨h1,h2⟩:=uO f [] (l.drop (Lib.decodeL l).2);simp only[aww,P7,asa]at h1;split;simp only[O9];exact⟨Zs,h2⟩;rename_i h;refine⟨ZD,λw hw=>?_⟩;rcases O4.1 (by simpa using hw)with rfl|hw;exact h;exact h2 w hw;obtain⟨h1,h2⟩:=uO f (cur++l.take (Lib.decodeL l).2) (l.drop (Lib.decodeL l).2);simp only[aaf,ajv,asa]at h1;exact⟨Zs,h2⟩
def XA:∀(ws:cP),(∀w∈ws,w≠[])->ws.length<=(ws.map List.length).sum∧∀w∈ws,w.length<=(ws.map List.length).sum
 |[],_=>⟨ZZ,ZZ⟩
 |w::ws,h=>by obtain⟨h1,h2⟩:=XA ws (λx hx=>h x (by simp[hx]));have h0:=P6.2 (h w ZZ);refine⟨ZD,λx hx=>?_⟩;rcases O4.1 hx with rfl|hx;simp;have:=h2 x hx;simp;omega
def SX(s:By):(Lib.fieldsD s).length<=s.length∧∀w∈Lib.fieldsD s,w.length<=s.length:=by obtain⟨a,b⟩:=uO (s.length+1) [] s;obtain⟨c,d⟩:=XA _ b;simp only[aww,P7]at a;exact⟨dn c a,λw e=>dn (d w e) a⟩
def KL{n:Int}(h:Sm n):(Lib.itoa n).length<=17:=by
 have a:(10:Nat)^16=10000000000000000:=ZS
 unfold Sm at h;unfold Lib.itoa;split;have:=mo 15 n.natAbs (by rw[a];omega);rw[aa5,Lib.decDigits_length];omega;have:=mo 15 n.toNat (by rw[a];omega);rw[Lib.decDigits_length];omega
def aH(w:By):∀(l:cQ),(∀n∈l,Sm n)->(C9 w l).length<=w.length+18*l.length
 |[],_=>by rw[Gc];simp
 |n::l,h=>by rw[VA];have h1:=aH (w++32::Lib.itoa n) l (λx hx=>h x (by simp[hx]));have h2:=KL (h n ZZ);simp at h1 ⊢;omega
variable {r:FR}
def kT(h:r.valid=true):(U7 r).length<=400:=by have c:=gM h;have i:=jw h;obtain⟨n,o⟩:=i;unfold U7;by_cases h1:r.f.kind=1;rw[cg h1];have:=aH sw [r.f.flo,r.f.fhi] (by simpa using c.k1 h1);simp[sw]at this ⊢;omega;by_cases h2:r.f.kind=2;rw[aE h1,cg h2];have:=aH mD [r.f.gid,r.f.made,r.f.nom,r.f.tlo,r.f.thi,r.f.gn,r.f.gd,r.f.wear] (by simpa using c.k2 h2);simp[mD]at this ⊢;omega;by_cases h3:r.f.kind=3;rw[aE h1,aE h2,cg h3];have:=aH CG [r.f.ug,r.f.ud] (by simpa using c.k3 h3);simp[CG]at this ⊢;omega;by_cases h4:r.f.kind=4;rw[aE h1,aE h2,aE h3,cg h4];have:=aH sD [r.f.lg,r.f.ll,r.f.lh,r.f.lw] (by simpa using c.k4 h4);simp[sD]at this ⊢;omega;by_cases h5:r.f.kind=5;rw[aE h1,aE h2,aE h3,aE h4,cg h5];obtain⟨q,j,k,p,s⟩:=c.k5 h5;have d:=aH V8 [r.f.cday,r.f.diff,r.f.err,r.f.hlo,r.f.hhi] (by simpa using q);have e:=aH (32::kA) r.a j;have g:=aH (32::kB) r.b k;simp[V8,kA,kB]at d e g ⊢;omega;by_cases h6:r.f.kind=6;rw[aE h1,aE h2,aE h3,aE h4,aE h5,cg h6];obtain⟨q,m,t⟩:=c.k6 h6;have d:=aH vP [r.f.mday] (by simpa using q);have e:=aH [] r.l m;simp[vP]at d e ⊢;omega;by_cases h7:r.f.kind=7;rw[aE h1,aE h2,aE h3,aE h4,aE h5,aE h6,cg h7];have:=aH eD [r.f.tr,r.f.tn] (by simpa using c.k7 h7);simp[eD]at this ⊢;omega;omega
def jM(h:r.valid=true):(C9 K5 (G9 r)).length<=76:=by have:=aH K5 (G9 r) (nK h);simp[K5,G9]at this ⊢;omega
def eF(h:r.valid=true):(C8 r).length<=478:=by have a:=jM h;have b:=kT h;simp[C8]at a ⊢;omega
set_option maxRecDepth 100000
set_option maxHeartbeats 4000000
abbrev UN:j5:=.iface 288 (.agg [])
variable {v:j5}{off:Nat}
def CQ{M:cD}{id:Nat}{c:cM}(b:M.Ok)(a:id<M.nx)(h:M.lim<=id)(g:M.get id=some (j6 c))(d:off<c.length)(e:D8 v=true):
   ∃N,(∀{β:Type} (k:cD->Option β),storeAt M id off [v] k=k N)∧N.get id=some (j6 (c.set off v))∧bC id M N:=by
 refine⟨M.set id (j6 (c.set off v)),λk=>?_,by rw[cD.R9 b a,cg rfl],cD.Ok.set b a _,ZZ,rfl,λj l i=>by rw[cD.R9 b a,aE i]⟩;have f:H8 [v]=true:=by show bi (D8 v) true false=true;rw[e];rfl
 rw[bI h f,g,bR ZD d,I6];congr 2;rw[awT,cg d];rfl
def WS(lo:Nat)(m:cD)(p:Nat)(ws:cP):Prop:=p<lo∧∃v,m.get p=some (j6 [v])∧xR m v (strs ws)∧∀i o l c,v=.slice i o l c->i<lo
variable {m:cD}{ws:cP}{lo p:Nat}
def WS.mono{a:Nat}(h:WS lo m p ws)(j:lo<=a):WS a m p ws:=by obtain⟨g,v,b,d,e⟩:=h;exact⟨Zs,v,b,d,λi o l c f=>by have:=e i o l c f;omega⟩
variable {q:Nat}
def WS.fr{b:Nat}{g:cD}(h:WS lo m p ws)(f:Fr b q m g)(s:lo<=b)(a:lo<=q∨(q≠p∧∀n cF,m.get q≠some (.cells 1 n cF))):WS lo g p ws:=by
 obtain⟨j,v,k,r,e⟩:=h;have d:p≠q:=by rcases a with a|⟨a,_⟩<;>omega
 refine⟨j,v,by rw[f.old p Zs d];exact k,r.keep f.nx λi n cF _ hg ⟨o,l,c,hv⟩=>?_,e⟩;have t:=e i o l c hv;refine f.old i Zs ?_;rintro rfl;rcases a with a|⟨_,a⟩;omega;exact a n cF hg
def WS.ext{b:cD}(h:WS lo m p ws)(a:lo<=m.nx)(e:cE m b):WS lo b p ws:=h.fr (e.fr (p:=lo) a) (aA _) (.inl (aA _))
variable {w:By}
def aqP(f:m.get p=some (j6 [v]))(j:xR m v (strs (w::ws))):∀i o l c,v=.slice i o l c->i≠p:=by
 obtain⟨id,a,c,rfl,k,q,d⟩:=j;rintro i o l c' h rfl;cases h;rcases d with d|⟨n,cF,b,h5,h6⟩;cases d;rw[f]at b;have b:Y9.cells 1 1 (.nd .e [j5.slice id a (strs (w::ws)).length c] .e)=.cells 1 n cF:=rW b;injection b with _ h7 h8;subst h7 h8;have g:0<(strs (w::ws)).length:=by simp[strs]
 obtain rfl:a=0:=Zs
 have:=h6 0 g;rw[adh]at this;have this:[j5.slice id 0 (strs (w::ws)).length c]=[(strs (w::ws))[0]]:=rW this;simp[strs]at this
def SY(h:WS lo m p [])(n c:Nat):l9 KW c (n+1) (.func 371) [.ptr p 0] m=some [⟨.aL UN,m⟩]:=by obtain⟨_,v,d,e,_⟩:=h;have a:=e.vs.len;rw[en abd];have b:((strs []).length:Int)=0:=rfl;rw[b]at a;simp[abd,d,ku,a]
def NJ(x:m.Ok)(E:m.lim<=p)(h:WS lo m p (w::ws))(n D:Nat):
   ∃m',l9 KW D (n+1) (.func 371) [.ptr p 0] m=some [⟨.str w,m'⟩]∧bC p m m'∧WS lo m' p ws:=by
 obtain⟨j,v,k,y,s⟩:=h;have F:=cD.Q9 x k;have t:=aqP k y;have e:xR m v (.str w::strs ws):=y;obtain⟨K,d,G,g⟩:=e.tail;obtain⟨id,o,u,L,z⟩:=e.vs.at0;have a:=e.vs.len;obtain⟨N,J,q,X⟩:=CQ (off:=0) x F E k ZZ d.vs.D8;refine⟨N,?_,X,j,K,by simpa using q,d.keep X.nx λi n cF hi _ ⟨o,l,c,f⟩=>X.old i hi ?_,λi o l c f=>?_⟩;rw[en abd];have B:((((.str w::strs ws:cM)).length:Nat):Int)=((strs ws).length:Int)+1:=ZZ
 rw[B]at a;have C:decide (((strs ws).length:Int)+1=0)=false:=ZD
 have b:=d.vs.cells;simp at u;simp[abd,k,ku,a,u,z,G,J,C,b];obtain⟨I,H,A,r⟩:=g i o l c f;exact t _ _ _ _ r;obtain⟨I,H,A,r⟩:=g i o l c f;exact s _ _ _ _ r
def pI(b:m.Ok)(e:m.lim<=p)(h:WS lo m p ws)(s:By)(n a:Nat):
   (∃m',l9 KW a (n+2) (.func 264) [.ptr p 0,.str s] m=some [⟨.aL UN,m'⟩]∧bC p m m'∧∀(α:Type) (k:cP->Option α),pW s ws k=none)∨
   (∃t m',l9 KW a (n+2) (.func 264) [.ptr p 0,.str s] m=some [⟨.tuple [],m'⟩]∧bC p m m'∧WS lo m' p t∧ws=s::t∧∀(α:Type) (k:cP->Option α),pW s ws k=k t):=by
 cases ws with
 |nil=>refine .inl ⟨m,?_,bC.refl b,λ_ _=>rfl⟩;have g:=SY h n a;rw[en f264];simp[f264,g]
 |cons w t=>obtain⟨c,g,X,d⟩:=NJ b e h n a;by_cases hw:w=s;subst hw;refine .inr ⟨t,c,?_,X,d,rfl,λ_ _=>nO w t _⟩;rw[en f264];simp[f264,g];refine .inl ⟨c,?_,X,λ_ _=>by rw[pW,aE hw]⟩;rw[en f264];simp[f264,g,hw]
def abM{s:By}{v:Int}(h:Lib.atoiAll s=.ok v):-9223372036854775808<=v∧v<9223372036854775808:=by
 cases s with
 |nil=>cases h
 |cons c r=>simp only[Lib.atoiAll]at h;split at h;cases h;cases h;split at h;cases h;rename_i a;split at h;cases h;rename_i b;injection h with h;subst h;split<;>omega
def dQ(f:m.Ok)(l:m.lim<=p)(c:lo<=m.nx)(h:WS lo m p ws)(r:∀w∈ws,w.length<1000000)(n b:Nat):
   (∃m',l9 KW b (n+2) (.func 268) [.ptr p 0] m=some [⟨.aL UN,m'⟩]∧bC p m m'∧∀(α:Type) (k:Int->cP->Option α),pN ws k=none)∨
   (∃v w t m',l9 KW b (n+2) (.func 268) [.ptr p 0] m=some [⟨iV v,m'⟩]∧bC p m m'∧WS lo m' p t∧ws=w::t∧KJ w=some v∧ah v∧∀(α:Type) (k:Int->cP->Option α),pN ws k=k v t):=by
 cases ws with
 |nil=>refine .inl ⟨m,?_,bC.refl f,λ_ _=>rfl⟩;have g:=SY h n b;rw[en f268];simp[f268,g]
 |cons w t=>
  obtain⟨u,g,X,i⟩:=NJ f l h n b;obtain⟨v,e,m2,d,E2,o⟩:=Xh w (r w ZZ) n b u X.ok;have X2:bC p m m2:=X.trans E2.toB;have j:WS lo m2 p t:=i.ext (dn c X.nx) E2;rcases o with⟨ha,rfl⟩|⟨ha,q,rfl⟩;have a:KJ w=some v:=by rw[KJ,ha]
  refine .inr ⟨v,w,t,m2,?_,X2,j,rfl,a,abM ha,λ_ _=>by rw[pN,a];rfl⟩;rw[en f268];simp[f268,g,d];have a:KJ w=none:=by rw[KJ];split;rename_i x s;exact cj s (ha x);rfl
  refine .inl ⟨m2,?_,X2,λ_ _=>by rw[pN,a];rfl⟩;rw[en f268];simp[f268,g,d]
def Iq(s:m.Ok)(A:m.lim<=p)(d:lo<=m.nx)(h:WS lo m p ws)(u:∀w∈ws,w.length<1000000)(n f:Nat):
   (∃m',l9 KW f (n+3) (.func 265) [.ptr p 0] m=some [⟨.aL UN,m'⟩]∧bC p m m'∧∀(α:Type) (K:Int->Int->cP->Option α),pN ws (λa t=>pN t λb t=>K a b t)=none)∨
   (∃a b x y t m',l9 KW f (n+3) (.func 265) [.ptr p 0] m=some [⟨.agg [iV a,iV b],m'⟩]∧bC p m m'∧WS lo m' p t∧ws=x::y::t∧ah a∧ah b∧∀(α:Type) (K:Int->Int->cP->Option α),pN ws (λa t=>pN t λb t=>K a b t)=K a b t):=by
 have H:=h.1;have E0:=(cE.refl s).new (j6 [iZ,iZ]);have z:=h.ext d E0;have c:(m.new (j6 [iZ,iZ])).lim<=p:=A;rcases dQ E0.ok c (dn d E0.nx) z u n f with⟨m1,g1,X1,r1⟩|⟨a,w1,t1,m1,g1,X1,h1,e1,_,i1,r1⟩;refine .inl ⟨m1,?_,E0.toB.trans X1,λα K=>r1 α _⟩;rw[en f265];simp[f265,g1];subst e1;have q:∀w∈t1,w.length<1000000:=λw o=>u w (by simp[o]);rcases dQ X1.ok (by rw[X1.lim];exact c) (dn (dn d E0.nx) X1.nx) h1 q n f with⟨m2,g2,X2,r2⟩|⟨b,w2,t2,m2,g2,X2,h2,e2,_,i2,r2⟩;refine .inl ⟨m2,?_,(E0.toB.trans X1).trans X2,λα K=>(r1 α _).trans (r2 α _)⟩;rw[en f265];simp[f265,g1,g2];subst e2;have e:p≠m.nx:=Zs
 have C:(m.new (j6 [iZ,iZ])).get m.nx=some (j6 [iZ,iZ]):=by rw[cD.Q5 s,cg rfl]
 have v:m.nx<m1.nx:=aP ZZ X1.nx;have D:m1.get m.nx=some (j6 [iZ,iZ]):=by rw[X1.old _ ZZ (aqR e)];exact C
 have E:m2.get m.nx=some (j6 [iZ,iZ]):=by rw[X2.old _ v (aqR e)];exact D
 have g:m.nx<m2.nx:=aP v X2.nx;have l:m2.lim<=m.nx:=by rw[X2.lim,X1.lim];show m.lim<=_;omega
 have X3:bC m.nx m2 (m2.set m.nx (j6 [iV a,iV b])):=⟨cD.Ok.set X2.ok g _,ZZ,rfl,λj G B=>by rw[cD.R9 X2.ok g,aE B]⟩;have F:(m2.set m.nx (j6 [iV a,iV b])).get m.nx=some (j6 [iV a,iV b]):=by rw[cD.R9 X2.ok g,cg rfl]
 refine .inr ⟨a,b,w1,w2,t2,m2.set m.nx (j6 [iV a,iV b]),?_,?_,?_,rfl,i1,i2,λα K=>(r1 α _).trans (r2 α _)⟩;rw[en f265];simp[f265,g1,g2,Cn l,E,F,D8];have XX:=(E0.toB (id:=p)).trans X1 |>.trans X2
 exact⟨X3.ok,dn XX.nx X3.nx,XX.lim,λi r k=>by rw[X3.old i (aP r XX.nx) Zs];exact XX.old i r k⟩;exact h2.fr (X3.fr (lo:=lo) (dn d (aki g))) (aA _) (.inl d)
variable {lo0:Nat}
def abN{e:By}(j:lo0<=lo)(n d:Nat):∀(ws:cP),(∀w∈ws,w.length<1000000)->∀(l:cQ) (m:cD) (out a2:j5) (N:Nat),m.Ok->m.lim<=p->lo<=m.nx->WS lo0 m p ws->aO lo m out (ints l)->
   l.length+ws.length<=50000->ws.length+1<=N->
   (∃env' m',I9 (λenv m k=>rY (l9 KW d (n+2)) d none env m k) N (PG (.ptr p 0) (.str e) a2 out nS) m []=some [⟨.ret,env',m',[],some UN⟩]∧Fr lo p m m'∧Ie e ws=none)∨
   (∃out' a2' m' l' t,I9 (λenv m k=>rY (l9 KW d (n+2)) d none env m k) N (PG (.ptr p 0) (.str e) a2 out nS) m []=some [⟨.exit 0,(PG (.ptr p 0) (.str e) a2' out' nS),m',[],none⟩]∧Fr lo p m m'∧aO lo m' out' (ints (l++l'))∧WS lo0 m' p t∧Ie e ws=some (l',t)∧t.length+l'.length<=ws.length∧∀w∈t,w∈ws):=by
 intro ws;induction ws with
 |nil=>intro _ l m out a2 N J I b h E S hN;obtain⟨N,rfl⟩:=sx N;refine .inr ⟨out,fV,m,[],[],?_,Fr.refl J,by rw[agA];exact E,h,rfl,ZZ,ZZ⟩;obtain⟨_,v,C,K,_⟩:=h;have a:=K.vs.len;have P:((strs []).length:Int)=0:=rfl;rw[P]at a;rw[o7];simp[rY,C,ku,a,K.vs.aL]
 |cons w ws ih=>
  intro hw l m out a2 N J I b h E S hN;obtain⟨N,rfl⟩:=sx N;have h0:=h;obtain⟨_,v,C,K,_⟩:=h0;have B:xR m v (.str w::strs ws):=K;obtain⟨id,o,H,_,O⟩:=B.vs.at0;have a:=B.vs.len;have P:((((.str w::strs ws:cM)).length:Nat):Int)=((strs ws).length:Int)+1:=ZZ
  rw[P]at a;have Q:decide ((0:Int)<((strs ws).length:Int)+1)=true:=co Zs;have pv:=λ{β:Type} (p:j5->β) q=>B.vs.aL p q;simp at H;rw[o7];by_cases hwe:w=e;subst hwe;refine .inr ⟨out,fV,m,[],w::ws,?_,Fr.refl J,by rw[agA];exact E,h,by rw[Ie,cg rfl],ZZ,λ_ h=>h⟩;simp[rY,C,ku,a,pv,H,O,Q];have a0:=h.1;have po:=λ{β:Type} (p:j5->β) q=>E.vs.aL p q;rcases dQ J I (dn j b) h hw n d with⟨m1,g1,X1,r1⟩|⟨x,w',t,m1,g1,X1,h1,ew,hx,i1,r1⟩;refine .inl ?_;have A:KJ w=none:=by
   have:=r1 Int (λv _=>some v);rw[pN]at this;cases hh:KJ w with
   |none=>rfl
   |some y=>rw[hh]at this;cases this
  refine⟨.nd (nV2 (.str e) out) (.ptr p 0) (nV2 tV nS),m1,?_,X1.fr b,by rw[Ie,aE hwe,A];rfl⟩;simp[rY,C,ku,a,pv,po,H,O,Q,hwe,g1];cases ew;have U:m1.lim<=p:=by rw[X1.lim];exact I
  have f:lo<=m1.nx:=dn b X1.nx;have V:=E.Ic X1 Zs;have E2:=(cE.refl X1.ok).new (j6 [iV x]);have W:=V.ext E2;have X:dV (m1.new (j6 [iV x])) (.slice m1.nx 0 1 1) [iV x]:=.inr ⟨m1.nx,0,.inl ⟨1,rfl,aA _⟩,ZZ,.inr ⟨1,.nd .e [iV x] .e,by
   rw[cD.Q5 X1.ok,cg rfl];rfl,ZZ,λi hi=>by
   obtain rfl:i=0:=by simp at hi;omega
   rfl⟩⟩
  have u:(ints l).length=l.length:=by simp[ints]
  obtain⟨g,m3,ga,F,F3⟩:=uH (bytes:=8) E2.ok (by show m1.lim<=lo;omega) (dn f E2.nx) W X rfl (by rw[u];simp at S ⊢;omega) ⟨Zs,Zs⟩;have FF:Fr lo p m m3:=(X1.fr b).trans ((E2.fr f).trans (F3.mono (aA _)));have h3:WS lo0 m3 p ws:=(h1.ext (dn j f) E2).fr F3 j (.inl j);have G:aO lo m3 g (ints (l++[x])):=by rw[zI];exact F
  have Z:=λ{β:Type} (p:j5->β) q=>F.vs.aL p q;have T:∀z M L env r,List.length z=1->J2 1 1 z M L env r=ob (lay M L env z) λc=>if c.length=1 then some (.slice r 0 1 1,some (j6 c))else none:=λz M L env r h=>I5 1 z M L env r h
  have s:∀(R:Option (List Out)),I9 (λenv m k=>rY (l9 KW d (n+2)) d none env m k) N (PG (.ptr p 0) (.str e) tV g nS) m3 []=R->
    bnd (rY (l9 KW d (n+2)) d none (PG (.ptr p 0) (.str e) a2 out nS) m []) (Nb (I9 (λenv m k=>rY (l9 KW d (n+2)) d none env m k) N))=R:=λR hR=>by
   rw[← hR];simp[rY,C,ku,a,pv,po,Z,H,O,Q,hwe,g1,T,ga]
  have D:Ie e (w::ws)=(Ie e ws).bind λq=>some (x::q.1,q.2):=by rw[Ie,aE hwe,hx];rfl
  rcases ih (λy Y=>hw y (by simp[Y])) (l++[x]) m3 g tV N FF.ok (by rw[FF.lim];exact I) (dn b FF.nx) h3 G (by simp at S ⊢;omega) (by simp at hN;omega)with⟨env',m4,g4,F4,r4⟩|⟨out4,b2,m4,l',t,g4,F4,ho4,h4,r4,r5,r6⟩;exact .inl ⟨env',m4,s _ g4,FF.trans F4,by rw[D,r4];rfl⟩;refine .inr ⟨out4,b2,m4,x::l',t,s _ g4,FF.trans F4,by rw[show l++x::l'=l++[x]++l' from by simp];exact ho4,h4,by rw[D,r4];rfl,ZD,λy Y=>by simp[r6 y Y]⟩
def Qc{e:By}(i:m.Ok)(f:m.lim<=p)(b:lo<=m.nx)(h:WS lo m p ws)(j:∀w∈ws,w.length<1000000)(hb:ws.length<20000)(n a:Nat)(d:20001<=a):
   (∃m',l9 KW a (n+3) (.func 275) [.ptr p 0,.str e] m=some [⟨.aL UN,m'⟩]∧bC p m m'∧Ie e ws=none)∨
   (∃v m' l t,l9 KW a (n+3) (.func 275) [.ptr p 0,.str e] m=some [⟨v,m'⟩]∧bC p m m'∧aO m.nx m' v (ints l)∧WS lo m' p t∧Ie e ws=some (l,t)∧t.length+l.length<=ws.length∧∀w∈t,w∈ws):=by
 have c:=h.1;rcases abN (p:=p) (e:=e) (lo0:=lo) (lo:=m.nx) b n a ws j [] m nS uV a i f (aA _) h (aO.nil _ _) ZD Zs with⟨env',m1,g,F,r⟩|⟨out,a2,m1,l,t,g,F,ho,h1,r,r2,r3⟩;refine .inl ⟨m1,?_,F.Ic (aA _),r⟩;rw[en f275];simp[f275,g];rw[O9]at ho;refine .inr ⟨out,m1,l,t,?_,F.Ic (aA _),ho,h1,r,r2,r3⟩;rw[en f275];simp[f275,g]
variable {xs:cQ}
def KM{i:Nat}(h:i<xs.length):C9 w (xs.take (i+1))=C9 w (xs.take i)++(32::Lib.itoa xs[i]):=by rw[O7 h,Vz]
def abO(t:U5 m v xs)(hb:xs.length<20000)(e:∀n∈xs,Sm n)(w:By)(A:w.length<=100000)(n b:Nat):∀(j i:Nat),i+j=xs.length->∀(a3 a6:j5) (N:Nat),j+1<=N->
   ∃a6',I9 (λenv m k=>FI (l9 KW b (n+1)) b none env m k) N (zV v (iV (i:Int)) (iV (xs.length:Int)) a3 v (.str (C9 w (xs.take i))) a6 (.str [])) m []=some [⟨.exit 0,(zV v (iV (xs.length:Int)) (iV (xs.length:Int)) fV v (.str (C9 w xs)) a6' (.str [])),m,[],none⟩]:=by
 intro j;induction j with
 |zero=>
  intro i p a3 a6 N o;obtain⟨N,rfl⟩:=sx N;obtain rfl:i=xs.length:=Zs
  refine⟨a6,?_⟩;rw[o7,P9 (aA _)];simp[FI]
 |succ j ih=>
  intro i p a3 a6 N o;obtain⟨N,rfl⟩:=sx N;have a:i<xs.length:=Zs
  obtain⟨id,f,_,h⟩:=t.at a;have d:=e _ (ql a);have c:=aed xs[i] (by unfold Sm at d;omega) (by unfold Sm at d;omega) n b m;have q:=aH w (xs.take i) (λy u=>e y (adn u));have r:=KL d;have s:(xs.take i).length<=20000:=ZD
  have x:fZ [32] (Lib.itoa xs[i])=some (.str (32::Lib.itoa xs[i])):=Z4 ZD;have z:fZ (C9 w (xs.take i)) (32::Lib.itoa xs[i])=some (.str (C9 w (xs.take (i+1)))):=by rw[KM a];exact Z4 ZD
  have l:decide ((i:Int)<(xs.length:Int))=true:=ZD
  obtain⟨a6',g⟩:=ih (i+1) Zs tV (iV xs[i]) N Zs;refine⟨a6',?_⟩;rw[o7,← g];simp[FI,l,a,f,h,c,x,z,I4 (i:=i) Zs]
def gQ(d:U5 m v xs)(hb:xs.length<20000)(j:∀n∈xs,Sm n)(w:By)(i:w.length<=100000)(n a:Nat)(h:20001<=a):l9 KW a (n+2) (.func 164) [.str w,v] m=some [⟨.str (C9 w xs),m⟩]:=by
 obtain⟨l,g⟩:=abO d hb j w i n a xs.length 0 Zs uV uV a Zs;have b:=d.len;have e:C9 w (xs.take 0)=w:=by rw[at7,Gc]
 rw[e]at g;have f:I9 (λc m k=>FI (l9 KW a (n+1)) a none c m k) a (zV v iZ (iV (xs.length:Int)) uV v (.str w) uV (.str [])) m []=_:=g;rw[en f164];simp[f164,b,f]
noncomputable def aqQ (xs:cQ):Y9:=.cells 1 xs.length (T.ofList (xs.map λx=>[j5.int .i64 x]))
def Ta:∀(cells:cM),rowsOf 1 cells.length cells=some (cells.map ([·]))
 |[]=>rfl
 |x::l=>by show ob (takeN 1 (x::l)) (λr=>ob (rowsOf 1 l.length (iA 1 (x::l))) λrest=>some (r::rest))=_;have e:iA 1 (x::l)=l:=rfl;rw[e,Ta l];rfl
def Q8(k:Nat)(z:j5)(ps:List (Nat×Nat×OF))(ls:cM)(env:T j5)(nid:Nat):J2 1 k [z] ps ls env nid=ob (lay ps ls env (U4 [z] k)) λcells=>if cells.length=k then some (.slice nid 0 k k,some (.cells 1 k (T.ofList (cells.map ([·])))))else ob (jR 1 k cells λb=>some (j5.slice nid 0 k k,some b)) some:=by show ob (lay ps ls env (U4 [z] k)) (λcells=>jR 1 k cells λb=>some (j5.slice nid 0 k k,some b))=_;congr 1;funext cells;split;rename_i h;subst h;show ob (rowsOf 1 cells.length cells) (λa=>some (j5.slice nid 0 cells.length cells.length,some (Y9.cells 1 cells.length (T.ofList a))))=_;rw[Ta];rfl;cases jR 1 k cells λb=>some (j5.slice nid 0 k k,some b)<;>rfl
def aI(z:cM):U4 z 0=[]:=rfl
def aJ(z:cM)(n:Nat):U4 z (n+1)=z++U4 z n:=by show dK z (U4 z n)=_;rw[V9]
def gJ{id k:Nat}(h:m.get id=some (aqQ xs))(a:id<m.nx)(c:xs.length=k):U5 m (.slice id 0 k k) xs:=by subst c;refine .inr ⟨(id,0),.inl ⟨_,rfl⟩,a,.inr ⟨xs.length,_,h,ZZ,λi b=>?_⟩⟩;rw[P7,T.bV,abP,cB b];rfl
set_option maxHeartbeats 8000000
def af5(d:m.Ok)(e:m.lim<=m.nx)(g:∀n∈[r.f.flo,r.f.fhi],Sm n)(n a:Nat)(b:20001<=a):
   l9 KW a (n+3) (.func 262) [.agg r.f.cells] m=some [⟨.str (C9 sw [r.f.flo,r.f.fhi]),ext m [j6 r.f.cells,.cells 1 2 (T.ofList [[iV r.f.flo],[iV r.f.fhi]])]⟩]:=by
 have c:l9 KW a (n+2) (.func 164) [.str [102,105,108,109],.slice (m.nx+1) 0 2 2] (ext m [j6 r.f.cells,.cells 1 2 (T.ofList [[iV r.f.flo],[iV r.f.fhi]])])=some [⟨.str (C9 sw [r.f.flo,r.f.fhi]),ext m [j6 r.f.cells,.cells 1 2 (T.ofList [[iV r.f.flo],[iV r.f.fhi]])]⟩]:=
  gQ (xs:=[r.f.flo,r.f.fhi]) (gJ (xs:=[r.f.flo,r.f.fhi]) (by rw[r9 d];rfl) ZZ rfl) ZZ g sw (by simp[sw]) n a b
 rw[en f262];simp[f262,ay d e,Q8,aJ,aI,c]
def af6(d:m.Ok)(e:m.lim<=m.nx)(g:∀n∈[r.f.gid,r.f.made,r.f.nom,r.f.tlo,r.f.thi,r.f.gn,r.f.gd,r.f.wear],Sm n)(n a:Nat)(b:20001<=a):
   l9 KW a (n+3) (.func 266) [.agg r.f.cells] m=some [⟨.str (C9 mD [r.f.gid,r.f.made,r.f.nom,r.f.tlo,r.f.thi,r.f.gn,r.f.gd,r.f.wear]),ext m [j6 r.f.cells,j6 [iV r.f.gid,iV r.f.made,iV r.f.nom,iV r.f.tlo,iV r.f.thi,iV r.f.gn,iV r.f.gd,iV r.f.wear],.cells 1 8 (T.ofList [[iV r.f.gid],[iV r.f.made],[iV r.f.nom],[iV r.f.tlo],[iV r.f.thi],[iV r.f.gn],[iV r.f.gd],[iV r.f.wear]])]⟩]:=by
 have c:l9 KW a (n+2) (.func 164) [.str [103,97,117,103,101],.slice (m.nx+2) 0 8 8] (ext m [j6 r.f.cells,j6 [iV r.f.gid,iV r.f.made,iV r.f.nom,iV r.f.tlo,iV r.f.thi,iV r.f.gn,iV r.f.gd,iV r.f.wear],.cells 1 8 (T.ofList [[iV r.f.gid],[iV r.f.made],[iV r.f.nom],[iV r.f.tlo],[iV r.f.thi],[iV r.f.gn],[iV r.f.gd],[iV r.f.wear]])])=some [⟨.str (C9 mD [r.f.gid,r.f.made,r.f.nom,r.f.tlo,r.f.thi,r.f.gn,r.f.gd,r.f.wear]),ext m [j6 r.f.cells,j6 [iV r.f.gid,iV r.f.made,iV r.f.nom,iV r.f.tlo,iV r.f.thi,iV r.f.gn,iV r.f.gd,iV r.f.wear],.cells 1 8 (T.ofList [[iV r.f.gid],[iV r.f.made],[iV r.f.nom],[iV r.f.tlo],[iV r.f.thi],[iV r.f.gn],[iV r.f.gd],[iV r.f.wear]])]⟩]:=
  gQ (xs:=[r.f.gid,r.f.made,r.f.nom,r.f.tlo,r.f.thi,r.f.gn,r.f.gd,r.f.wear]) (gJ (xs:=[r.f.gid,r.f.made,r.f.nom,r.f.tlo,r.f.thi,r.f.gn,r.f.gd,r.f.wear]) (by rw[r9 d];rfl) ZZ rfl) ZZ g mD (by simp[mD]) n a b
 have h:r.f.bS=[iV r.f.gid,iV r.f.made,iV r.f.nom,iV r.f.tlo,iV r.f.thi,iV r.f.gn,iV r.f.gd,iV r.f.wear]:=rfl;rw[en f266];simp (maxSteps:=3000000) [f266,dD,fA,fM,ay d e,jf,aW,bH,bR,D8,Q8,aJ,aI,-NC,c]
def af7(d:m.Ok)(e:m.lim<=m.nx)(g:∀n∈[r.f.ug,r.f.ud],Sm n)(n a:Nat)(b:20001<=a):
   l9 KW a (n+3) (.func 269) [.agg r.f.cells] m=some [⟨.str (C9 CG [r.f.ug,r.f.ud]),ext m [j6 r.f.cells,.cells 1 2 (T.ofList [[iV r.f.ug],[iV r.f.ud]])]⟩]:=by
 have c:l9 KW a (n+2) (.func 164) [.str [117,115,101],.slice (m.nx+1) 0 2 2] (ext m [j6 r.f.cells,.cells 1 2 (T.ofList [[iV r.f.ug],[iV r.f.ud]])])=some [⟨.str (C9 CG [r.f.ug,r.f.ud]),ext m [j6 r.f.cells,.cells 1 2 (T.ofList [[iV r.f.ug],[iV r.f.ud]])]⟩]:=
  gQ (xs:=[r.f.ug,r.f.ud]) (gJ (xs:=[r.f.ug,r.f.ud]) (by rw[r9 d];rfl) ZZ rfl) ZZ g CG (by simp[CG]) n a b
 rw[en f269];simp[f269,ay d e,Q8,aJ,aI,c]
def af8(d:m.Ok)(e:m.lim<=m.nx)(g:∀n∈[r.f.lg,r.f.ll,r.f.lh,r.f.lw],Sm n)(n a:Nat)(b:20001<=a):
   l9 KW a (n+3) (.func 271) [.agg r.f.cells] m=some [⟨.str (C9 sD [r.f.lg,r.f.ll,r.f.lh,r.f.lw]),ext m [j6 r.f.cells,.cells 1 4 (T.ofList [[iV r.f.lg],[iV r.f.ll],[iV r.f.lh],[iV r.f.lw]])]⟩]:=by
 have c:l9 KW a (n+2) (.func 164) [.str [108,111,97,110],.slice (m.nx+1) 0 4 4] (ext m [j6 r.f.cells,.cells 1 4 (T.ofList [[iV r.f.lg],[iV r.f.ll],[iV r.f.lh],[iV r.f.lw]])])=some [⟨.str (C9 sD [r.f.lg,r.f.ll,r.f.lh,r.f.lw]),ext m [j6 r.f.cells,.cells 1 4 (T.ofList [[iV r.f.lg],[iV r.f.ll],[iV r.f.lh],[iV r.f.lw]])]⟩]:=
  gQ (xs:=[r.f.lg,r.f.ll,r.f.lh,r.f.lw]) (gJ (xs:=[r.f.lg,r.f.ll,r.f.lh,r.f.lw]) (by rw[r9 d];rfl) ZZ rfl) ZZ g sD (by simp[sD]) n a b
 rw[en f271];simp[f271,ay d e,Q8,aJ,aI,c]
def af9(d:m.Ok)(e:m.lim<=m.nx)(g:∀n∈[r.f.tr,r.f.tn],Sm n)(n a:Nat)(b:20001<=a):
   l9 KW a (n+3) (.func 278) [.agg r.f.cells] m=some [⟨.str (C9 eD [r.f.tr,r.f.tn]),ext m [j6 r.f.cells,.cells 1 2 (T.ofList [[iV r.f.tr],[iV r.f.tn]])]⟩]:=by
 have c:l9 KW a (n+2) (.func 164) [.str [119,105,116,104,100,114,97,119],.slice (m.nx+1) 0 2 2] (ext m [j6 r.f.cells,.cells 1 2 (T.ofList [[iV r.f.tr],[iV r.f.tn]])])=some [⟨.str (C9 eD [r.f.tr,r.f.tn]),ext m [j6 r.f.cells,.cells 1 2 (T.ofList [[iV r.f.tr],[iV r.f.tn]])]⟩]:=
  gQ (xs:=[r.f.tr,r.f.tn]) (gJ (xs:=[r.f.tr,r.f.tn]) (by rw[r9 d];rfl) ZZ rfl) ZZ g eD (by simp[eD]) n a b
 rw[en f278];simp[f278,ay d e,Q8,aJ,aI,c]
def afa(d:m.Ok)(j:m.lim<=m.nx)(e:J9 m r)(hs:r.small=true)(g:Sm r.f.mday)(h:∀n∈r.l,Sm n)(n a:Nat)(b:20001<=a):
   l9 KW a (n+3) (.func 276) [.agg r.f.cells] m=some [⟨.str (C9 vP [r.f.mday]++C9 [] r.l),ext m [j6 r.f.cells,.cells 1 1 (T.ofList [[iV r.f.mday]])]⟩]:=by
 simp only[FR.small,oo,ck]at hs;have c:l9 KW a (n+2) (.func 164) [.str [109,105,120],.slice (m.nx+1) 0 1 1] (ext m [j6 r.f.cells,.cells 1 1 (T.ofList [[iV r.f.mday]])])=some [⟨.str (C9 vP [r.f.mday]),ext m [j6 r.f.cells,.cells 1 1 (T.ofList [[iV r.f.mday]])]⟩]:=
  gQ (xs:=[r.f.mday]) (gJ (xs:=[r.f.mday]) (by rw[r9 d];rfl) ZZ rfl) ZZ (by simpa using g) vP (by simp[vP]) n a b
 have i:=gQ (e.l.ext (o8 d [j6 r.f.cells,.cells 1 1 (T.ofList [[iV r.f.mday]])])) Zs h [] ZZ n a b;have u:=λ{β:Type} (p:j5->β) q=>e.l.aL p q;have t:bg 100 r.f.L r.f.L=true:=gG e.l 99;have k:=aH vP [r.f.mday] (by simpa using g);have o:=aH [] r.l h;have s:fZ (C9 vP [r.f.mday]) (C9 [] r.l)=some (.str (C9 vP [r.f.mday]++C9 [] r.l)):=Z4 (by simp[vP]at k o ⊢;omega);rw[en f276];simp[f276,ay d j,Q8,aJ,aI,c,i,t,s,isVoid]
def afb(h:m.Ok)(w:m.lim<=m.nx)(e:J9 m r)(hs:r.small=true)(o:∀n∈[r.f.cday,r.f.diff,r.f.err,r.f.hlo,r.f.hhi],Sm n)(s:∀n∈r.a,Sm n)(t:∀n∈r.b,Sm n)(n d:Nat)(g:20001<=d):
   ∃m',l9 KW d (n+3) (.func 273) [.agg r.f.cells] m=some [⟨.str (C9 V8 [r.f.cday,r.f.diff,r.f.err,r.f.hlo,r.f.hhi]++C9 (32::kA) r.a++C9 (32::kB) r.b),m'⟩]∧cE m m':=by
 simp only[FR.small,oo,ck]at hs;let L:List Y9:=[j6 r.f.cells,j6 r.f.cmp,.cells 1 5 (T.ofList [[iV r.f.cday],[iV r.f.diff],[iV r.f.err],[iV r.f.hlo],[iV r.f.hhi]])]
 have E:=o8 h L;refine⟨ext m L,?_,E⟩;have c:l9 KW d (n+2) (.func 164) [.str [99,111,109,112,97,114,101],.slice (m.nx+2) 0 5 5] (ext m L)=some [⟨.str (C9 V8 [r.f.cday,r.f.diff,r.f.err,r.f.hlo,r.f.hhi]),ext m L⟩]:=
  gQ (xs:=[r.f.cday,r.f.diff,r.f.err,r.f.hlo,r.f.hhi]) (gJ (xs:=[r.f.cday,r.f.diff,r.f.err,r.f.hlo,r.f.hhi]) (by rw[r9 h];rfl) (by simp[L]) rfl) ZZ o V8 (by simp[V8]) n d g
 have j:l9 KW d (n+2) (.func 164) [.str [32,97],r.f.A] (ext m L)=some [⟨.str (C9 (32::kA) r.a),ext m L⟩]:=gQ (e.a.ext E) Zs s (32::kA) (by simp[kA]) n d g;have l:l9 KW d (n+2) (.func 164) [.str [32,98],r.f.B] (ext m L)=some [⟨.str (C9 (32::kB) r.b),ext m L⟩]:=gQ (e.b.ext E) Zs t (32::kB) (by simp[kB]) n d g;have J:=λ{β:Type} (p:j5->β) q=>e.a.aL p q;have K:=λ{β:Type} (p:j5->β) q=>e.b.aL p q;have G:bg 100 r.f.A r.f.A=true:=gG e.a 99;have H:bg 100 r.f.B r.f.B=true:=gG e.b 99;have C:=e.a.D8;have i:=e.b.D8;have u:=aH V8 [r.f.cday,r.f.diff,r.f.err,r.f.hlo,r.f.hhi] o;have v:=aH (32::kA) r.a s;have y:=aH (32::kB) r.b t;have D:fZ (C9 V8 [r.f.cday,r.f.diff,r.f.err,r.f.hlo,r.f.hhi]) (C9 (32::kA) r.a)=some (.str (C9 V8 [r.f.cday,r.f.diff,r.f.err,r.f.hlo,r.f.hhi]++C9 (32::kA) r.a)):=Z4 (by simp[V8,kA]at u v ⊢;omega);have F:fZ (C9 V8 [r.f.cday,r.f.diff,r.f.err,r.f.hlo,r.f.hhi]++C9 (32::kA) r.a) (C9 (32::kB) r.b)=some (.str (C9 V8 [r.f.cday,r.f.diff,r.f.err,r.f.hlo,r.f.hhi]++C9 (32::kA) r.a++C9 (32::kB) r.b)):=Z4 (by simp[V8,kA,kB]at u v y ⊢;omega);have I:r.f.cmp=[iV r.f.cid,iV r.f.cday,r.f.A,r.f.B,iV r.f.diff,iV r.f.err,iV r.f.hlo,iV r.f.hhi]:=rfl;rw[en f273];have z:H8 r.f.cmp=true:=by simp[D6.cmp,C,i,show∀k x,D8 (.int k x)=true from λ_ _=>rfl,-D6.bD]
 simp only[L]at c j l ⊢;simp (maxSteps:=3000000) [f273,dD,fA,fM,ay h w,jf,aW,bH,bR,Q8,aJ,aI,z,c,j,l,G,H,D,F,isVoid]
def aM{M:cD}{id:Nat}{c vs:cM}(b:M.Ok)(a:id<M.nx)(f:M.lim<=id)(e:M.get id=some (j6 c))(i:off+vs.length<=c.length)(h0:0<vs.length)(d:H8 vs=true):
   ∃N,(∀{β:Type} (k:cD->Option β),storeAt M id off vs k=k N)∧N.get id=some (j6 (c.take off++vs++c.drop (off+vs.length)))∧bC id M N:=by
 refine⟨M.set id (j6 (c.take off++vs++c.drop (off+vs.length))),λk=>?_,by rw[cD.R9 b a,cg rfl],cD.Ok.set b a _,ZZ,rfl,λj h g=>by rw[cD.R9 b a,aE g]⟩;rw[bI f d,e,bR Zs Zs,I6,atW]
structure RS(lo:Nat)(m:cD)(p q:Nat)(ws:cP)(h:D6):Prop where
 ok:m.Ok
 lp:m.lim<=p
 lq:m.lim<=q
 pq:p≠q
 qlo:q<lo
 nx:lo<=m.nx
 wk:WS lo m p ws
 cell:m.get q=some (j6 h.cells)
 sh:∀w∈ws,w.length<1000000
 few:ws.length<20000
variable {h:D6}
def RS.plo(s:RS lo m p q ws h):p<lo:=s.wk.1
def RS.call{a:cD}{t:cP}(s:RS lo m p q ws h)(X:bC p m a)(k:WS lo a p t)(c:∀w∈t,w∈ws)(b:t.length<=ws.length):RS lo a p q t h:=
 ⟨X.ok,by rw[X.lim];exact s.lp,by rw[X.lim];exact s.lq,s.pq,s.qlo,dn s.nx X.nx,k,by rw[X.old q (aP s.qlo s.nx) (aqR s.pq)];exact s.cell,λw d=>s.sh w (c w d),Nat.lt_of_le_of_lt b s.few⟩
def Qd(f:D6):∀n cF,j6 f.cells≠.cells 1 n cF:=λn cF e=>by have e:Y9.cells (len' f.cells) 1 (.nd .e f.cells .e)=.cells 1 n cF:=e;injection e with e1;rw[K7,D6.len]at e1;cases e1
def RS.store{h':D6}{vs:cM}(s:RS lo m p q ws h)(h0:0<vs.length)(d:off+vs.length<=32)(b:H8 vs=true)(c:h.cells.take off++vs++h.cells.drop (off+vs.length)=h'.cells):
   ∃N,(∀{β:Type} (k:cD->Option β),storeAt m q off vs k=k N)∧RS lo N p q ws h'∧bC q m N:=by
 have f:q<m.nx:=aP s.qlo s.nx;obtain⟨N,i,g,X⟩:=aM (off:=off) (vs:=vs) s.ok f s.lq s.cell (by rw[D6.len];exact d) h0 b;rw[c]at g;refine⟨N,i,⟨X.ok,by rw[X.lim];exact s.lp,by rw[X.lim];exact s.lq,s.pq,s.qlo,dn s.nx X.nx,s.wk.fr (X.fr (lo:=lo) s.nx) (aA _) (.inr ⟨aqR s.pq,λn a e=>?_⟩),g,s.sh,s.few⟩,X⟩;rw[s.cell]at e;exact Qd h n a (rW e)
variable {m':cD}
def RS.kF(s:RS lo m p q ws h)(X:bC p m m')(hp:lo0<=p):Fr lo0 lo0 m m':=(X.fr (lo:=lo0) (by have:=s.plo;have:=s.nx;omega)).mono hp
def RS.VI(s:RS lo m p q ws h)(X:bC q m m')(a:lo0<=q):Fr lo0 lo0 m m':=(X.fr (lo:=lo0) (by have:=s.qlo;have:=s.nx;omega)).mono a
def Reads(f:Nat)(n:Nat)(fu:Nat)(m:cD)(p q lo0 lo:Nat)(ws:cP)(h:D6):Prop:=
 (∃m',l9 KW fu n (.func f) [.ptr p 0,.ptr q 0] m=some [⟨.aL UN,m'⟩]∧Fr lo0 lo0 m m'∧parseBody h ws=none)∨
 (∃m' r t,l9 KW fu n (.func f) [.ptr p 0,.ptr q 0] m=some [⟨.tuple [],m'⟩]∧Fr lo0 lo0 m m'∧RS lo m' p q t r.f∧J9 m' r∧r.a.length<20000∧r.b.length<20000∧r.l.length<20000∧parseBody h ws=some r.cn)
def pb1(a:h.kind=1)(ws:cP):parseBody h ws=pW sw ws λws=>pN ws λlo ws=>pN ws λhi ws=>some ⟨{h with flo:=lo,fhi:=hi},[],[],[]⟩:=by unfold parseBody;rw[cg a]
def afc(s:RS lo m p q ws h)(k:h.kind=1)(a:lo0<=p)(l:lo0<=q)(u:h.A=nS)(v:h.B=nS)(y:h.L=nS)(E:ah h.gn)(id:ah h.gd)(r:ah h.no)(n j:Nat):Reads 263 (n+4) j m p q lo0 lo ws h:=by
 have c:∀(x:D6),x.A=nS->x.B=nS->x.L=nS->ah x.gn->ah x.gd->ah x.no->∀M,J9 M ⟨x,[],[],[]⟩:=λx e f g z C D M=>⟨.inl ⟨e,rfl⟩,.inl ⟨f,rfl⟩,.inl ⟨g,rfl⟩,z,C,D⟩;have i:∀(x:D6),x.A=nS->x.B=nS->x.L=nS->(⟨x,[],[],[]⟩:FR).cn=⟨x,[],[],[]⟩:=λx e f g=>by obtain⟨⟩:=x;simp only at e f g;subst e f g;rfl
 rcases pI s.ok s.lp s.wk [102,105,108,109] (n+1) j with⟨m0,g0,X0,r0⟩|⟨t0,m0,g0,X0,w0,e0,r0⟩;refine .inl ⟨m0,?_,s.kF X0 a,by rw[pb1 k];exact r0 _ _⟩;rw[en f263];simp[f263,g0];have b:=s.call X0 w0 (λw o=>by rw[e0];simp[o]) (by rw[e0];simp);have F0:=s.kF (lo0:=lo0) X0 a;rcases Iq b.ok b.lp b.nx b.wk b.sh (n) j with⟨m1,g1,X1,r1⟩|⟨vflo,vfhi,x1,y1,t1,m1,g1,X1,w1,e1,i1,j1,r1⟩;refine .inl ⟨m1,?_,F0.trans (b.kF X1 a),by rw[pb1 k];exact(r0 _ _).trans (r1 _ _)⟩;rw[en f263];simp[f263,g0,g1];have d:=b.call X1 w1 (λw o=>by rw[e1];simp[o]) (by rw[e1];simp<;>omega)
 obtain⟨N1,t,F,Y1⟩:=d.store (off:=4) (vs:=[iV vflo,iV vfhi]) (h':={h with flo:=vflo,fhi:=vfhi}) ZZ ZZ rfl rfl;have F1:=(F0.trans (b.kF X1 a)).trans (d.VI Y1 l);refine .inr ⟨N1,⟨{h with flo:=vflo,fhi:=vfhi},[],[],[]⟩,t1,?_,F1,F,c ({h with flo:=vflo,fhi:=vfhi}) u v y E id r _,ZZ,ZZ,ZZ,?_⟩;rw[en f263];simp[f263,g0,g1,t];rw[pb1 k];exact((r0 _ _).trans (r1 _ _)).trans (ci some (i ({h with flo:=vflo,fhi:=vfhi}) u v y).symm)
def pb3(a:h.kind=3)(ws:cP):parseBody h ws=pW CG ws λws=>pN ws λug ws=>pN ws λud ws=>some ⟨{h with ug:=ug,ud:=ud},[],[],[]⟩:=by unfold parseBody;rw[aE (show¬ h.kind=1 by omega),aE (show¬ h.kind=2 by omega),cg a]
def afd(s:RS lo m p q ws h)(t:h.kind=3)(a:lo0<=p)(e:lo0<=q)(z:h.A=nS)(C:h.B=nS)(D:h.L=nS)(H:ah h.gn)(id:ah h.gd)(v:ah h.no)(n k:Nat):Reads 270 (n+4) k m p q lo0 lo ws h:=by
 have d:∀(x:D6),x.A=nS->x.B=nS->x.L=nS->ah x.gn->ah x.gd->ah x.no->∀M,J9 M ⟨x,[],[],[]⟩:=λx l o r E F G M=>⟨.inl ⟨l,rfl⟩,.inl ⟨o,rfl⟩,.inl ⟨r,rfl⟩,E,F,G⟩;have u:∀(x:D6),x.A=nS->x.B=nS->x.L=nS->(⟨x,[],[],[]⟩:FR).cn=⟨x,[],[],[]⟩:=λx l o r=>by obtain⟨⟩:=x;simp only at l o r;subst l o r;rfl
 rcases pI s.ok s.lp s.wk [117,115,101] (n+1) k with⟨m0,g0,X0,r0⟩|⟨t0,m0,g0,X0,w0,e0,r0⟩;refine .inl ⟨m0,?_,s.kF X0 a,by rw[pb3 t];exact r0 _ _⟩;rw[en f270];simp[f270,g0];have b:=s.call X0 w0 (λw f=>by rw[e0];simp[f]) (by rw[e0];simp);have F0:=s.kF (lo0:=lo0) X0 a;rcases dQ b.ok b.lp b.nx b.wk b.sh (n+1) k with⟨m1,g1,X1,r1⟩|⟨vug,x1,t1,m1,g1,X1,w1,e1,_,i1,r1⟩;refine .inl ⟨m1,?_,F0.trans (b.kF X1 a),by rw[pb3 t];exact(r0 _ _).trans (r1 _ _)⟩;rw[en f270];simp[f270,g0,g1];have g:=b.call X1 w1 (λw f=>by rw[e1];simp[f]) (by rw[e1];simp<;>omega)
 obtain⟨N1,j,c,Y1⟩:=g.store (off:=14) (vs:=[iV vug]) (h':={h with ug:=vug}) ZZ ZZ rfl rfl;have F1:=(F0.trans (b.kF X1 a)).trans (g.VI Y1 e);rcases dQ c.ok c.lp c.nx c.wk c.sh (n+1) k with⟨m2,g2,X2,r2⟩|⟨vud,x2,t2,m2,g2,X2,w2,e2,_,i2,r2⟩;refine .inl ⟨m2,?_,F1.trans (c.kF X2 a),by rw[pb3 t];exact(r0 _ _).trans ((r1 _ _).trans (r2 _ _))⟩;rw[en f270];simp[f270,g0,g1,g2,j];have i:=c.call X2 w2 (λw f=>by rw[e2];simp[f]) (by rw[e2];simp<;>omega)
 obtain⟨N2,y,I,Y2⟩:=i.store (off:=15) (vs:=[iV vud]) (h':={h with ug:=vug,ud:=vud}) ZZ ZZ rfl rfl;have F2:=(F1.trans (c.kF X2 a)).trans (i.VI Y2 e);refine .inr ⟨N2,⟨{h with ug:=vug,ud:=vud},[],[],[]⟩,t2,?_,F2,I,d ({h with ug:=vug,ud:=vud}) z C D H id v _,ZZ,ZZ,ZZ,?_⟩;rw[en f270];simp[f270,g0,g1,g2,j,y];rw[pb3 t];exact((r0 _ _).trans ((r1 _ _).trans (r2 _ _))).trans (ci some (u ({h with ug:=vug,ud:=vud}) z C D).symm)
def pb4(a:h.kind=4)(ws:cP):parseBody h ws=pW sD ws λws=>pN ws λlg ws=>pN ws λll ws=>pN ws λlh ws=>pN ws λlw ws=>some ⟨{h with lg:=lg,ll:=ll,lh:=lh,lw:=lw},[],[],[]⟩:=by unfold parseBody;rw[aE (show¬ h.kind=1 by omega),aE (show¬ h.kind=2 by omega),aE (show¬ h.kind=3 by omega),cg a]
def afe(s:RS lo m p q ws h)(k:h.kind=4)(a:lo0<=p)(e:lo0<=q)(E:h.A=nS)(F:h.B=nS)(G:h.L=nS)(K:ah h.gn)(id:ah h.gd)(C:ah h.no)(n j:Nat):Reads 272 (n+4) j m p q lo0 lo ws h:=by
 have i:∀(x:D6),x.A=nS->x.B=nS->x.L=nS->ah x.gn->ah x.gd->ah x.no->∀M,J9 M ⟨x,[],[],[]⟩:=λx u v y H I J M=>⟨.inl ⟨u,rfl⟩,.inl ⟨v,rfl⟩,.inl ⟨y,rfl⟩,H,I,J⟩;have z:∀(x:D6),x.A=nS->x.B=nS->x.L=nS->(⟨x,[],[],[]⟩:FR).cn=⟨x,[],[],[]⟩:=λx u v y=>by obtain⟨⟩:=x;simp only at u v y;subst u v y;rfl
 rcases pI s.ok s.lp s.wk [108,111,97,110] (n+1) j with⟨m0,g0,X0,r0⟩|⟨t0,m0,g0,X0,w0,e0,r0⟩;refine .inl ⟨m0,?_,s.kF X0 a,by rw[pb4 k];exact r0 _ _⟩;rw[en f272];simp[f272,g0];have b:=s.call X0 w0 (λw f=>by rw[e0];simp[f]) (by rw[e0];simp);have F0:=s.kF (lo0:=lo0) X0 a;rcases dQ b.ok b.lp b.nx b.wk b.sh (n+1) j with⟨m1,g1,X1,r1⟩|⟨vlg,x1,t1,m1,g1,X1,w1,e1,_,i1,r1⟩;refine .inl ⟨m1,?_,F0.trans (b.kF X1 a),by rw[pb4 k];exact(r0 _ _).trans (r1 _ _)⟩;rw[en f272];simp[f272,g0,g1];have l:=b.call X1 w1 (λw f=>by rw[e1];simp[f]) (by rw[e1];simp<;>omega)
 obtain⟨N1,g,c,Y1⟩:=l.store (off:=16) (vs:=[iV vlg]) (h':={h with lg:=vlg}) ZZ ZZ rfl rfl;have F1:=(F0.trans (b.kF X1 a)).trans (l.VI Y1 e);rcases Iq c.ok c.lp c.nx c.wk c.sh (n) j with⟨m2,g2,X2,r2⟩|⟨vll,vlh,x2,y2,t2,m2,g2,X2,w2,e2,i2,j2,r2⟩;refine .inl ⟨m2,?_,F1.trans (c.kF X2 a),by rw[pb4 k];exact(r0 _ _).trans ((r1 _ _).trans (r2 _ _))⟩;rw[en f272];simp[f272,g0,g1,g2,g];have o:=c.call X2 w2 (λw f=>by rw[e2];simp[f]) (by rw[e2];simp<;>omega)
 obtain⟨N2,t,d,Y2⟩:=o.store (off:=17) (vs:=[iV vll,iV vlh]) (h':={h with lg:=vlg,ll:=vll,lh:=vlh}) ZZ ZZ rfl rfl;have F2:=(F1.trans (c.kF X2 a)).trans (o.VI Y2 e);rcases dQ d.ok d.lp d.nx d.wk d.sh (n+1) j with⟨m3,g3,X3,r3⟩|⟨vlw,x3,t3,m3,g3,X3,w3,e3,_,i3,r3⟩;refine .inl ⟨m3,?_,F2.trans (d.kF X3 a),by rw[pb4 k];exact(r0 _ _).trans ((r1 _ _).trans ((r2 _ _).trans (r3 _ _)))⟩;rw[en f272];simp[f272,g0,g1,g2,g3,g,t];have r:=d.call X3 w3 (λw f=>by rw[e3];simp[f]) (by rw[e3];simp<;>omega)
 obtain⟨N3,D,N,Y3⟩:=r.store (off:=19) (vs:=[iV vlw]) (h':={h with lg:=vlg,ll:=vll,lh:=vlh,lw:=vlw}) ZZ ZZ rfl rfl;have F3:=(F2.trans (d.kF X3 a)).trans (r.VI Y3 e);refine .inr ⟨N3,⟨{h with lg:=vlg,ll:=vll,lh:=vlh,lw:=vlw},[],[],[]⟩,t3,?_,F3,N,i ({h with lg:=vlg,ll:=vll,lh:=vlh,lw:=vlw}) E F G K id C _,ZZ,ZZ,ZZ,?_⟩;rw[en f272];simp[f272,g0,g1,g2,g3,g,t,D];rw[pb4 k];exact((r0 _ _).trans ((r1 _ _).trans ((r2 _ _).trans (r3 _ _)))).trans (ci some (z ({h with lg:=vlg,ll:=vll,lh:=vlh,lw:=vlw}) E F G).symm)
def pb7(a:h.kind=7)(ws:cP):parseBody h ws=pW eD ws λws=>pN ws λtr ws=>pN ws λtn ws=>some ⟨{h with tr:=tr,tn:=tn},[],[],[]⟩:=by unfold parseBody;rw[aE (show¬ h.kind=1 by omega),aE (show¬ h.kind=2 by omega),aE (show¬ h.kind=3 by omega),aE (show¬ h.kind=4 by omega),aE (show¬ h.kind=5 by omega),aE (show¬ h.kind=6 by omega),cg a]
def aff(s:RS lo m p q ws h)(t:h.kind=7)(a:lo0<=p)(e:lo0<=q)(z:h.A=nS)(C:h.B=nS)(D:h.L=nS)(H:ah h.gn)(id:ah h.gd)(v:ah h.no)(n k:Nat):Reads 279 (n+4) k m p q lo0 lo ws h:=by
 have d:∀(x:D6),x.A=nS->x.B=nS->x.L=nS->ah x.gn->ah x.gd->ah x.no->∀M,J9 M ⟨x,[],[],[]⟩:=λx l o r E F G M=>⟨.inl ⟨l,rfl⟩,.inl ⟨o,rfl⟩,.inl ⟨r,rfl⟩,E,F,G⟩;have u:∀(x:D6),x.A=nS->x.B=nS->x.L=nS->(⟨x,[],[],[]⟩:FR).cn=⟨x,[],[],[]⟩:=λx l o r=>by obtain⟨⟩:=x;simp only at l o r;subst l o r;rfl
 rcases pI s.ok s.lp s.wk [119,105,116,104,100,114,97,119] (n+1) k with⟨m0,g0,X0,r0⟩|⟨t0,m0,g0,X0,w0,e0,r0⟩;refine .inl ⟨m0,?_,s.kF X0 a,by rw[pb7 t];exact r0 _ _⟩;rw[en f279];simp[f279,g0];have b:=s.call X0 w0 (λw f=>by rw[e0];simp[f]) (by rw[e0];simp);have F0:=s.kF (lo0:=lo0) X0 a;rcases dQ b.ok b.lp b.nx b.wk b.sh (n+1) k with⟨m1,g1,X1,r1⟩|⟨vtr,x1,t1,m1,g1,X1,w1,e1,_,i1,r1⟩;refine .inl ⟨m1,?_,F0.trans (b.kF X1 a),by rw[pb7 t];exact(r0 _ _).trans (r1 _ _)⟩;rw[en f279];simp[f279,g0,g1];have g:=b.call X1 w1 (λw f=>by rw[e1];simp[f]) (by rw[e1];simp<;>omega)
 obtain⟨N1,j,c,Y1⟩:=g.store (off:=30) (vs:=[iV vtr]) (h':={h with tr:=vtr}) ZZ ZZ rfl rfl;have F1:=(F0.trans (b.kF X1 a)).trans (g.VI Y1 e);rcases dQ c.ok c.lp c.nx c.wk c.sh (n+1) k with⟨m2,g2,X2,r2⟩|⟨vtn,x2,t2,m2,g2,X2,w2,e2,_,i2,r2⟩;refine .inl ⟨m2,?_,F1.trans (c.kF X2 a),by rw[pb7 t];exact(r0 _ _).trans ((r1 _ _).trans (r2 _ _))⟩;rw[en f279];simp[f279,g0,g1,g2,j];have i:=c.call X2 w2 (λw f=>by rw[e2];simp[f]) (by rw[e2];simp<;>omega)
 obtain⟨N2,y,I,Y2⟩:=i.store (off:=31) (vs:=[iV vtn]) (h':={h with tr:=vtr,tn:=vtn}) ZZ ZZ rfl rfl;have F2:=(F1.trans (c.kF X2 a)).trans (i.VI Y2 e);refine .inr ⟨N2,⟨{h with tr:=vtr,tn:=vtn},[],[],[]⟩,t2,?_,F2,I,d ({h with tr:=vtr,tn:=vtn}) z C D H id v _,ZZ,ZZ,ZZ,?_⟩;rw[en f279];simp[f279,g0,g1,g2,j,y];rw[pb7 t];exact((r0 _ _).trans ((r1 _ _).trans (r2 _ _))).trans (ci some (u ({h with tr:=vtr,tn:=vtn}) z C D).symm)
set_option maxHeartbeats 16000000
structure GSt(lo:Nat)(m:cD)(p q G:Nat)(ws:cP)(h:D6)(cs:cM):Prop where
 rs:RS lo m p q ws h
 gp:G≠p
 gq:G≠q
 gl:m.lim<=G
 gn:G<m.nx
 glo:lo<=G
 cell:m.get G=some (j6 cs)
variable {cs:cM}{G:Nat}
def GSt.call{a:cD}{t:cP}(s:GSt lo m p q G ws h cs)(X:bC p m a)(k:WS lo a p t)(c:∀w∈t,w∈ws)(b:t.length<=ws.length):GSt lo a p q G t h cs:=
 ⟨s.rs.call X k c b,s.gp,s.gq,by rw[X.lim];exact s.gl,aP s.gn X.nx,s.glo,by rw[X.old G s.gn s.gp];exact s.cell⟩
def GSt.store{cs' vs:cM}(s:GSt lo m p q G ws h cs)(h0:0<vs.length)(c:off+vs.length<=cs.length)(a:H8 vs=true)(b:cs.take off++vs++cs.drop (off+vs.length)=cs'):
   ∃N,(∀{β:Type} (k:cD->Option β),storeAt m G off vs k=k N)∧GSt lo N p q G ws h cs'∧bC G m N:=by
 obtain⟨N,d,g,X⟩:=aM (off:=off) (vs:=vs) s.rs.ok s.gn s.gl s.cell c h0 a;rw[b]at g;have r:=s.rs;refine⟨N,d,⟨⟨X.ok,by rw[X.lim];exact r.lp,by rw[X.lim];exact r.lq,r.pq,r.qlo,dn r.nx X.nx,r.wk.fr (X.fr (lo:=lo) r.nx) (aA _) (.inl s.glo),by rw[X.old q (aP r.qlo r.nx) (aqR s.gq)];exact r.cell,r.sh,r.few⟩,s.gp,s.gq,by rw[X.lim];exact s.gl,aP s.gn X.nx,s.glo,g⟩,X⟩
def GSt.make(s:RS lo m p q ws h)(cs:cM):GSt lo (m.new (j6 cs)) p q m.nx ws h cs:=by have c:=s.plo;have b:=s.nx;have d:=s.qlo;have a:=s.lp;have E:=(cE.refl s.ok).new (j6 cs);exact⟨⟨E.ok,s.lp,s.lq,s.pq,s.qlo,dn s.nx E.nx,s.wk.ext s.nx E,by rw[E.old q Zs];exact s.cell,s.sh,s.few⟩,Zs,Zs,by show m.lim<=_;omega,ZZ,s.nx,by rw[cD.Q5 s.ok,cg rfl]⟩
def GSt.Ze(s:GSt lo m p q G ws h cs)(X:bC G m m')(hp:lo0<=p):Fr lo0 lo0 m m':=by have:=s.rs.plo;have:=s.rs.nx;have:=s.glo;exact(X.fr (lo:=lo0) Zs).mono Zs
def agZ(a:m.Ok)(b:Y9)(h:lo0<=m.nx):Fr lo0 lo0 m (m.new b):=((cE.refl a).new b).fr h
def VJ(h:D8 v=true):H8 [v]=true:=by show bi (D8 v) true false=true;rw[h];rfl
def pb6(a:h.kind=6)(ws:cP):parseBody h ws=pW vP ws λws=>pN ws λmday ws=>(Ie [] ws).bind λp=>some ⟨{h with mday:=mday},[],[],p.1⟩:=by unfold parseBody;rw[aE (show¬ h.kind=1 by omega),aE (show¬ h.kind=2 by omega),aE (show¬ h.kind=3 by omega),aE (show¬ h.kind=4 by omega),aE (show¬ h.kind=5 by omega),cg a]
def afg(s:RS lo m p q ws h)(t:h.kind=6)(a:lo0<=p)(j:lo0<=q)(u:h.A=nS)(x:h.B=nS)(E:h.L=nS)(G:ah h.gn)(id:ah h.gd)(C:ah h.no)(n f:Nat)(y:20001<=f):Reads 277 (n+4) f m p q lo0 lo ws h:=by
 rcases pI s.ok s.lp s.wk [109,105,120] (n+1) f with⟨m0,g0,X0,r0⟩|⟨t0,m0,g0,X0,w0,e0,r0⟩;refine .inl ⟨m0,?_,s.kF X0 a,by rw[pb6 t];exact r0 _ _⟩;rw[en f277];simp[f277,g0];have c:=s.call X0 w0 (λw z=>by rw[e0];simp[z]) (by rw[e0];simp);rcases dQ c.ok c.lp c.nx c.wk c.sh (n+1) f with⟨m1,g1,X1,r1⟩|⟨vm,x1,t1,m1,g1,X1,w1,e1,_,i1,r1⟩;refine .inl ⟨m1,?_,(s.kF X0 a).trans (c.kF X1 a),by rw[pb6 t];show pW [109,105,120] ws _=none;simp only[r0,r1]⟩;rw[en f277];simp[f277,g0,g1];have k:=c.call X1 w1 (λw z=>by rw[e1];simp[z]) (by rw[e1];simp);obtain⟨N1,r,b,Y1⟩:=k.store (off:=28) (vs:=[iV vm]) (h':={h with mday:=vm}) ZZ ZZ rfl rfl;have F1:=((s.kF X0 a).trans (c.kF X1 a)).trans (k.VI Y1 j);rcases Qc (e:=[]) b.ok b.lp b.nx b.wk b.sh b.few n f y with⟨m2,g2,X2,r2⟩|⟨v,m2,l,t2,g2,X2,o2,w2,r2,q2,u2⟩;refine .inl ⟨m2,?_,F1.trans (b.kF X2 a),by rw[pb6 t];show pW [109,105,120] ws _=none;simp only[r0,r1,r2];rfl⟩;rw[en f277];simp[f277,g0,g1,r,g2];have o:=b.call X2 w2 u2 Zs;have g:=o2.vs.D8;obtain⟨N2,D,H,Y2⟩:=o.store (off:=29) (vs:=[v]) (h':={h with mday:=vm,L:=v}) ZZ ZZ (VJ g) rfl;have d:=o2.vs.cells;have i:=λ{β:Type} (p:j5->β) q=>o2.vs.aL p q;have F:=b.few;refine .inr ⟨N2,⟨{h with mday:=vm,L:=v},[],[],l⟩,t2,?_,(F1.trans (b.kF X2 a)).trans (o.VI Y2 j),H,⟨.inl ⟨u,rfl⟩,.inl ⟨x,rfl⟩,(o2.Ic Y2 (by have:=b.qlo;have:=b.nx;omega)).sl,G,id,C⟩,ZZ,ZZ,ZD,?_⟩;rw[en f277];simp[f277,g0,g1,r,g2,D,d,i];rw[pb6 t];show pW [109,105,120] ws _=_;simp only[r0,r1,r2,agU];obtain⟨⟩:=h;simp only at u x E;subst u x E;rfl
def pb2(a:h.kind=2)(ws:cP):parseBody h ws=pW mD ws λws=>pN ws λgid ws=>pN ws λmade ws=>pN ws λnom ws=>pN ws λtlo ws=>pN ws λthi ws=>pN ws λgn ws=>pN ws λgd ws=>pN ws λwear ws=>
   some ⟨{h with gid:=gid,made:=made,nom:=nom,tlo:=tlo,thi:=thi,gn:=gn,gd:=gd,wear:=wear},[],[],[]⟩:=by
 unfold parseBody;rw[aE (show¬ h.kind=1 by omega),cg a]
def afh(s:RS lo m p q ws h)(g:h.kind=2)(a:lo0<=p)(O:lo0<=q)(J:h.A=nS)(K:h.B=nS)(M:h.L=nS)(V:ah h.gn)(id:ah h.gd)(P:ah h.no)(n f:Nat)(S:20001<=f):Reads 267 (n+4) f m p q lo0 lo ws h:=by
 rcases pI s.ok s.lp s.wk [103,97,117,103,101] (n+1) f with⟨m0,g0,X0,r0⟩|⟨t0,m0,g0,X0,w0,e0,r0⟩;refine .inl ⟨m0,?_,s.kF X0 a,by rw[pb2 g];exact r0 _ _⟩;rw[en f267];simp[f267,g0];have k:=s.call X0 w0 (λw b=>by rw[e0];simp[b]) (by rw[e0];simp);have F0:=s.kF (lo0:=lo0) X0 a;rcases dQ k.ok k.lp k.nx k.wk k.sh (n+1) f with⟨m1,g1,X1,r1⟩|⟨vgid,x1,t1,m1,g1,X1,w1,e1,_,i1,r1⟩;refine .inl ⟨m1,?_,F0.trans (k.kF X1 a),by rw[pb2 g];show pW [103,97,117,103,101] ws _=none;simp only[r0,r1]⟩;rw[en f267];simp[f267,g0,g1];have i:=k.call X1 w1 (λw b=>by rw[e1];simp[b]) (by rw[e1];simp<;>omega)
 have z:=GSt.make i [iZ,iZ,iZ,iZ,iZ,iZ,iZ,iZ];obtain⟨N1,c,l,Y1⟩:=z.store (off:=0) (vs:=[iV vgid,iZ,iZ,iZ,iZ,iZ,iZ,iZ]) (cs':=[iV vgid,iZ,iZ,iZ,iZ,iZ,iZ,iZ]) ZZ ZZ rfl rfl;have F1:=((F0.trans (k.kF X1 a)).trans (agZ i.ok _ (by have:=i.plo;have:=i.nx;omega))).trans (z.Ze Y1 a);rcases dQ l.rs.ok l.rs.lp l.rs.nx l.rs.wk l.rs.sh (n+1) f with⟨m2,g2,X2,r2⟩|⟨vmade,x2,t2,m2,g2,X2,w2,e2,_,i2,r2⟩;refine .inl ⟨m2,?_,F1.trans (l.rs.kF X2 a),by rw[pb2 g];show pW [103,97,117,103,101] ws _=none;simp only[r0,r1,r2]⟩;rw[en f267];simp[f267,g0,g1,g2,c];have C:=l.call X2 w2 (λw b=>by rw[e2];simp[b]) (by rw[e2];simp<;>omega)
 obtain⟨N2,d,o,Y2⟩:=C.store (off:=1) (vs:=[iV vmade]) (cs':=[iV vgid,iV vmade,iZ,iZ,iZ,iZ,iZ,iZ]) ZZ ZZ rfl rfl;have F2:=(F1.trans (l.rs.kF X2 a)).trans (C.Ze Y2 a);rcases dQ o.rs.ok o.rs.lp o.rs.nx o.rs.wk o.rs.sh (n+1) f with⟨m3,g3,X3,r3⟩|⟨vnom,x3,t3,m3,g3,X3,w3,e3,_,i3,r3⟩;refine .inl ⟨m3,?_,F2.trans (o.rs.kF X3 a),by rw[pb2 g];show pW [103,97,117,103,101] ws _=none;simp only[r0,r1,r2,r3]⟩;rw[en f267];simp[f267,g0,g1,g2,g3,c,d];have D:=o.call X3 w3 (λw b=>by rw[e3];simp[b]) (by rw[e3];simp<;>omega)
 obtain⟨N3,e,r,Y3⟩:=D.store (off:=2) (vs:=[iV vnom]) (cs':=[iV vgid,iV vmade,iV vnom,iZ,iZ,iZ,iZ,iZ]) ZZ ZZ rfl rfl;have F3:=(F2.trans (o.rs.kF X3 a)).trans (D.Ze Y3 a);rcases Iq r.rs.ok r.rs.lp r.rs.nx r.rs.wk r.rs.sh (n) f with⟨m4,g4,X4,r4⟩|⟨vtlo,vthi,x4,y4,t4,m4,g4,X4,w4,e4,i4,j4,r4⟩;refine .inl ⟨m4,?_,F3.trans (r.rs.kF X4 a),by rw[pb2 g];show pW [103,97,117,103,101] ws _=none;simp only[r0,r1,r2,r3,r4]⟩;rw[en f267];simp[f267,g0,g1,g2,g3,g4,c,d,e];have E:=r.call X4 w4 (λw b=>by rw[e4];simp[b]) (by rw[e4];simp<;>omega)
 obtain⟨N4,j,t,Y4⟩:=E.store (off:=3) (vs:=[iV vtlo,iV vthi]) (cs':=[iV vgid,iV vmade,iV vnom,iV vtlo,iV vthi,iZ,iZ,iZ]) ZZ ZZ rfl rfl;have F4:=(F3.trans (r.rs.kF X4 a)).trans (E.Ze Y4 a);rcases dQ t.rs.ok t.rs.lp t.rs.nx t.rs.wk t.rs.sh (n+1) f with⟨m5,g5,X5,r5⟩|⟨vgn,x5,t5,m5,g5,X5,w5,e5,_,i5,r5⟩;refine .inl ⟨m5,?_,F4.trans (t.rs.kF X5 a),by rw[pb2 g];show pW [103,97,117,103,101] ws _=none;simp only[r0,r1,r2,r3,r4,r5]⟩;rw[en f267];simp[f267,g0,g1,g2,g3,g4,g5,c,d,e,j];have F:=t.call X5 w5 (λw b=>by rw[e5];simp[b]) (by rw[e5];simp<;>omega)
 obtain⟨N5,y,u,Y5⟩:=F.store (off:=5) (vs:=[iV vgn]) (cs':=[iV vgid,iV vmade,iV vnom,iV vtlo,iV vthi,iV vgn,iZ,iZ]) ZZ ZZ rfl rfl;have F5:=(F4.trans (t.rs.kF X5 a)).trans (F.Ze Y5 a);rcases dQ u.rs.ok u.rs.lp u.rs.nx u.rs.wk u.rs.sh (n+1) f with⟨m6,g6,X6,r6⟩|⟨vgd,x6,t6,m6,g6,X6,w6,e6,_,i6,r6⟩;refine .inl ⟨m6,?_,F5.trans (u.rs.kF X6 a),by rw[pb2 g];show pW [103,97,117,103,101] ws _=none;simp only[r0,r1,r2,r3,r4,r5,r6]⟩;rw[en f267];simp[f267,g0,g1,g2,g3,g4,g5,g6,c,d,e,j,y];have G:=u.call X6 w6 (λw b=>by rw[e6];simp[b]) (by rw[e6];simp<;>omega)
 obtain⟨N6,I,v,Y6⟩:=G.store (off:=6) (vs:=[iV vgd]) (cs':=[iV vgid,iV vmade,iV vnom,iV vtlo,iV vthi,iV vgn,iV vgd,iZ]) ZZ ZZ rfl rfl;have F6:=(F5.trans (u.rs.kF X6 a)).trans (G.Ze Y6 a);rcases dQ v.rs.ok v.rs.lp v.rs.nx v.rs.wk v.rs.sh (n+1) f with⟨m7,g7,X7,r7⟩|⟨vwear,x7,t7,m7,g7,X7,w7,e7,_,i7,r7⟩;refine .inl ⟨m7,?_,F6.trans (v.rs.kF X7 a),by rw[pb2 g];show pW [103,97,117,103,101] ws _=none;simp only[r0,r1,r2,r3,r4,r5,r6,r7]⟩;rw[en f267];simp[f267,g0,g1,g2,g3,g4,g5,g6,g7,c,d,e,j,y,I];have H:=v.call X7 w7 (λw b=>by rw[e7];simp[b]) (by rw[e7];simp<;>omega)
 obtain⟨N7,R,Q,Y7⟩:=H.store (off:=7) (vs:=[iV vwear]) (cs':=[iV vgid,iV vmade,iV vnom,iV vtlo,iV vthi,iV vgn,iV vgd,iV vwear]) ZZ ZZ rfl rfl;have F7:=(F6.trans (v.rs.kF X7 a)).trans (H.Ze Y7 a);obtain⟨N,U,T,Y⟩:=Q.rs.store (off:=6) (vs:=[iV vgid,iV vmade,iV vnom,iV vtlo,iV vthi,iV vgn,iV vgd,iV vwear]) (h':={h with gid:=vgid,made:=vmade,nom:=vnom,tlo:=vtlo,thi:=vthi,gn:=vgn,gd:=vgd,wear:=vwear}) ZZ ZZ rfl rfl;have FN:=F7.trans (Q.rs.VI Y O);have x:=Q.cell;refine .inr ⟨N,⟨{h with gid:=vgid,made:=vmade,nom:=vnom,tlo:=vtlo,thi:=vthi,gn:=vgn,gd:=vgd,wear:=vwear},[],[],[]⟩,t7,?_,FN,T,⟨.inl ⟨J,rfl⟩,.inl ⟨K,rfl⟩,.inl ⟨M,rfl⟩,i5,i6,P⟩,ZZ,ZZ,ZZ,?_⟩;rw[en f267];simp[f267,x,g0,g1,g2,g3,g4,g5,g6,g7,c,d,e,j,y,I,R,U];rw[pb2 g];show pW [103,97,117,103,101] ws _=_;simp only[r0,r1,r2,r3,r4,r5,r6,r7];obtain⟨⟩:=h;simp only at J K M;subst J K M;rfl
def pb5(a:h.kind=5)(ws:cP):parseBody h ws=pW V8 ws λws=>pN ws λcday ws=>pN ws λdiff ws=>pN ws λerr ws=>pN ws λhlo ws=>pN ws λhhi ws=>pW kA ws λws=>(Ie kB ws).bind λp=>pW kB p.2 λws=>(Ie [] ws).bind λq=>
   some ⟨{h with cday:=cday,diff:=diff,err:=err,hlo:=hlo,hhi:=hhi},p.1,q.1,[]⟩:=by
 unfold parseBody;rw[aE (show¬ h.kind=1 by omega),aE (show¬ h.kind=2 by omega),aE (show¬ h.kind=3 by omega),aE (show¬ h.kind=4 by omega),cg a]
def afi(s:RS lo m p q ws h)(v:h.kind=5)(C:h.cid=0)(a:lo0<=p)(W:lo0<=q)(hA:h.A=nS)(hB:h.B=nS)(V:h.L=nS)(ig:ah h.gn)(id:ah h.gd)(X:ah h.no)(n o:Nat)(O:20001<=o):Reads 274 (n+4) o m p q lo0 lo ws h:=by
 rcases pI s.ok s.lp s.wk [99,111,109,112,97,114,101] (n+1) o with⟨m0,g0,X0,r0⟩|⟨t0,m0,g0,X0,w0,e0,r0⟩;refine .inl ⟨m0,?_,s.kF X0 a,by rw[pb5 v];exact r0 _ _⟩;rw[en f274];simp[f274,g0];have D:=s.call X0 w0 (λw i=>by rw[e0];simp[i]) (by rw[e0];simp);have F0:=s.kF (lo0:=lo0) X0 a;rcases dQ D.ok D.lp D.nx D.wk D.sh (n+1) o with⟨m1,g1,X1,r1⟩|⟨vcday,x1,t1,m1,g1,X1,w1,e1,_,i1,r1⟩;refine .inl ⟨m1,?_,F0.trans (D.kF X1 a),by rw[pb5 v];show pW [99,111,109,112,97,114,101] ws _=none;simp only[r0,r1]⟩;rw[en f274];simp[f274,g0,g1];have z:=D.call X1 w1 (λw i=>by rw[e1];simp[i]) (by rw[e1];simp<;>omega)
 have P:=GSt.make z [iZ,iZ,nS,nS,iZ,iZ,iZ,iZ];obtain⟨N1,d,E,Y1⟩:=P.store (off:=0) (vs:=[iZ,iV vcday,nS,nS,iZ,iZ,iZ,iZ]) (cs':=[iZ,iV vcday,nS,nS,iZ,iZ,iZ,iZ]) ZZ ZZ rfl rfl;have F1:=((F0.trans (D.kF X1 a)).trans (agZ z.ok _ (by have:=z.plo;have:=z.nx;omega))).trans (P.Ze Y1 a);rcases dQ E.rs.ok E.rs.lp E.rs.nx E.rs.wk E.rs.sh (n+1) o with⟨m2,g2,X2,r2⟩|⟨vdiff,x2,t2,m2,g2,X2,w2,e2,_,i2,r2⟩;refine .inl ⟨m2,?_,F1.trans (E.rs.kF X2 a),by rw[pb5 v];show pW [99,111,109,112,97,114,101] ws _=none;simp only[r0,r1,r2]⟩;rw[en f274];simp[f274,g0,g1,g2,d];have Q:=E.call X2 w2 (λw i=>by rw[e2];simp[i]) (by rw[e2];simp<;>omega)
 obtain⟨N2,g,F,Y2⟩:=Q.store (off:=4) (vs:=[iV vdiff]) (cs':=[iZ,iV vcday,nS,nS,iV vdiff,iZ,iZ,iZ]) ZZ ZZ rfl rfl;have F2:=(F1.trans (E.rs.kF X2 a)).trans (Q.Ze Y2 a);rcases dQ F.rs.ok F.rs.lp F.rs.nx F.rs.wk F.rs.sh (n+1) o with⟨m3,g3,X3,r3⟩|⟨verr,x3,t3,m3,g3,X3,w3,e3,_,i3,r3⟩;refine .inl ⟨m3,?_,F2.trans (F.rs.kF X3 a),by rw[pb5 v];show pW [99,111,109,112,97,114,101] ws _=none;simp only[r0,r1,r2,r3]⟩;rw[en f274];simp[f274,g0,g1,g2,g3,d,g];have R:=F.call X3 w3 (λw i=>by rw[e3];simp[i]) (by rw[e3];simp<;>omega)
 obtain⟨N3,l,G,Y3⟩:=R.store (off:=5) (vs:=[iV verr]) (cs':=[iZ,iV vcday,nS,nS,iV vdiff,iV verr,iZ,iZ]) ZZ ZZ rfl rfl;have F3:=(F2.trans (F.rs.kF X3 a)).trans (R.Ze Y3 a);rcases Iq G.rs.ok G.rs.lp G.rs.nx G.rs.wk G.rs.sh (n) o with⟨m4,g4,X4,r4⟩|⟨vhlo,vhhi,x4,y4,t4,m4,g4,X4,w4,e4,i4,j4,r4⟩;refine .inl ⟨m4,?_,F3.trans (G.rs.kF X4 a),by rw[pb5 v];show pW [99,111,109,112,97,114,101] ws _=none;simp only[r0,r1,r2,r3,r4]⟩;rw[en f274];simp[f274,g0,g1,g2,g3,g4,d,g,l];have S:=G.call X4 w4 (λw i=>by rw[e4];simp[i]) (by rw[e4];simp<;>omega)
 obtain⟨N4,u,K,Y4⟩:=S.store (off:=6) (vs:=[iV vhlo,iV vhhi]) (cs':=[iZ,iV vcday,nS,nS,iV vdiff,iV verr,iV vhlo,iV vhhi]) ZZ ZZ rfl rfl;have F4:=(F3.trans (G.rs.kF X4 a)).trans (S.Ze Y4 a);rcases pI K.rs.ok K.rs.lp K.rs.wk [97] (n+1) o with⟨m5,g5,X5,r5⟩|⟨t5,m5,g5,X5,w5,e5,r5⟩;refine .inl ⟨m5,?_,F4.trans (K.rs.kF X5 a),by rw[pb5 v];show pW [99,111,109,112,97,114,101] ws _=none;simp only[r0,r1,r2,r3,r4];exact r5 _ _⟩;rw[en f274];simp[f274,g0,g1,g2,g3,g4,g5,d,g,l,u];have c:=K.call X5 w5 (λw i=>by rw[e5];simp[i]) (by rw[e5];simp<;>omega)
 have F5:=F4.trans (K.rs.kF X5 a);have R5:∀(α:Type) (k:cP->Option α),pW kA t4 k=k t5:=r5;rcases Qc (e:=[98]) c.rs.ok c.rs.lp c.rs.nx c.rs.wk c.rs.sh c.rs.few n o O with⟨m6,g6,X6,r6⟩|⟨vA,m6,lA,t6,g6,X6,oA,w6,r6,q6,u6⟩;refine .inl ⟨m6,?_,F5.trans (c.rs.kF X6 a),by rw[pb5 v];show pW [99,111,109,112,97,114,101] ws _=none;simp only[r0,r1,r2,r3,r4,R5];rw[show Ie kB t5=none from r6];rfl⟩;rw[en f274];simp[f274,g0,g1,g2,g3,g4,g5,g6,d,g,l,u];have r:=oA.vs.D8;have b:=oA.vs.cells;have f:=λ{β:Type} (p:j5->β) q=>oA.vs.aL p q;have T:=c.call X6 w6 u6 Zs;obtain⟨N6,J,M,Y6⟩:=T.store (off:=2) (vs:=[vA]) (cs':=[iZ,iV vcday,vA,nS,iV vdiff,iV verr,iV vhlo,iV vhhi]) ZZ ZZ (VJ r) rfl;have F6:=(F5.trans (c.rs.kF X6 a)).trans (T.Ze Y6 a);have OA:=oA.Ic Y6 c.gn;have R6:Ie kB t5=some (lA,t6):=r6;rcases pI M.rs.ok M.rs.lp M.rs.wk [98] (n+1) o with⟨m7,g7,X7,r7⟩|⟨t7,m7,g7,X7,w7,e7,r7⟩;refine .inl ⟨m7,?_,F6.trans (M.rs.kF X7 a),by rw[pb5 v];show pW [99,111,109,112,97,114,101] ws _=none;simp only[r0,r1,r2,r3,r4,R5,R6,agU];exact r7 _ _⟩;rw[en f274];simp[f274,g0,g1,g2,g3,g4,g5,g6,g7,d,g,l,u,J,b,f];have j:=M.call X7 w7 (λw i=>by rw[e7];simp[i]) (by rw[e7];simp<;>omega)
 have F7:=F6.trans (M.rs.kF X7 a);have R7:∀(α:Type) (k:cP->Option α),pW kB t6 k=k t7:=r7;rcases Qc (e:=[]) j.rs.ok j.rs.lp j.rs.nx j.rs.wk j.rs.sh j.rs.few n o O with⟨m8,g8,X8,r8⟩|⟨vB,m8,lB,t8,g8,X8,oB,w8,r8,q8,u8⟩;refine .inl ⟨m8,?_,F7.trans (j.rs.kF X8 a),by rw[pb5 v];show pW [99,111,109,112,97,114,101] ws _=none;simp only[r0,r1,r2,r3,r4,R5,R6,R7,agU];rw[show Ie [] t7=none from r8];rfl⟩;rw[en f274];simp[f274,g0,g1,g2,g3,g4,g5,g6,g7,g8,d,g,l,u,J,b,f];have t:=oB.vs.D8;have y:=oB.vs.cells;have I:=λ{β:Type} (p:j5->β) q=>oB.vs.aL p q;have U:=j.call X8 w8 u8 Zs;obtain⟨N8,a0,Z,Y8⟩:=U.store (off:=3) (vs:=[vB]) (cs':=[iZ,iV vcday,vA,vB,iV vdiff,iV verr,iV vhlo,iV vhhi]) ZZ ZZ (VJ t) rfl;have F8:=(F7.trans (j.rs.kF X8 a)).trans (U.Ze Y8 a);have OB:=oB.Ic Y8 j.gn;have R8:Ie [] t7=some (lB,t8):=r8;obtain⟨N,st,sN,Y⟩:=Z.rs.store (off:=20) (vs:=[iZ,iV vcday,vA,vB,iV vdiff,iV verr,iV vhlo,iV vhhi]) (h':={h with cid:=0,cday:=vcday,diff:=vdiff,err:=verr,hlo:=vhlo,hhi:=vhhi,A:=vA,B:=vB}) ZZ ZZ (by simp[r,t,show∀k x,D8 (.int k x)=true from λ_ _=>rfl]) rfl;have FN:=F8.trans (Z.rs.VI Y W);have H:=Z.cell;have a1:=c.rs.few;have a2:=j.rs.few;refine .inr ⟨N,⟨{h with cid:=0,cday:=vcday,diff:=vdiff,err:=verr,hlo:=vhlo,hhi:=vhhi,A:=vA,B:=vB},lA,lB,[]⟩,t8,?_,FN,sN,⟨?_,(OB.Ic Y (by have:=j.rs.qlo;have:=j.rs.nx;omega)).sl,.inl ⟨V,rfl⟩,ig,id,X⟩,ZD,ZD,ZZ,?_⟩;rw[en f274];simp[f274,H,g0,g1,g2,g3,g4,g5,g6,g7,g8,d,g,l,u,J,a0,b,f,y,I,st];have O1:=OA.Ic X7 (by have:=c.rs.plo;have:=c.rs.nx;omega);have O2:=O1.Ic X8 (by have:=c.rs.plo;have:=c.rs.nx;omega);have O3:=O2.Ic Y8 c.gn;exact(O3.Ic Y (by have:=c.rs.qlo;have:=c.rs.nx;omega)).sl;rw[pb5 v];show pW [99,111,109,112,97,114,101] ws _=_
 simp only[r0,r1,r2,r3,r4,R5,R6,R7,R8,agU];obtain⟨⟩:=h;simp only at hA hB V C;subst hA hB V C;rfl
end Go.Proofs.YtpmfjipaheolgaaGreatDoor.TT
