/- Functions of the program and of the specification, walked; conditions: the memory holds what the arguments say. -/
import Derived.Test.YtpmfjipaheolgaaGreatDoorPD2
set_option linter.all false
namespace Go.Proofs.YtpmfjipaheolgaaGreatDoor.TT
open Go Go.AM
set_option maxRecDepth 100000
set_option maxHeartbeats 16000000
open Nat (beq ble blt)
noncomputable def J8:List (j5×j5):=[(iV 1,.agg [.func (.func 262) [] [],.func (.func 263) [] []]),(iV 2,.agg [.func (.func 266) [] [],.func (.func 267) [] []]),(iV 3,.agg [.func (.func 269) [] [],.func (.func 270) [] []]),(iV 4,.agg [.func (.func 271) [] [],.func (.func 272) [] []]),(iV 5,.agg [.func (.func 273) [] [],.func (.func 274) [] []]),(iV 6,.agg [.func (.func 276) [] [],.func (.func 277) [] []]),(iV 7,.agg [.func (.func 278) [] [],.func (.func 279) [] []])]
def tO(n c:Nat)(m:cD)(d:m.Ok)(b:m.lim<=m.nx):l9 KW c (n+1) (.func 165) [] m=some [⟨.map m.nx,ext m [.map J8]⟩]:=by
 rw[en f165];have a:blt m.nx m.lim=false:=by have:=Ei b [];rwa [Ay]at this
 simp[f165,ay d b,Cm,a,Ph,wO,U8,Q6,T9,mM,J8]
variable {r:FR}
def abQ{s:FR}(h:r.cn=s.cn):r.a=s.a∧r.b=s.b∧r.l=s.l:=by
 refine⟨?_,?_,?_⟩;have:r.cn.a=s.cn.a:=by rw[h]
 exact this;have:r.cn.b=s.cn.b:=by rw[h]
 exact this;have:r.cn.l=s.cn.l:=by rw[h]
 exact this
def Ho(h:r.valid=true):r.small=true:=by
 have i:=gM h;obtain⟨c,d,e⟩:=abQ (CK h);have c:r.a=if r.f.kind=5 then r.a else[]:=c
 have d:r.b=if r.f.kind=5 then r.b else[]:=d
 have e:r.l=if r.f.kind=6 then r.l else[]:=e
 have g:r.a.length<=9∧r.b.length<=9:=by by_cases h5:r.f.kind=5;obtain⟨_,_,_,k,m⟩:=i.k5 h5;omega;rw[aE h5]at c d;rw[c,d];simp
 have j:r.l.length<=9:=by by_cases h6:r.f.kind=6;obtain⟨_,_,n⟩:=i.k6 h6;omega;rw[aE h6]at e;rw[e];simp
 simp only[FR.small,oo,ck];exact⟨g.1,g.2,j⟩
def NK(f:j5->j5->Bool):∀(l:cM),(∀x∈l,f x x=true)->wh f l l=true
 |[],_=>rfl
 |x::l,h=>by show bi (f x x) (wh f l l) false=true;rw[h x ZZ,NK f l (λy hy=>h y (by simp[hy]))];rfl
variable {m:cD}
def jy(c:J9 m r):bg 100 (.agg r.f.cells) (.agg r.f.cells)=true:=by show wh (bg 99) r.f.cells r.f.cells=true;refine NK _ _ λx d=>?_;have e:bg 99 r.f.A r.f.A=true:=gG c.a 98;have g:bg 99 r.f.B r.f.B=true:=gG c.b 98;have i:bg 99 r.f.L r.f.L=true:=gG c.l 98;have h:∀k n,bg 99 (.int k n) (.int k n)=true:=λk n=>G8 98 k n;simp only[D6.cells,O4,arj,or_false]at d;rcases d with rfl|rfl|rfl|rfl|rfl|rfl|rfl|rfl|rfl|rfl|rfl|rfl|rfl|rfl|rfl|rfl|rfl|rfl|rfl|rfl|rfl|rfl|rfl|rfl|rfl|rfl|rfl|rfl|rfl|rfl|rfl|rfl<;>first|exact h _ _|exact e|exact g|exact i
def J9.at'(k:J9 m r)(c:r.a.length<20000)(hb:r.b.length<20000)(d:r.l.length<20000):aR m r.f r.a r.b r.l:=⟨k.a,k.b,k.l,c,hb,d⟩
def ait(d:m.Ok)(g:m.lim<=m.nx)(i:J9 m r)(h:r.valid=true)(c:r.f.kind=1)(n a:Nat)(b:20001<=a):
   ∃m',l9 KW a (n+3) (.func 262) [.agg r.f.cells] m=some [⟨.str (U7 r),m'⟩]∧cE m m':=by
 have e:=gM h;rw[U7,cg c];exact⟨_,af5 d g (by simpa using e.k1 c) n a b,o8 d _⟩
def aqS(h:m.Ok)(w:m.lim<=m.nx)(t:J9 m r)(j:r.valid=true)(q:r.f.kind=1)(n g:Nat)(i:20001<=g):
   ∃m',l9 KW g (n+4) (.func 89) [.agg r.f.cells] m=some [⟨.str (C8 r),m'⟩]∧cE m m':=by
 let L:List Y9:=[j6 r.f.cells,.cells 1 4 (T.ofList [[iV r.f.room],[iV r.f.no],[iV r.f.known],[iV r.f.kind]])]
 have c:l9 KW g (n+3) (.func 164) [.str [102,97,99,116],.slice (m.nx+1) 0 4 4] (ext m L)=some [⟨.str (C9 K5 (G9 r)),ext m L⟩]:=
  gQ (xs:=G9 r) (gJ (xs:=G9 r) (by rw[r9 h];rfl) (by simp[L]) rfl) (by simp[G9]) (nK j) K5 (by simp[K5]) (n+1) g i
 have o:=tO (n+2) g (ext m L) (I7 h _) (by simp[L];omega);have d:∀(s k:OF) l e,s l e=.map (m.nx+2)->k l e=iV 1->nX jQ 1 (.agg [.nilFunc,.nilFunc]) false s k l e (ext m (L++[.map J8]))=some (.agg [.func (.func 262) [] [],.func (.func 263) [] []]):=by intro s k l e u v;rw[eT _ _ _ _ _ _ _ _ _ _ J8 u (by rw[r9 h];rfl),v];simp[J8,U8,Q6,T9];try rfl
 have E0:=o8 h (L++[.map J8]);obtain⟨x,p,E3⟩:=ait (I7 h (L++[.map J8])) (by simp[L];omega) (t.ext E0) j q n g i;refine⟨x,?_,E0.trans E3⟩;have C:=jM j;have D:=kT j;have y:fZ (C9 K5 (G9 r)) [10]=some (.str (C9 K5 (G9 r)++[10])):=Z4 ZD;have z:fZ (C9 K5 (G9 r)++[10]) (U7 r)=some (.str (C9 K5 (G9 r)++[10]++U7 r)):=Z4 ZD;have A:fZ (C9 K5 (G9 r)++10::U7 r) [10]=some (.str (C8 r)):=by have:=Z4 (a:=C9 K5 (G9 r)++10::U7 r) (b:=[10]) ZD;rw[this];simp[C8]
 have B:=jy t;rw[en f89];simp only[L,agz,O9]at c o p d;rw[q]at c o p d;simp[f89,ay h w,Q8,aJ,aI,isVoid,G8,q,c,o,d,p,y,z,A,B]
def aiu(d:m.Ok)(g:m.lim<=m.nx)(i:J9 m r)(h:r.valid=true)(c:r.f.kind=2)(n a:Nat)(b:20001<=a):
   ∃m',l9 KW a (n+3) (.func 266) [.agg r.f.cells] m=some [⟨.str (U7 r),m'⟩]∧cE m m':=by
 have e:=gM h;rw[U7,aE (show¬ r.f.kind=1 by omega),cg c];exact⟨_,af6 d g (by simpa using e.k2 c) n a b,o8 d _⟩
def aqT(h:m.Ok)(w:m.lim<=m.nx)(t:J9 m r)(j:r.valid=true)(q:r.f.kind=2)(n g:Nat)(i:20001<=g):
   ∃m',l9 KW g (n+4) (.func 89) [.agg r.f.cells] m=some [⟨.str (C8 r),m'⟩]∧cE m m':=by
 let L:List Y9:=[j6 r.f.cells,.cells 1 4 (T.ofList [[iV r.f.room],[iV r.f.no],[iV r.f.known],[iV r.f.kind]])]
 have c:l9 KW g (n+3) (.func 164) [.str [102,97,99,116],.slice (m.nx+1) 0 4 4] (ext m L)=some [⟨.str (C9 K5 (G9 r)),ext m L⟩]:=
  gQ (xs:=G9 r) (gJ (xs:=G9 r) (by rw[r9 h];rfl) (by simp[L]) rfl) (by simp[G9]) (nK j) K5 (by simp[K5]) (n+1) g i
 have o:=tO (n+2) g (ext m L) (I7 h _) (by simp[L];omega);have d:∀(s k:OF) l e,s l e=.map (m.nx+2)->k l e=iV 2->nX jQ 1 (.agg [.nilFunc,.nilFunc]) false s k l e (ext m (L++[.map J8]))=some (.agg [.func (.func 266) [] [],.func (.func 267) [] []]):=by intro s k l e u v;rw[eT _ _ _ _ _ _ _ _ _ _ J8 u (by rw[r9 h];rfl),v];simp[J8,U8,Q6,T9];try rfl
 have E0:=o8 h (L++[.map J8]);obtain⟨x,p,E3⟩:=aiu (I7 h (L++[.map J8])) (by simp[L];omega) (t.ext E0) j q n g i;refine⟨x,?_,E0.trans E3⟩;have C:=jM j;have D:=kT j;have y:fZ (C9 K5 (G9 r)) [10]=some (.str (C9 K5 (G9 r)++[10])):=Z4 ZD;have z:fZ (C9 K5 (G9 r)++[10]) (U7 r)=some (.str (C9 K5 (G9 r)++[10]++U7 r)):=Z4 ZD;have A:fZ (C9 K5 (G9 r)++10::U7 r) [10]=some (.str (C8 r)):=by have:=Z4 (a:=C9 K5 (G9 r)++10::U7 r) (b:=[10]) ZD;rw[this];simp[C8]
 have B:=jy t;rw[en f89];simp only[L,agz,O9]at c o p d;rw[q]at c o p d;simp[f89,ay h w,Q8,aJ,aI,isVoid,G8,q,c,o,d,p,y,z,A,B]
def aiv(d:m.Ok)(g:m.lim<=m.nx)(i:J9 m r)(h:r.valid=true)(c:r.f.kind=3)(n a:Nat)(b:20001<=a):
   ∃m',l9 KW a (n+3) (.func 269) [.agg r.f.cells] m=some [⟨.str (U7 r),m'⟩]∧cE m m':=by
 have e:=gM h;rw[U7,aE (show¬ r.f.kind=1 by omega),aE (show¬ r.f.kind=2 by omega),cg c];exact⟨_,af7 d g (by simpa using e.k3 c) n a b,o8 d _⟩
def aqU(h:m.Ok)(w:m.lim<=m.nx)(t:J9 m r)(j:r.valid=true)(q:r.f.kind=3)(n g:Nat)(i:20001<=g):
   ∃m',l9 KW g (n+4) (.func 89) [.agg r.f.cells] m=some [⟨.str (C8 r),m'⟩]∧cE m m':=by
 let L:List Y9:=[j6 r.f.cells,.cells 1 4 (T.ofList [[iV r.f.room],[iV r.f.no],[iV r.f.known],[iV r.f.kind]])]
 have c:l9 KW g (n+3) (.func 164) [.str [102,97,99,116],.slice (m.nx+1) 0 4 4] (ext m L)=some [⟨.str (C9 K5 (G9 r)),ext m L⟩]:=
  gQ (xs:=G9 r) (gJ (xs:=G9 r) (by rw[r9 h];rfl) (by simp[L]) rfl) (by simp[G9]) (nK j) K5 (by simp[K5]) (n+1) g i
 have o:=tO (n+2) g (ext m L) (I7 h _) (by simp[L];omega);have d:∀(s k:OF) l e,s l e=.map (m.nx+2)->k l e=iV 3->nX jQ 1 (.agg [.nilFunc,.nilFunc]) false s k l e (ext m (L++[.map J8]))=some (.agg [.func (.func 269) [] [],.func (.func 270) [] []]):=by intro s k l e u v;rw[eT _ _ _ _ _ _ _ _ _ _ J8 u (by rw[r9 h];rfl),v];simp[J8,U8,Q6,T9];try rfl
 have E0:=o8 h (L++[.map J8]);obtain⟨x,p,E3⟩:=aiv (I7 h (L++[.map J8])) (by simp[L];omega) (t.ext E0) j q n g i;refine⟨x,?_,E0.trans E3⟩;have C:=jM j;have D:=kT j;have y:fZ (C9 K5 (G9 r)) [10]=some (.str (C9 K5 (G9 r)++[10])):=Z4 ZD;have z:fZ (C9 K5 (G9 r)++[10]) (U7 r)=some (.str (C9 K5 (G9 r)++[10]++U7 r)):=Z4 ZD;have A:fZ (C9 K5 (G9 r)++10::U7 r) [10]=some (.str (C8 r)):=by have:=Z4 (a:=C9 K5 (G9 r)++10::U7 r) (b:=[10]) ZD;rw[this];simp[C8]
 have B:=jy t;rw[en f89];simp only[L,agz,O9]at c o p d;rw[q]at c o p d;simp[f89,ay h w,Q8,aJ,aI,isVoid,G8,q,c,o,d,p,y,z,A,B]
def aiw(d:m.Ok)(g:m.lim<=m.nx)(i:J9 m r)(h:r.valid=true)(c:r.f.kind=4)(n a:Nat)(b:20001<=a):
   ∃m',l9 KW a (n+3) (.func 271) [.agg r.f.cells] m=some [⟨.str (U7 r),m'⟩]∧cE m m':=by
 have e:=gM h;rw[U7,aE (show¬ r.f.kind=1 by omega),aE (show¬ r.f.kind=2 by omega),aE (show¬ r.f.kind=3 by omega),cg c];exact⟨_,af8 d g (by simpa using e.k4 c) n a b,o8 d _⟩
def aqV(h:m.Ok)(w:m.lim<=m.nx)(t:J9 m r)(j:r.valid=true)(q:r.f.kind=4)(n g:Nat)(i:20001<=g):
   ∃m',l9 KW g (n+4) (.func 89) [.agg r.f.cells] m=some [⟨.str (C8 r),m'⟩]∧cE m m':=by
 let L:List Y9:=[j6 r.f.cells,.cells 1 4 (T.ofList [[iV r.f.room],[iV r.f.no],[iV r.f.known],[iV r.f.kind]])]
 have c:l9 KW g (n+3) (.func 164) [.str [102,97,99,116],.slice (m.nx+1) 0 4 4] (ext m L)=some [⟨.str (C9 K5 (G9 r)),ext m L⟩]:=
  gQ (xs:=G9 r) (gJ (xs:=G9 r) (by rw[r9 h];rfl) (by simp[L]) rfl) (by simp[G9]) (nK j) K5 (by simp[K5]) (n+1) g i
 have o:=tO (n+2) g (ext m L) (I7 h _) (by simp[L];omega);have d:∀(s k:OF) l e,s l e=.map (m.nx+2)->k l e=iV 4->nX jQ 1 (.agg [.nilFunc,.nilFunc]) false s k l e (ext m (L++[.map J8]))=some (.agg [.func (.func 271) [] [],.func (.func 272) [] []]):=by intro s k l e u v;rw[eT _ _ _ _ _ _ _ _ _ _ J8 u (by rw[r9 h];rfl),v];simp[J8,U8,Q6,T9];try rfl
 have E0:=o8 h (L++[.map J8]);obtain⟨x,p,E3⟩:=aiw (I7 h (L++[.map J8])) (by simp[L];omega) (t.ext E0) j q n g i;refine⟨x,?_,E0.trans E3⟩;have C:=jM j;have D:=kT j;have y:fZ (C9 K5 (G9 r)) [10]=some (.str (C9 K5 (G9 r)++[10])):=Z4 ZD;have z:fZ (C9 K5 (G9 r)++[10]) (U7 r)=some (.str (C9 K5 (G9 r)++[10]++U7 r)):=Z4 ZD;have A:fZ (C9 K5 (G9 r)++10::U7 r) [10]=some (.str (C8 r)):=by have:=Z4 (a:=C9 K5 (G9 r)++10::U7 r) (b:=[10]) ZD;rw[this];simp[C8]
 have B:=jy t;rw[en f89];simp only[L,agz,O9]at c o p d;rw[q]at c o p d;simp[f89,ay h w,Q8,aJ,aI,isVoid,G8,q,c,o,d,p,y,z,A,B]
def aix(h:m.Ok)(g:m.lim<=m.nx)(i:J9 m r)(d:r.valid=true)(c:r.f.kind=5)(n a:Nat)(b:20001<=a):
   ∃m',l9 KW a (n+3) (.func 273) [.agg r.f.cells] m=some [⟨.str (U7 r),m'⟩]∧cE m m':=by
 have e:=gM d;rw[U7,aE (show¬ r.f.kind=1 by omega),aE (show¬ r.f.kind=2 by omega),aE (show¬ r.f.kind=3 by omega),aE (show¬ r.f.kind=4 by omega),cg c];exact by obtain⟨j,k,l,_,_⟩:=e.k5 c;exact afb h g i (Ho d) (by simpa using j) k l n a b
def aqW(h:m.Ok)(w:m.lim<=m.nx)(t:J9 m r)(j:r.valid=true)(q:r.f.kind=5)(n g:Nat)(i:20001<=g):
   ∃m',l9 KW g (n+4) (.func 89) [.agg r.f.cells] m=some [⟨.str (C8 r),m'⟩]∧cE m m':=by
 let L:List Y9:=[j6 r.f.cells,.cells 1 4 (T.ofList [[iV r.f.room],[iV r.f.no],[iV r.f.known],[iV r.f.kind]])]
 have c:l9 KW g (n+3) (.func 164) [.str [102,97,99,116],.slice (m.nx+1) 0 4 4] (ext m L)=some [⟨.str (C9 K5 (G9 r)),ext m L⟩]:=
  gQ (xs:=G9 r) (gJ (xs:=G9 r) (by rw[r9 h];rfl) (by simp[L]) rfl) (by simp[G9]) (nK j) K5 (by simp[K5]) (n+1) g i
 have o:=tO (n+2) g (ext m L) (I7 h _) (by simp[L];omega);have d:∀(s k:OF) l e,s l e=.map (m.nx+2)->k l e=iV 5->nX jQ 1 (.agg [.nilFunc,.nilFunc]) false s k l e (ext m (L++[.map J8]))=some (.agg [.func (.func 273) [] [],.func (.func 274) [] []]):=by intro s k l e u v;rw[eT _ _ _ _ _ _ _ _ _ _ J8 u (by rw[r9 h];rfl),v];simp[J8,U8,Q6,T9];try rfl
 have E0:=o8 h (L++[.map J8]);obtain⟨x,p,E3⟩:=aix (I7 h (L++[.map J8])) (by simp[L];omega) (t.ext E0) j q n g i;refine⟨x,?_,E0.trans E3⟩;have C:=jM j;have D:=kT j;have y:fZ (C9 K5 (G9 r)) [10]=some (.str (C9 K5 (G9 r)++[10])):=Z4 ZD;have z:fZ (C9 K5 (G9 r)++[10]) (U7 r)=some (.str (C9 K5 (G9 r)++[10]++U7 r)):=Z4 ZD;have A:fZ (C9 K5 (G9 r)++10::U7 r) [10]=some (.str (C8 r)):=by have:=Z4 (a:=C9 K5 (G9 r)++10::U7 r) (b:=[10]) ZD;rw[this];simp[C8]
 have B:=jy t;rw[en f89];simp only[L,agz,O9]at c o p d;rw[q]at c o p d;simp[f89,ay h w,Q8,aJ,aI,isVoid,G8,q,c,o,d,p,y,z,A,B]
def aiy(d:m.Ok)(h:m.lim<=m.nx)(i:J9 m r)(e:r.valid=true)(c:r.f.kind=6)(n a:Nat)(b:20001<=a):
   ∃m',l9 KW a (n+3) (.func 276) [.agg r.f.cells] m=some [⟨.str (U7 r),m'⟩]∧cE m m':=by
 have g:=gM e;rw[U7,aE (show¬ r.f.kind=1 by omega),aE (show¬ r.f.kind=2 by omega),aE (show¬ r.f.kind=3 by omega),aE (show¬ r.f.kind=4 by omega),aE (show¬ r.f.kind=5 by omega),cg c];exact by obtain⟨j,k,_⟩:=g.k6 c;exact⟨_,afa d h i (Ho e) j k n a b,o8 d _⟩
def aqX(h:m.Ok)(w:m.lim<=m.nx)(t:J9 m r)(j:r.valid=true)(q:r.f.kind=6)(n g:Nat)(i:20001<=g):
   ∃m',l9 KW g (n+4) (.func 89) [.agg r.f.cells] m=some [⟨.str (C8 r),m'⟩]∧cE m m':=by
 let L:List Y9:=[j6 r.f.cells,.cells 1 4 (T.ofList [[iV r.f.room],[iV r.f.no],[iV r.f.known],[iV r.f.kind]])]
 have c:l9 KW g (n+3) (.func 164) [.str [102,97,99,116],.slice (m.nx+1) 0 4 4] (ext m L)=some [⟨.str (C9 K5 (G9 r)),ext m L⟩]:=
  gQ (xs:=G9 r) (gJ (xs:=G9 r) (by rw[r9 h];rfl) (by simp[L]) rfl) (by simp[G9]) (nK j) K5 (by simp[K5]) (n+1) g i
 have o:=tO (n+2) g (ext m L) (I7 h _) (by simp[L];omega);have d:∀(s k:OF) l e,s l e=.map (m.nx+2)->k l e=iV 6->nX jQ 1 (.agg [.nilFunc,.nilFunc]) false s k l e (ext m (L++[.map J8]))=some (.agg [.func (.func 276) [] [],.func (.func 277) [] []]):=by intro s k l e u v;rw[eT _ _ _ _ _ _ _ _ _ _ J8 u (by rw[r9 h];rfl),v];simp[J8,U8,Q6,T9];try rfl
 have E0:=o8 h (L++[.map J8]);obtain⟨x,p,E3⟩:=aiy (I7 h (L++[.map J8])) (by simp[L];omega) (t.ext E0) j q n g i;refine⟨x,?_,E0.trans E3⟩;have C:=jM j;have D:=kT j;have y:fZ (C9 K5 (G9 r)) [10]=some (.str (C9 K5 (G9 r)++[10])):=Z4 ZD;have z:fZ (C9 K5 (G9 r)++[10]) (U7 r)=some (.str (C9 K5 (G9 r)++[10]++U7 r)):=Z4 ZD;have A:fZ (C9 K5 (G9 r)++10::U7 r) [10]=some (.str (C8 r)):=by have:=Z4 (a:=C9 K5 (G9 r)++10::U7 r) (b:=[10]) ZD;rw[this];simp[C8]
 have B:=jy t;rw[en f89];simp only[L,agz,O9]at c o p d;rw[q]at c o p d;simp[f89,ay h w,Q8,aJ,aI,isVoid,G8,q,c,o,d,p,y,z,A,B]
def aiz(d:m.Ok)(g:m.lim<=m.nx)(i:J9 m r)(h:r.valid=true)(c:r.f.kind=7)(n a:Nat)(b:20001<=a):
   ∃m',l9 KW a (n+3) (.func 278) [.agg r.f.cells] m=some [⟨.str (U7 r),m'⟩]∧cE m m':=by
 have e:=gM h;rw[U7,aE (show¬ r.f.kind=1 by omega),aE (show¬ r.f.kind=2 by omega),aE (show¬ r.f.kind=3 by omega),aE (show¬ r.f.kind=4 by omega),aE (show¬ r.f.kind=5 by omega),aE (show¬ r.f.kind=6 by omega),cg c];exact⟨_,af9 d g (by simpa using e.k7 c) n a b,o8 d _⟩
def aqY(h:m.Ok)(w:m.lim<=m.nx)(t:J9 m r)(j:r.valid=true)(q:r.f.kind=7)(n g:Nat)(i:20001<=g):
   ∃m',l9 KW g (n+4) (.func 89) [.agg r.f.cells] m=some [⟨.str (C8 r),m'⟩]∧cE m m':=by
 let L:List Y9:=[j6 r.f.cells,.cells 1 4 (T.ofList [[iV r.f.room],[iV r.f.no],[iV r.f.known],[iV r.f.kind]])]
 have c:l9 KW g (n+3) (.func 164) [.str [102,97,99,116],.slice (m.nx+1) 0 4 4] (ext m L)=some [⟨.str (C9 K5 (G9 r)),ext m L⟩]:=
  gQ (xs:=G9 r) (gJ (xs:=G9 r) (by rw[r9 h];rfl) (by simp[L]) rfl) (by simp[G9]) (nK j) K5 (by simp[K5]) (n+1) g i
 have o:=tO (n+2) g (ext m L) (I7 h _) (by simp[L];omega);have d:∀(s k:OF) l e,s l e=.map (m.nx+2)->k l e=iV 7->nX jQ 1 (.agg [.nilFunc,.nilFunc]) false s k l e (ext m (L++[.map J8]))=some (.agg [.func (.func 278) [] [],.func (.func 279) [] []]):=by intro s k l e u v;rw[eT _ _ _ _ _ _ _ _ _ _ J8 u (by rw[r9 h];rfl),v];simp[J8,U8,Q6,T9];try rfl
 have E0:=o8 h (L++[.map J8]);obtain⟨x,p,E3⟩:=aiz (I7 h (L++[.map J8])) (by simp[L];omega) (t.ext E0) j q n g i;refine⟨x,?_,E0.trans E3⟩;have C:=jM j;have D:=kT j;have y:fZ (C9 K5 (G9 r)) [10]=some (.str (C9 K5 (G9 r)++[10])):=Z4 ZD;have z:fZ (C9 K5 (G9 r)++[10]) (U7 r)=some (.str (C9 K5 (G9 r)++[10]++U7 r)):=Z4 ZD;have A:fZ (C9 K5 (G9 r)++10::U7 r) [10]=some (.str (C8 r)):=by have:=Z4 (a:=C9 K5 (G9 r)++10::U7 r) (b:=[10]) ZD;rw[this];simp[C8]
 have B:=jy t;rw[en f89];simp only[L,agz,O9]at c o p d;rw[q]at c o p d;simp[f89,ay h w,Q8,aJ,aI,isVoid,G8,q,c,o,d,p,y,z,A,B]
def abR(e:m.Ok)(d:m.lim<=m.nx)(g:J9 m r)(c:r.valid=true)(n b:Nat)(a:20001<=b):
   ∃m',l9 KW b (n+4) (.func 89) [.agg r.f.cells] m=some [⟨.str (C8 r),m'⟩]∧cE m m':=by
 obtain⟨h,i⟩:=jw c;by_cases h1:r.f.kind=1;exact aqS e d g c h1 n b a;by_cases h2:r.f.kind=2;exact aqT e d g c h2 n b a;by_cases h3:r.f.kind=3;exact aqU e d g c h3 n b a;by_cases h4:r.f.kind=4;exact aqV e d g c h4 n b a;by_cases h5:r.f.kind=5;exact aqW e d g c h5 n b a;by_cases h6:r.f.kind=6;exact aqX e d g c h6 n b a;by_cases h7:r.f.kind=7;exact aqY e d g c h7 n b a;omega
def Tc{a b:Nat}(c:a<2147483647)(hb:b<256):kY (31*(a:Int))=31*(a:Int)∧kY (31*(a:Int)+(b:Int))=31*(a:Int)+(b:Int)∧kY (31*(a:Int)+(b:Int)+1)=31*(a:Int)+(b:Int)+1∧
   EO .i64 (31*(a:Int)+(b:Int)+1) 2147483647=some (iV (((31*a+b+1)%2147483647:Nat):Int)):=by
 refine⟨Z7 Zs Zs,Z7 Zs Zs,Z7 Zs Zs,?_⟩;have:=zB .i64 (31*a+b+1) 2147483647 ZS;rw[← this];congr 1
def abS(s:By)(hs:s.length<=100000)(n c:Nat):∀(j i:Nat),i+j=s.length->∀(a3 a5:j5) (N:Nat),j+1<=N->
   ∃a5',I9 (λenv m k=>FJ (l9 KW c n) c none env m k) N (Da (.str s) (iV (i:Int)) (iV (s.length:Int)) a3 (iV (mW (s.take i):Int)) a5 iZ) m []=some [⟨.exit 0,(Da (.str s) (iV (s.length:Int)) (iV (s.length:Int)) fV (iV (mW s:Int)) a5' iZ),m,[],none⟩]:=by
 intro j;induction j with
 |zero=>
  intro i t a3 a5 N r;obtain⟨N,rfl⟩:=sx N;obtain rfl:i=s.length:=Zs
  refine⟨a5,?_⟩;rw[o7,P9 (aA _)];simp[FJ]
 |succ j ih=>
  intro i t a3 a5 N r;obtain⟨N,rfl⟩:=sx N;have a:i<s.length:=Zs
  obtain⟨d,e,f,b⟩:=Tc (Es (s.take i)) (awI s[i]);rw[← NI a]at b;have p:=λx lo ls env v u=>zH (x:=x) (lo:=lo) (ls:=ls) (env:=env) (s:=s) (l:=i) v u a;have q:decide ((i:Int)<(s.length:Int))=true:=co Zs;have o:∀k:Int,0<=k->k<256->iB .i64 k=k:=λk w y=>Z7 Zs Zs;have h:=o ((s[i].toNat:Nat):Int) Zs (by have:=awI s[i];omega);obtain⟨a5',g⟩:=ih (i+1) Zs tV (iV (i:Int)) N Zs;refine⟨a5',?_⟩;rw[o7,← g];simp[FJ,q,a,p,d,e,f,b,h,I4 (i:=i) Zs]
def afj(s:By)(hs:s.length<=100000)(n a:Nat)(d:s.length+1<=a)(m:cD):l9 KW a (n+1) (.func 166) [.str s] m=some [⟨iV (mW s:Int),m⟩]:=by obtain⟨e,g⟩:=abS (m:=m) s hs n a s.length 0 Zs uV uV a Zs;have c:I9 (λb m k=>FJ (l9 KW a n) a none b m k) a (Da (.str s) iZ (iV (s.length:Int)) uV iZ uV iZ) m []=_:=g;rw[en f166];simp[f166,c]
variable {x:OF}
def Ir{y:OF}{ls:cM}{env:T j5}{a b:Nat}(c:x ls env=iV (a:Int))(d:y ls env=iV (b:Int)):pMm false x [y] ls env=some (iN (min a b)):=by show ob (mm2 false (x ls env) (y ls env)) some=_;rw[c,d];show some (j5.int .i64 (bi (mX (b:Int) (a:Int)) (b:Int) (a:Int)))=_;by_cases h:b<a;rw[show mX (b:Int) (a:Int)=true from by rw[iY];simp;omega,aC,axF Zs];rw[show mX (b:Int) (a:Int)=false from by rw[iY];simp;omega,bA,avy Zs]
def Td(s:By):s.take (min s.length 64)=s.take 64:=by by_cases h:s.length<=64;rw[avy h,P9 (aA _),P9 h];rw[axF Zs]
def abT(s:By):s.drop (min s.length 64)=s.drop 64:=by by_cases h:s.length<=64;rw[avy h,su (aA _),su h];rw[axF Zs]
def Aa(b:m.Ok)(v:j5):dV (m.new (j6 [v])) (.slice m.nx 0 1 1) [v]:=.inr ⟨m.nx,0,.inl ⟨1,rfl,aA _⟩,ZZ,.inr ⟨1,.nd .e [v] .e,by
 rw[cD.Q5 b,cg rfl];rfl,ZZ,λi a=>by
 obtain rfl:i=0:=by simp at a;omega
 rfl⟩⟩
variable {lo:Nat}
def Qe(c:m.Ok)(a:lo<=m.nx)(v:j5)(b:H8 [v]=true):aO lo (m.new (j6 [v])) (.slice m.nx 0 1 1) [v]:=by obtain⟨_,h⟩:=nH c a [v] b;rcases h with⟨h,_⟩|⟨id,q1,q2,q3,q4,q5⟩;cases h;rcases q5 with q5|q5;cases q5;cases q5;exact .inr ⟨m.nx,q1,q2,q3,q4,.inl rfl⟩
def afk(f p t no v:j5)(cf:G6)(K:Nat):∀(k:Nat) (s:By),s.length<=k->∀(l:cP) (m:cD) (out a4 a6:j5) (N:Nat),m.Ok->m.lim<=lo->lo<=m.nx->aO lo m out (strs l)->l.length+s.length<=50000->k+1<=N->
   ∃out' a6' m',I9 (λenv m k=>Nv cf K none env m k) N (Mc f p t (.str s) a4 out a6 no v) m []=some [⟨.exit 0,(Mc f p t (.str []) fV out' a6' no v),m',[],none⟩]∧Fr lo lo m m'∧aO lo m' out' (strs (l++chunks s)):=by
 intro k;induction k with
 |zero=>intro s O l m out a4 a6 N j H d n G M;obtain⟨N,rfl⟩:=sx N;obtain rfl:=U1.1 (show s.length=0 by omega);refine⟨out,a6,m,?_,Fr.refl j,by rw[dF,agA];exact n⟩;rw[o7];simp[Nv]
 |succ k ih=>
  intro s O l m out a4 a6 N j H d n G M;obtain⟨N,rfl⟩:=sx N;by_cases h0:s=[];subst h0;refine⟨out,a6,m,?_,Fr.refl j,by rw[dF,agA];exact n⟩;rw[o7];simp[Nv];have S:=P6.2 h0;have R:=λ{β:Type} (p:j5->β) q=>n.vs.aL p q;have Q:=λx y ls env u P=>Ir (x:=x) (y:=y) (ls:=ls) (env:=env) (a:=s.length) (b:=64) u P;have I:=λx hi ls env u B=>Sb (x:=x) (hi:=hi) (ls:=ls) (env:=env) (s:=s) (h:=min s.length 64) u B (axN _ _);have J:=λx lo ls env u B=>JZ (x:=x) (lo:=lo) (ls:=ls) (env:=env) (s:=s) (l:=min s.length 64) u B (axN _ _);rw[Td]at I;rw[abT]at J;have E2:=(cE.refl j).new (j6 [.str (s.take 64)]);have D:=n.ext E2;obtain⟨i,m3,L,o,F3⟩:=uH (bytes:=16) E2.ok (by show m.lim<=lo;omega) (dn d E2.nx) D (Aa j (.str (s.take 64))) rfl (by rw[G7];simp at G ⊢;omega) ⟨Zs,Zs⟩;have FF:Fr lo lo m m3:=(E2.fr d).trans F3;have r:aO lo m3 i (strs (l++[s.take 64])):=by rw[vM];exact o
  have E:=λ{β:Type} (p:j5->β) q=>o.vs.aL p q;have A:∀z w ls env e,List.length z=1->J2 1 1 z w ls env e=ob (lay w ls env z) λc=>if c.length=1 then some (.slice e 0 1 1,some (j6 c))else none:=λz w ls env e h=>I5 1 z w ls env e h
  obtain⟨out',a6',m',g,F,C⟩:=ih (s.drop 64) ZD (l++[s.take 64]) m3 i tV (iN (min s.length 64)) N FF.ok (by rw[FF.lim];exact H) (dn d FF.nx) r ZD Zs;refine⟨out',a6',m',?_,FF.trans F,by rw[ji h0];simpa using C⟩;rw[o7,← g];simp[Nv,h0,Q,I,J,R,E,A,L]
def abU(l:m.Ok)(M:m.lim<=m.nx)(N:J9 m r)(F:r.valid=true)(no:Int)(y:Sm no)(n b:Nat)(g:20001<=b):
   ∃v m',l9 KW b (n+5) (.func 90) [iV no,.agg r.f.cells] m=some [⟨v,m'⟩]∧cE m m'∧dV m' v (strs (iQ no (C8 r))):=by
 have E0:=o8 l [j6 r.f.cells];obtain⟨e,H,E1⟩:=abR (I7 l [j6 r.f.cells]) ZD (N.ext E0) F n b g;have E01:=E0.trans E1;have V:=eF F;have O:e.lim<=e.nx:=by rw[E01.lim];have:=E01.nx;omega
 obtain⟨P,Q,m2,I,F2,o⟩:=afk (lo:=e.nx) (.agg r.f.cells) (.ptr m.nx 0) (.str (C8 r)) (iV no) nS (l9 KW b (n+4)) b (C8 r).length (C8 r) (aA _) [] e nS uV uV b E1.ok O (aA _) (aO.nil _ _) ZD Zs;have E2:cE e m2:=F2.ext (aA _) (aA _);rw[O9]at o;have w:=gI _ _ (aA (C8 r).length);have J:=afj (C8 r) Zs (n+3) b Zs m2;let b4:Y9:=.cells 1 4 (T.ofList [[iV no],[iV ((chunks (C8 r)).length:Int)],[iV ((C8 r).length:Int)],[iV (mW (C8 r):Int)]])
 have E3:=o8 E2.ok [b4];have R:=Es (C8 r);have B:∀x∈[no,((chunks (C8 r)).length:Int),((C8 r).length:Int),(mW (C8 r):Int)],Sm x:=by intro x G;simp only[O4,arj,or_false]at G;rcases G with rfl|rfl|rfl|rfl;exact y;all_goals unfold Sm;omega
 have D:l9 KW b (n+4) (.func 164) [.str [114,101,99,111,114,100],.slice m2.nx 0 4 4] (ext m2 [b4])=some [⟨.str (C9 bZ [no,((chunks (C8 r)).length:Int),((C8 r).length:Int),(mW (C8 r):Int)]),ext m2 [b4]⟩]:=
  gQ (xs:=[no,((chunks (C8 r)).length:Int),((C8 r).length:Int),(mW (C8 r):Int)]) (gJ (by rw[l8 E2.ok];rfl) ZZ rfl) ZZ B bZ (by simp[bZ]) (n+2) b g
 let L:=C9 bZ [no,((chunks (C8 r)).length:Int),((C8 r).length:Int),(mW (C8 r):Int)]
 have E4:=o8 E2.ok [b4,j6 [.str L]];have j:(ext m2 [b4,j6 [.str L]]).lim<=m2.nx+1:=by rw[E4.lim,E2.lim];have:=E2.nx;omega
 have A:aO (m2.nx+1) (ext m2 [b4,j6 [.str L]]) (.slice (m2.nx+1) 0 1 1) [.str L]:=by have:=Qe (lo:=m2.nx+1) (m:=ext m2 [b4]) (I7 E2.ok _) ZZ (.str L) rfl;rw[o9]at this;simpa[A8]using this
 obtain⟨v,m5,E,k,F5⟩:=uH (bytes:=16) (lo:=m2.nx+1) E4.ok j ZZ A (o.ext E4).vs (rX _) (by rw[G7];simp;omega) ⟨Zs,Zs⟩;have E5:cE m2 m5:=⟨F5.ok,dn E4.nx F5.nx,by rw[F5.lim];exact E4.lim,λi K=>by rw[F5.old i Zs Zs];exact E4.old i K⟩;have S:=λ{β:Type} (p:j5->β) q=>o.vs.aL p q;have C:=λ{β:Type} (p:j5->β) q=>k.vs.aL p q;have d:=o.vs.len;rw[G7]at d;have u:∀z t s a c,List.length z=1->J2 1 1 z t s a c=ob (lay t s a z) λcells=>if cells.length=1 then some (.slice c 0 1 1,some (j6 cells))else none:=λz t s a c h=>I5 1 z t s a c h
 have U:e.get m.nx=some (j6 r.f.cells):=by rw[E1.old _ ZZ,l8 l];rfl
 refine⟨v,m5,?_,(E01.trans E2).trans E5,k.vs⟩;simp only[b4,L]at D E;rw[en f90];simp[f90,ay l M,H,I,J,D,E,C,d,u,Q8,aJ,aI]
variable {a:cD}{ws:cP}{p:Nat}
def RS.ext{q:Nat}{h:D6}(s:RS lo m p q ws h)(E:cE m a):RS lo a p q ws h:=
 ⟨E.ok,by rw[E.lim];exact s.lp,by rw[E.lim];exact s.lq,s.pq,s.qlo,dn s.nx E.nx,s.wk.ext s.nx E,by rw[E.old q (aP s.qlo s.nx)];exact s.cell,s.sh,s.few⟩
def Zf{h:D6}(t:1<=h.kind∧h.kind<=7):∃w rd,(∀(mp k:OF) ls env (m:cD) (id:Nat),mp ls env=.map id->k ls env=iV h.kind->m.get id=some (.map J8)->
   nX jQ 1 (.agg [.nilFunc,.nilFunc]) true mp k ls env m=some (.tuple [.agg [.func (.func w) [] [],.func (.func rd) [] []],tV]))∧
   (∀(n fu:Nat) (m:cD) (p q lo0 lo:Nat) (ws:cP),RS lo m p q ws h->lo0<=p->lo0<=q->h.A=nS->h.B=nS->h.L=nS->h.cid=0->ah h.gn->ah h.gd->ah h.no->20001<=fu->Reads rd (n+4) fu m p q lo0 lo ws h):=by
 obtain⟨u,v⟩:=t;by_cases h1:h.kind=1;refine⟨262,263,λmp k ls env m id d e j=>?_,λn fu m p q lo0 lo ws s l o f g i b r id a c=>?_⟩;rw[eT _ _ _ _ _ _ _ _ _ _ J8 d j,e];simp[J8,U8,Q6,T9,h1];try rfl
 exact afc s h1 l o f g i r id a n fu;by_cases h2:h.kind=2;refine⟨266,267,λmp k ls env m id d e j=>?_,λn fu m p q lo0 lo ws s l o f g i b r id a c=>?_⟩;rw[eT _ _ _ _ _ _ _ _ _ _ J8 d j,e];simp[J8,U8,Q6,T9,h2];try rfl
 exact afh s h2 l o f g i r id a n fu c;by_cases h3:h.kind=3;refine⟨269,270,λmp k ls env m id d e j=>?_,λn fu m p q lo0 lo ws s l o f g i b r id a c=>?_⟩;rw[eT _ _ _ _ _ _ _ _ _ _ J8 d j,e];simp[J8,U8,Q6,T9,h3];try rfl
 exact afd s h3 l o f g i r id a n fu;by_cases h4:h.kind=4;refine⟨271,272,λmp k ls env m id d e j=>?_,λn fu m p q lo0 lo ws s l o f g i b r id a c=>?_⟩;rw[eT _ _ _ _ _ _ _ _ _ _ J8 d j,e];simp[J8,U8,Q6,T9,h4];try rfl
 exact afe s h4 l o f g i r id a n fu;by_cases h5:h.kind=5;refine⟨273,274,λmp k ls env m id d e j=>?_,λn fu m p q lo0 lo ws s l o f g i b r id a c=>?_⟩;rw[eT _ _ _ _ _ _ _ _ _ _ J8 d j,e];simp[J8,U8,Q6,T9,h5];try rfl
 exact afi s h5 b l o f g i r id a n fu c;by_cases h6:h.kind=6;refine⟨276,277,λmp k ls env m id d e j=>?_,λn fu m p q lo0 lo ws s l o f g i b r id a c=>?_⟩;rw[eT _ _ _ _ _ _ _ _ _ _ J8 d j,e];simp[J8,U8,Q6,T9,h6];try rfl
 exact afg s h6 l o f g i r id a n fu c;by_cases h7:h.kind=7;refine⟨278,279,λmp k ls env m id d e j=>?_,λn fu m p q lo0 lo ws s l o f g i b r id a c=>?_⟩;rw[eT _ _ _ _ _ _ _ _ _ _ J8 d j,e];simp[J8,U8,Q6,T9,h7];try rfl
 exact aff s h7 l o f g i r id a n fu;omega
def Zg{a:Int}(n:¬ (1<=a∧a<=7))(mp k:OF)(ls:cM)(env:T j5)(m:cD)(id:Nat)(b:mp ls env=.map id)(c:k ls env=iV a)(l:m.get id=some (.map J8)):
   nX jQ 1 (.agg [.nilFunc,.nilFunc]) true mp k ls env m=some (.tuple [.agg [.nilFunc,.nilFunc],fV]):=by
 have d:¬ a=1:=Zs
 have e:¬ a=2:=Zs
 have f:¬ a=3:=Zs
 have g:¬ a=4:=Zs
 have h:¬ a=5:=Zs
 have i:¬ a=6:=Zs
 have j:¬ a=7:=Zs
 rw[eT _ _ _ _ _ _ _ _ _ _ J8 b l,c];simp[J8,U8,Q6,T9,d,e,f,g,h,i,j];try rfl
def Qg(c:J9 m r):H8 r.f.cells=true:=by have d:=c.a.D8;have e:=c.b.D8;have g:=c.l.D8;have h:∀k x,D8 (.int k x)=true:=λ_ _=>rfl;simp[D6.cells,d,e,g,h,-D6.bD]
variable {v:j5}
def U5.tQ{xs:cQ}(h:U5 m v xs)(X:bC p m a)(hp:∀n cF,m.get p≠some (.cells 1 n cF)):U5 a v xs:=by rcases h with h|⟨id,h1,h2,h3⟩;exact .inl h;refine .inr ⟨id,h1,aP h2 X.nx,?_⟩;rcases h3 with h3|⟨c,cF,h4,h5⟩;exact .inl h3;refine .inr ⟨c,cF,?_,h5⟩;rw[X.old id.1 h2 (by rintro rfl;exact hp _ _ h4)];exact h4
def Te(c no a b:Int):(zF c no a b).cells=(zK c no a b):=rfl
set_option maxHeartbeats 40000000
def jA{b c:cD}(E:cE a b)(X:bC p b c)(hp:a.nx<=p):cE a c:=⟨X.ok,dn E.nx X.nx,by rw[X.lim];exact E.lim,λi d=>by rw[X.old i (aP d E.nx) Zs];exact E.old i d⟩
def AJ{b c:cD}(E:cE a b)(F:Fr lo lo b c)(hp:a.nx<=lo):cE a c:=⟨F.ok,dn E.nx F.nx,by rw[F.lim];exact E.lim,λi d=>by rw[F.old i Zs Zs];exact E.old i d⟩
def afl(G:m.Ok)(I:m.lim<=m.nx)(s:By)(hs:s.length<=16000)(n D:Nat)(a8:20001<=D):
   (∃m',l9 KW D (n+12) (.func 201) [.str s] m=some [⟨.aL UN,m'⟩]∧cE m m'∧∀r,¬ kX s r)∨
   (∃r m',l9 KW D (n+12) (.func 201) [.str s] m=some [⟨.agg r.f.cells,m'⟩]∧cE m m'∧J9 m' r∧r.a.length<20000∧r.b.length<20000∧r.l.length<20000∧kX s r):=by
 have E0:=o8 G [j6 zr];obtain⟨v,m1,O,E1,P⟩:=Zb s Zs (n+10) D E0.ok;have E01:=E0.trans E1;have n1:m.nx+1<=m1.nx:=by have:=E1.nx;simpa using this
 obtain⟨ar,aj⟩:=SX s;have j:=λ{β:Type} (p:j5->β) q=>P.vs.aL p q;have d:=P.vs.cells;have ap:∀i o l c,v=.slice i o l c->i<m1.nx:=by obtain⟨id,off,c,h1,_,h3,_⟩:=P;rintro i o l c' rfl;cases h1;exact h3
 have E2:=o8 E1.ok [j6 [v]];have E02:=E01.trans E2;have w2:WS (m1.nx+1) (ext m1 [j6 [v]]) m1.nx (Lib.fieldsD s):=⟨Zs,v,by rw[l8 E1.ok];rfl,P.ext E2,λi o l c h=>by have:=ap i o l c h;omega⟩;have aa:(ext m1 [j6 [v]]).lim<=m1.nx:=by rw[E02.lim];omega
 have u:∀k:Option FR,parse (Lib.fieldsD s)=k->k=none->∀r,¬ kX s r:=λk h1 h2 r hr=>by rw[tN hr]at h1;rw[h2]at h1;cases h1
 have q0:∀i,i<m.nx+1->∀M,cE (ext m [j6 zr]) M->M.get i=(ext m [j6 zr]).get i:=λi hi M E=>E.old i (by simpa using hi);rcases pI E2.ok aa w2 [102,97,99,116] (n+9) D with⟨m3,g3,X3,r3⟩|⟨t3,m3,g3,X3,w3,e3,r3⟩;refine .inl ⟨m3,?_,?_,u _ rfl (r3 _ _)⟩;rw[en f201];simp[f201,ay G I,j,d,O,g3];exact E01.trans ⟨X3.ok,dn E2.nx X3.nx,by rw[X3.lim];exact E2.lim,λi hi=>by rw[X3.old i (aP hi E2.nx) Zs];exact E2.old i hi⟩;have E03:cE m m3:=E01.trans ⟨X3.ok,dn E2.nx X3.nx,by rw[X3.lim];exact E2.lim,λi hi=>by rw[X3.old i (aP hi E2.nx) Zs];exact E2.old i hi⟩;have n3:m1.nx+1<=m3.nx:=by have:=X3.nx;simpa using this
 have ab:m3.lim<=m1.nx:=by rw[E03.lim];omega
 have aq:∀w∈Lib.fieldsD s,w.length<1000000:=λw J=>by have:=aj w J;omega
 have ag:∀w∈t3,w.length<1000000:=λw J=>aq w (by rw[e3];simp[J]);have U:t3.length<20000:=by
  have:(Lib.fieldsD s).length=t3.length+1:=by rw[e3];rfl
  omega
 rcases dQ X3.ok ab n3 w3 ag (n+9) D with⟨m4,g4,X4,r4⟩|⟨room,x4,t4,m4,g4,X4,w4,e4,_,i4,r4⟩;refine .inl ⟨m4,?_,jA E03 X4 Zs,u _ rfl ((r3 _ _).trans (r4 _ _))⟩;rw[en f201];simp[f201,ay G I,j,d,O,g3,g4];have E04:cE m m4:=jA E03 X4 Zs;have n4:m1.nx+1<=m4.nx:=dn n3 X4.nx;have t:m4.lim<=m4.nx:=by rw[E04.lim];omega
 have A:=X4.ok;have E5:=o8 X4.ok [j6 (zK room 0 0 0)];have E05:=E04.trans E5;have W:RS (m4.nx+1) (ext m4 [j6 (zK room 0 0 0)]) m1.nx m4.nx t4 (zF room 0 0 0):=
  ⟨E5.ok,by rw[E05.lim];omega,by rw[E05.lim];omega,Zs,Zs,ZZ,(w4.ext n4 E5).mono Zs,by rw[l8 X4.ok];rfl,λw J=>ag w (by rw[e4];simp[J]),by rw[e4]at U;simp at U;omega⟩
 have F5:Fr (m.nx+1) (m.nx+1) (ext m [j6 zr]) (ext m4 [j6 (zK room 0 0 0)]):=by have a1:Fr (m.nx+1) (m.nx+1) (ext m [j6 zr]) m1:=E1.fr ZZ;have a2:Fr (m.nx+1) (m.nx+1) m1 (ext m1 [j6 [v]]):=E2.fr Zs;have a3:Fr (m.nx+1) (m.nx+1) (ext m1 [j6 [v]]) m3:=(X3.fr (lo:=m.nx+1) ZD).mono Zs;have a4:Fr (m.nx+1) (m.nx+1) m3 m4:=(X4.fr (lo:=m.nx+1) Zs).mono Zs;exact(((a1.trans a2).trans a3).trans a4).trans (E5.fr Zs)
 rcases dQ W.ok W.lp W.nx W.wk W.sh (n+9) D with⟨m6,g6,X6,r6⟩|⟨no,x6,t6,m6,g6,X6,w6,e6,_,i6,r6⟩;refine .inl ⟨m6,?_,AJ E0 (F5.trans (W.kF (lo0:=m.nx+1) X6 Zs)) Zs,u _ rfl ((r3 _ _).trans ((r4 _ _).trans (r6 _ _)))⟩;rw[en f201];simp[f201,ay G I,D8,j,d,O,ay A t,g3,g4,g6];have ad:=W.call X6 w6 (λw J=>by rw[e6];simp[J]) (by rw[e6];simp<;>omega)
 obtain⟨N6,C,X,Y6⟩:=ad.store (off:=1) (vs:=[iV no]) (h':=zF room no 0 0) ZZ ZZ rfl rfl;have F6:=(F5.trans (W.kF (lo0:=m.nx+1) X6 Zs)).trans (ad.VI (lo0:=m.nx+1) Y6 Zs);rcases dQ X.ok X.lp X.nx X.wk X.sh (n+9) D with⟨m7,g7,X7,r7⟩|⟨known,x7,t7,m7,g7,X7,w7,e7,_,i7,r7⟩;refine .inl ⟨m7,?_,AJ E0 (F6.trans (X.kF (lo0:=m.nx+1) X7 Zs)) Zs,u _ rfl ((r3 _ _).trans ((r4 _ _).trans ((r6 _ _).trans (r7 _ _))))⟩;rw[en f201];simp[f201,ay G I,D8,j,d,O,ay A t,g3,g4,g6,g7,C];have ae:=X.call X7 w7 (λw J=>by rw[e7];simp[J]) (by rw[e7];simp<;>omega)
 obtain⟨N7,F,Y,Y7⟩:=ae.store (off:=2) (vs:=[iV known]) (h':=zF room no known 0) ZZ ZZ rfl rfl;have F7:=(F6.trans (X.kF (lo0:=m.nx+1) X7 Zs)).trans (ae.VI (lo0:=m.nx+1) Y7 Zs);rcases dQ Y.ok Y.lp Y.nx Y.wk Y.sh (n+9) D with⟨m8,g8,X8,r8⟩|⟨kind,x8,t8,m8,g8,X8,w8,e8,_,i8,r8⟩;refine .inl ⟨m8,?_,AJ E0 (F7.trans (Y.kF (lo0:=m.nx+1) X8 Zs)) Zs,u _ rfl ((r3 _ _).trans ((r4 _ _).trans ((r6 _ _).trans ((r7 _ _).trans (r8 _ _)))))⟩;rw[en f201];simp[f201,ay G I,D8,j,d,O,ay A t,g3,g4,g6,g7,g8,C,F];have af:=Y.call X8 w8 (λw J=>by rw[e8];simp[J]) (by rw[e8];simp<;>omega)
 obtain⟨N8,K,x,Y8⟩:=af.store (off:=3) (vs:=[iV kind]) (h':=zF room no known kind) ZZ ZZ rfl rfl;have F8:=(F7.trans (Y.kF (lo0:=m.nx+1) X8 Zs)).trans (af.VI (lo0:=m.nx+1) Y8 Zs);have B:N8.lim<=N8.nx:=by have:=x.lp;have:=x.plo;have:=x.nx;omega
 have ao:m4.nx<N8.nx:=aP x.qlo x.nx;have a9:∀M:cD,M.get m4.nx=some (j6 (zF room no known kind).cells)->ld1 (M.get m4.nx) 3=some (iV kind):=λM h=>by rw[h,Te];simp[ku]
 have au:∀b,(N8.new b).get m4.nx=some (j6 (zF room no known kind).cells):=λb=>by rw[cD.Q5 x.ok,aE Zs];exact x.cell
 have al:∀bs,(ext N8 bs).get m4.nx=some (j6 (zF room no known kind).cells):=λbs=>by rw[H6 x.ok _ ao];exact x.cell
 have av:=a9 _ x.cell;have z:=λbs=>a9 _ (al bs);have H:=tO (n+10) D (ext N8 [.void]) (I7 x.ok _) ZD;have hP:parse (Lib.fieldsD s)=parseBody (zF room no known kind) t8:=(r3 _ _).trans ((r4 _ _).trans ((r6 _ _).trans ((r7 _ _).trans (r8 _ _))));by_cases hk:1<=kind∧kind<=7;obtain⟨w,rd,a0,a5⟩:=Zf (h:=zF room no known kind) hk;let L:List Y9:=[j6 [.func (.func w) [] [],.func (.func rd) [] []],.map J8]
 have g:=λ(mp k:OF) ls env (e1:mp ls env=.map (N8.nx+1)) (e2:k ls env=iV kind)=>a0 mp k ls env (ext N8 [.void,.map J8]) (N8.nx+1) e1 e2 (by rw[r9 x.ok];rfl);have E9:=o8 x.ok L;have s9:=x.ext E9;have F9:=F8.trans (E9.fr (lo:=m.nx+1) Zs);rcases a5 (n+7) D (ext N8 L) m1.nx m4.nx (m.nx+1) (m4.nx+1) t8 s9 Zs Zs rfl rfl rfl rfl (by unfold ah;simp[zF,aG]) (by unfold ah;simp[zF,aG]) i6 a8 with⟨m10,g10,F10,r10⟩|⟨m10,r,t10,g10,F10,s10,hr10,la,lb,lc,r10⟩;refine .inl ⟨m10,?_,AJ E0 (F9.trans F10) Zs,u _ rfl (hP.trans r10)⟩;simp only[L]at g10;rw[en f201];simp[f201,ay G I,D8,j,d,O,ay A t,g3,g4,g6,g7,g8,C,F,K,H,z,g,g10,ay x.ok B,isVoid,G8];have hR:parse (Lib.fieldsD s)=some r.cn:=hP.trans r10;have hU:∀T,kX s T->T.cn=r.cn:=λT h'=>rW ((tN h').symm.trans hR);have F11a:=F9.trans F10;have E10:=AJ E0 F11a Zs;have am:=hr10.at' la lb lc;obtain⟨ac,Z,E11⟩:=Vy s10.ok (by rw[E10.lim];have:=E10.nx;omega) am n D Zs hr10.ga hr10.gb;have E11m:=E10.trans E11;have Q:=s10.cell;have V:m4.nx<m10.nx:=aP s10.qlo s10.nx;have R:ac.get m4.nx=some (j6 r.f.cells):=by rw[E11.old _ V];exact Q
 by_cases P:r.valid=true;have S:fq r.f r.a r.b r.l=true:=P;obtain⟨m12,a7,E12⟩:=abR E11.ok (by rw[E11m.lim];have:=E11m.nx;omega) (hr10.ext E11) P (n+7) D a8;have E12m:=E11m.trans E12;have ai:m12.get m4.nx=some (j6 r.f.cells):=by rw[E12.old _ (aP V E11.nx)];exact R
 have F12:Fr (m.nx+1) (m.nx+1) (ext m [j6 zr]) m12:=(F11a.trans (E11.fr Zs)).trans (E12.fr (by have:=E11.nx;omega));have c0:m12.get m.nx=some (j6 zr):=by rw[F12.old _ Zs Zs,l8 G];rfl
 have hx:m.nx<m12.nx:=by have:=F12.nx;simp at this;omega
 obtain⟨N,st,gN,XN⟩:=aM (off:=0) (vs:=r.f.cells) F12.ok hx (by rw[E12m.lim];exact I) c0 (by rw[D6.len];simp) (by rw[D6.len];omega) (Qg hr10);have ak:N.get m.nx=some (j6 r.f.cells):=by rw[gN,D6.len];simp
 by_cases ht:C8 r=s;have a6:∀n cF,m12.get m.nx≠some (.cells 1 n cF):=λn cF e=>by rw[c0]at e;have e:Y9.cells 32 1 _=.cells 1 n cF:=rW e;injection e with e1;cases e1
 have y:=(hr10.ext E11).ext E12;refine .inr ⟨r,N,?_,jA E12m XN (aA _),⟨U5.tQ y.a XN a6,U5.tQ y.b XN a6,U5.tQ y.l XN a6,y.ga,y.gb,y.nb⟩,la,lb,lc,P,ht⟩;simp only[L]at g10;rw[en f201];simp[f201,ay G I,D8,j,d,O,ay A t,g3,g4,g6,g7,g8,C,F,K,H,z,g,g10,Z,a7,S,Q,R,ai,ht,st,ak,ay x.ok B,isVoid,G8];refine .inl ⟨m12,?_,E12m,λT h'=>ht ?_⟩;simp only[L]at g10;rw[en f201];simp[f201,ay G I,D8,j,d,O,ay A t,g3,g4,g6,g7,g8,C,F,K,H,z,g,g10,Z,a7,S,Q,R,ht,ay x.ok B,isVoid,G8];rw[← wY r,← hU T h',wY T];exact h'.2;have S:fq r.f r.a r.b r.l=false:=aa0.2 P;refine .inl ⟨ac,?_,E11m,λT h'=>P ?_⟩;simp only[L]at g10;rw[en f201];simp[f201,ay G I,D8,j,d,O,ay A t,g3,g4,g6,g7,g8,C,F,K,H,z,g,g10,Z,S,Q,R,ay x.ok B,isVoid,G8];rw[← iI r,← hU T h',iI T];exact h'.1;have g:=λ(mp k:OF) ls env (e1:mp ls env=.map (N8.nx+1)) (e2:k ls env=iV kind)=>Zg hk mp k ls env (ext N8 [.void,.map J8]) (N8.nx+1) e1 e2 (by rw[r9 x.ok];rfl);have an:parseBody (zF room no known kind) t8=none:=by have ek:(zF room no known kind).kind=kind:=rfl;unfold parseBody;rw[ek,aE Zs,aE Zs,aE Zs,aE Zs,aE Zs,aE Zs,aE Zs]
 have E9:=o8 x.ok [j6 [.nilFunc,.nilFunc],.map J8];refine .inl ⟨ext N8 [j6 [.nilFunc,.nilFunc],.map J8],?_,AJ E0 (F8.trans (E9.fr (lo:=m.nx+1) Zs)) Zs,u _ rfl (hP.trans an)⟩;rw[en f201];simp[f201,ay G I,D8,j,d,O,ay A t,g3,g4,g6,g7,g8,C,F,K,H,z,g,ay x.ok B,isVoid,G8]
def aqZ(cf:G6)(a:Nat)(env:T j5)(m:cD):Bj (.reg [⟨.e .recover,none,none⟩,⟨.p (.mov (.loc 0)),some 0,none⟩]) cf a env m none=some [⟨⟨.normal,fA (some 0) .nilIface env,m,[],none⟩,none⟩]:=by rw[Sj (h:=rfl)];rfl
def ar0(cf:G6)(a:Nat)(env:T j5)(m:cD)(x:j5):Bj (.reg [⟨.e .recover,none,none⟩,⟨.p (.mov (.loc 0)),some 0,none⟩]) cf a env m (some x)=some [⟨⟨.normal,fA (some 0) x env,m,[],none⟩,none⟩]:=by rw[Sj (h:=rfl)];rfl
def ar1:yJ (.reg [⟨.p (.mov (.slot 0)),none,none⟩,⟨.p (.eq true .iface (.loc 0) (.con j5.nilIface)),some 1,none⟩])=dB (xV (pNe kI (G5 gH) (bO j5.nilIface)) (sL sH) dz):=rfl
def ah0(cf:G6)(a:Nat)(env:T j5)(m:cD)(b:Option j5):Bj (.reg [⟨.p (.mov (.slot 0)),none,none⟩,⟨.p (.eq true .iface (.loc 0) (.con j5.nilIface)),some 1,none⟩]) cf a env m b=bnd (dB (xV (pNe kI (G5 gH) (bO j5.nilIface)) (sL sH) dz) cf a none env m []) (Pm b):=by rw[zL (h:=rfl),ar1]
def ar2:yJ (.reg [⟨.p (.mov (.slot 0)),none,none⟩,⟨.p (.assert 288 (A []) true (.loc 0)),none,none⟩,⟨.p (.mov (.loc 0)),none,none⟩,⟨.p (.ext (.loc 0) 0),none,none⟩,⟨.p (.ext (.loc 1) 1),none,none⟩,⟨.a (.alloc []),none,none⟩,⟨.e (.store 0 (.loc 0) (.loc 2)),none,none⟩,⟨.p (.mov (.loc 2)),some 2,none⟩])=dB (K8 (oQ 288 (A []) true (G5 gH)) (K8 (pExt N9 0) (K8 (pExt uQ 1) (QF (xY []) (qE (kZ 0 N9 jJ) (xV (fI jJ) (sR sH) dz)))))):=rfl
def ah1(cf:G6)(b:Nat)(env:T j5)(m:cD)(c:Option j5):Bj (.reg [⟨.p (.mov (.slot 0)),none,none⟩,⟨.p (.assert 288 (A []) true (.loc 0)),none,none⟩,⟨.p (.mov (.loc 0)),none,none⟩,⟨.p (.ext (.loc 0) 0),none,none⟩,⟨.p (.ext (.loc 1) 1),none,none⟩,⟨.a (.alloc []),none,none⟩,⟨.e (.store 0 (.loc 0) (.loc 2)),none,none⟩,⟨.p (.mov (.loc 2)),some 2,none⟩]) cf b env m c=bnd (dB (K8 (oQ 288 (A []) true (G5 gH)) (K8 (pExt N9 0) (K8 (pExt uQ 1) (QF (xY []) (qE (kZ 0 N9 jJ) (xV (fI jJ) (sR sH) dz)))))) cf b none env m []) (Pm c):=by rw[zL (h:=rfl),ar2]
def ar3:yJ (.reg [⟨.p (.mov (.slot 2)),none,none⟩,⟨.p (.not (.loc 0)),some 3,none⟩])=dB (xV (Oi (G5 (gR gH))) (sL (sL sH)) dz):=rfl
def ar4(cf:G6)(a:Nat)(env:T j5)(m:cD)(b:Option j5):Bj (.reg [⟨.p (.mov (.slot 2)),none,none⟩,⟨.p (.not (.loc 0)),some 3,none⟩]) cf a env m b=bnd (dB (xV (Oi (G5 (gR gH))) (sL (sL sH)) dz) cf a none env m []) (Pm b):=by rw[zL (h:=rfl),ar3]
def ar5:yJ (.reg [⟨.p (.mov (.slot 0)),none,none⟩,⟨.e (.panic (.loc 0)),none,none⟩])=dB (qE (vZ (G5 gH)) dz):=rfl
def ar6(cf:G6)(a:Nat)(env:T j5)(m:cD)(b:Option j5):Bj (.reg [⟨.p (.mov (.slot 0)),none,none⟩,⟨.e (.panic (.loc 0)),none,none⟩]) cf a env m b=bnd (dB (qE (vZ (G5 gH)) dz) cf a none env m []) (Pm b):=by rw[zL (h:=rfl),ar5]
abbrev zO:cM:=[(j5.int .i64 (Int.ofNat 0)),(j5.int .i64 (Int.ofNat 0)),(j5.int .i64 (Int.ofNat 0)),(j5.int .i64 (Int.ofNat 0)),(j5.int .i64 (Int.ofNat 0)),(j5.int .i64 (Int.ofNat 0)),(j5.int .i64 (Int.ofNat 0)),(j5.int .i64 (Int.ofNat 0)),(j5.int .i64 (Int.ofNat 0)),(j5.int .i64 (Int.ofNat 0)),(j5.int .i64 (Int.ofNat 0)),(j5.int .i64 (Int.ofNat 0)),(j5.int .i64 (Int.ofNat 0)),(j5.int .i64 (Int.ofNat 0)),(j5.int .i64 (Int.ofNat 0)),(j5.int .i64 (Int.ofNat 0)),(j5.int .i64 (Int.ofNat 0)),(j5.int .i64 (Int.ofNat 0)),(j5.int .i64 (Int.ofNat 0)),(j5.int .i64 (Int.ofNat 0)),(j5.int .i64 (Int.ofNat 0)),(j5.int .i64 (Int.ofNat 0)),Z,Z,(j5.int .i64 (Int.ofNat 0)),(j5.int .i64 (Int.ofNat 0)),(j5.int .i64 (Int.ofNat 0)),(j5.int .i64 (Int.ofNat 0)),(j5.int .i64 (Int.ofNat 0)),Z,(j5.int .i64 (Int.ofNat 0)),(j5.int .i64 (Int.ofNat 0))]
attribute [simp] zO
def ar7:yJ (.reg [⟨.p (.build zO []),none,none⟩,⟨.e (.store 32 (.slot 4) (.loc 0)),none,none⟩,⟨.e (.store 1 (.slot 5) (.con (j5.int .i64 (Int.ofNat 7)))),none,none⟩])=dB (K8 (vW zO []) (qE (kZ 32 (G5 (gR (gL gH))) N9) (qE (kZ 1 (G5 (gL (gR gH))) (bO (j5.int .i64 (Int.ofNat 7)))) dz))):=rfl
def ar8(cf:G6)(a:Nat)(env:T j5)(m:cD)(b:Option j5):Bj (.reg [⟨.p (.build zO []),none,none⟩,⟨.e (.store 32 (.slot 4) (.loc 0)),none,none⟩,⟨.e (.store 1 (.slot 5) (.con (j5.int .i64 (Int.ofNat 7)))),none,none⟩]) cf a env m b=bnd (dB (K8 (vW zO []) (qE (kZ 32 (G5 (gR (gL gH))) N9) (qE (kZ 1 (G5 (gL (gR gH))) (bO (j5.int .i64 (Int.ofNat 7)))) dz))) cf a none env m []) (Pm b):=by rw[zL (h:=rfl),ar7]
def ar9:J6 (.slot 1)=(G5 (gL gH)):=rfl
def avz:J6 (.slot 3)=(G5 (gL (gL gH))):=rfl
def Zh{ls:cM}{env:T j5}(h:x ls env=UN):oQ 288 (.agg []) true x ls env=some (.tuple [.agg [],tV]):=by unfold oQ;rw[h];rfl
def ara:ZX (some (j6 [])) 0 []=some (j6 []):=rfl
def aiA(cf:G6)(a:Nat)(env:T j5)(m:cD)(b:Option j5):Bj (.reg [⟨.p (.build [iZ,iZ,iZ,iZ,iZ,iZ,iZ,iZ,iZ,iZ,iZ,iZ,iZ,iZ,iZ,iZ,iZ,iZ,iZ,iZ,iZ,iZ,nS,nS,iZ,iZ,iZ,iZ,iZ,nS,iZ,iZ] []),none,none⟩,⟨.e (.store 32 (.slot 4) (.loc 0)),none,none⟩,⟨.e (.store 1 (.slot 5) (.con (iV 7))),none,none⟩]) cf a env m b=bnd (dB (K8 (vW zO []) (qE (kZ 32 (G5 (gR (gL gH))) N9) (qE (kZ 1 (G5 (gL (gR gH))) (bO (j5.int .i64 (Int.ofNat 7)))) dz))) cf a none env m []) (Pm b):=ar8 cf a env m b
def abV(cf:G6)(a:Nat)(args:cM)(b:Option j5)(m:cD):Di KW cf a 200 args b m=ads cf a f200 args b m:=by show ob (KW.fns 200) _=_;have h:fns 200=some f200:=rfl;show ob ((fns 200).map _) _=_;rw[h];rfl
def Zi(cf:G6)(c:Nat)(a b:Nat)(m:cD):Di KW cf c 200 [.ptr a 0,.ptr b 0] none m=some [(m,none)]:=by rw[abV];simp[ads,f200,Xc,Si,Sk,aqZ,ah0,ah1,Nj,yJ,ar9]
def Zj{M:cD}(n:M.Ok)(cf:G6)(o:Nat)(a b:Nat){x:j5}{e:cM}(h:M.lim<=a)(j:M.lim<=b)(f:a<M.nx)(hb:b<M.nx)(c:a≠b)(r:M.get a=some (j6 e))(d:e.length=32)(s:M.get b=some (j6 [x])):
   ∃M',Di KW cf o 200 [.ptr a 0,.ptr b 0] (some UN) M=some [(M',none)]∧M'.Ok∧M.nx<=M'.nx∧M'.lim=M.lim∧(∀i,i<M.nx->i≠a->i≠b->M'.get i=M.get i)∧M'.get a=some (j6 [iZ,iZ,iZ,iZ,iZ,iZ,iZ,iZ,iZ,iZ,iZ,iZ,iZ,iZ,iZ,iZ,iZ,iZ,iZ,iZ,iZ,iZ,nS,nS,iZ,iZ,iZ,iZ,iZ,nS,iZ,iZ])∧M'.get b=some (j6 [iV 7]):=by
 rw[abV];have E:=o8 n [j6 []];have p:(ext M [j6 []]).get a=some (j6 e):=by rw[E.old a f];exact r
 obtain⟨N1,l,k,X1⟩:=aM (off:=0) (vs:=[iZ,iZ,iZ,iZ,iZ,iZ,iZ,iZ,iZ,iZ,iZ,iZ,iZ,iZ,iZ,iZ,iZ,iZ,iZ,iZ,iZ,iZ,nS,nS,iZ,iZ,iZ,iZ,iZ,nS,iZ,iZ]) E.ok (aP f E.nx) (by rw[E.lim];exact h) p (by rw[d];simp) ZZ rfl;have k:N1.get a=some (j6 [iZ,iZ,iZ,iZ,iZ,iZ,iZ,iZ,iZ,iZ,iZ,iZ,iZ,iZ,iZ,iZ,iZ,iZ,iZ,iZ,iZ,iZ,nS,nS,iZ,iZ,iZ,iZ,iZ,nS,iZ,iZ]):=by rw[k];simp[d,su]
 have q:N1.get b=some (j6 [x]):=by rw[X1.old b (aP hb E.nx) (aqR c),E.old b hb];exact s
 obtain⟨N2,m,y,X2⟩:=CQ (off:=0) (v:=iV 7) X1.ok (aP (aP hb E.nx) X1.nx) (by rw[X1.lim,E.lim];exact j) q ZZ rfl;refine⟨N2,?_,X2.ok,dn (dn E.nx X1.nx) X2.nx,by rw[X2.lim,X1.lim];exact E.lim,λi g t u=>?_,?_,by simpa using y⟩;have w:M.lim<=M.nx:=Zs
 simp[ads,f200,Xc,Si,Sk,ar0,ah0,ah1,ar4,ar6,aiA,Nj,yJ,ar9,avz,Zh,ara,ay n w,l,m];rw[X2.old i (aP (aP g E.nx) X1.nx) u,X1.old i (aP g E.nx) t,E.old i g];rw[X2.old a (aP (aP f E.nx) X1.nx) c];exact k
def afm(p:m.Ok)(t:m.lim<=m.nx)(s:By)(hs:s.length<=16000)(n d:Nat)(z:20001<=d):
   (∃r m',l9 KW d (n+13) (.func 132) [.str s] m=some [⟨.tuple [.agg r.f.cells,iZ],m'⟩]∧cE m m'∧J9 m' r∧r.a.length<20000∧r.b.length<20000∧r.l.length<20000∧kX s r)∨
   (∃m',l9 KW d (n+13) (.func 132) [.str s] m=some [⟨.tuple [.agg zr,iV 7],m'⟩]∧cE m m'∧∀r,¬ kX s r):=by
 have E0:=o8 p [j6 zr,j6 [iZ]];have g:(ext m [j6 zr,j6 [iZ]]).get m.nx=some (j6 zr):=by rw[l8 p];rfl
 have j:(ext m [j6 zr,j6 [iZ]]).get (m.nx+1)=some (j6 [iZ]):=by rw[r9 p];rfl
 rcases afl E0.ok ZD s hs n d z with⟨m1,g1,E1,hno⟩|⟨r,m1,g1,E1,hr,la,lb,lc,ht⟩;have A:m.nx+2<=m1.nx:=by have:=E1.nx;simpa using this
 have q:m1.get m.nx=some (j6 zr):=by rw[E1.old _ ZZ];exact g
 have y:m1.get (m.nx+1)=some (j6 [iZ]):=by rw[E1.old _ ZZ];exact j
 have c:m1.lim<=m.nx:=by rw[E1.lim,E0.lim];exact t
 obtain⟨M,x,F,L,G,H,I,J⟩:=Zj E1.ok (l9 KW d (n+12)) d m.nx (m.nx+1) c Zs Zs Zs Zs q rfl y;refine .inr ⟨M,?_,⟨F,Zs,by rw[G,E1.lim];exact E0.lim,λi o=>by rw[H i Zs Zs Zs,E1.old i ZD];exact E0.old i o⟩,hno⟩;rw[en f132];simp[f132,ay p t,g1,Xb,x,I,J];have A:m.nx+2<=m1.nx:=by have:=E1.nx;simpa using this
 have q:m1.get m.nx=some (j6 zr):=by rw[E1.old _ ZZ];exact g
 have y:m1.get (m.nx+1)=some (j6 [iZ]):=by rw[E1.old _ ZZ];exact j
 have c:m1.lim<=m.nx:=by rw[E1.lim,E0.lim];exact t
 obtain⟨N1,D,C,X1⟩:=aM (off:=0) (vs:=r.f.cells) E1.ok Zs c q (by rw[D6.len];simp) (by rw[D6.len];omega) (Qg hr);have C:N1.get m.nx=some (j6 r.f.cells):=by rw[C,D6.len];simp
 have k:N1.get (m.nx+1)=some (j6 [iZ]):=by rw[X1.old _ Zs Zs];exact y
 have B:m.nx+1<N1.nx:=aP Zs X1.nx;obtain⟨N2,E,u,X2⟩:=CQ (off:=0) (v:=iZ) X1.ok B (by rw[X1.lim];omega) k ZZ rfl;have u:N2.get (m.nx+1)=some (j6 [iZ]):=by simpa using u
 have K:N2.get m.nx=some (j6 r.f.cells):=by rw[X2.old _ Zs Zs];exact C
 have w:∀n cF,m1.get m.nx≠some (.cells 1 n cF):=λn cF e=>by rw[q]at e;have e:Y9.cells 32 1 _=.cells 1 n cF:=rW e;injection e with e1;cases e1
 have E12:cE N1 N2:=⟨X2.ok,X2.nx,X2.lim,λi o=>by
  by_cases h:i=m.nx+1;rw[h,u,k];exact X2.old i o h⟩
 have x:=Zi (l9 KW d (n+12)) d m.nx (m.nx+1) N2;refine .inl ⟨r,N2,?_,⟨X2.ok,by have:=X1.nx;have:=X2.nx;omega,by rw[X2.lim,X1.lim,E1.lim];exact E0.lim,λi o=>by rw[E12.old i (by have:=X1.nx;omega),X1.old i Zs Zs,E1.old i ZD];exact E0.old i o⟩,
  ⟨(U5.tQ hr.a X1 w).ext E12,(U5.tQ hr.b X1 w).ext E12,(U5.tQ hr.l X1 w).ext E12,hr.ga,hr.gb,hr.nb⟩,la,lb,lc,ht⟩
 rw[en f132];simp[f132,ay p t,g1,Xb,x,D,E,u,K]
def abW(s:By)(hs:s.length<=100000)(n c:Nat):∀(j i:Nat),i+j=s.length->∀(a2:j5) (N:Nat),j+1<=N->
   I9 (λenv m k=>FP (l9 KW c n) c none env m k) N (PG (iV (i:Int)) (.str s) a2 (iV (mW (s.take i):Int)) iZ) m []=some [⟨.exit 0,(PG (iV (s.length:Int)) (.str s) fV (iV (mW s:Int)) iZ),m,[],none⟩]:=by
 intro j;induction j with
 |zero=>
  intro i t a2 N r;obtain⟨N,rfl⟩:=sx N;obtain rfl:i=s.length:=Zs
  rw[o7,P9 (aA _)];simp[FP]
 |succ j ih=>
  intro i t a2 N r;obtain⟨N,rfl⟩:=sx N;have a:i<s.length:=Zs
  obtain⟨d,e,f,b⟩:=Tc (Es (s.take i)) (awI s[i]);rw[← NI a]at b;have p:=λx lo ls env v u=>zH (x:=x) (lo:=lo) (ls:=ls) (env:=env) (s:=s) (l:=i) v u a;have q:decide ((i:Int)<(s.length:Int))=true:=co Zs;have o:∀k:Int,0<=k->k<256->iB .i64 k=k:=λk w y=>Z7 Zs Zs;have h:=o ((s[i].toNat:Nat):Int) Zs (by have:=awI s[i];omega);have g:=ih (i+1) Zs tV N Zs;rw[o7,← g];simp[FP,q,a,p,d,e,f,b,h,I4 (i:=i) Zs]
def afn(s:By)(hs:s.length<=100000)(n a:Nat)(d:s.length+1<=a)(m:cD):l9 KW a (n+1) (.func 228) [.str s] m=some [⟨iV (mW s:Int),m⟩]:=by have g:=abW (m:=m) s hs n a s.length 0 Zs uV a Zs;have c:I9 (λb m k=>FP (l9 KW a n) a none b m k) a (PG iZ (.str s) uV iZ iZ) m []=_:=g;rw[en f228];simp[f228,c]
variable {i:Nat}
def Tf{c:cL}{s:By}(h:i<s.length):cA c (s.drop i)=if s[i]=c then[]::cA c (s.drop (i+1))else SL s[i] (cA c (s.drop (i+1))):=by rw[zu h,cA]
def VK(w:By):cP->cP
 |[]=>[w]
 |x::xs=>(w++x)::xs
def Tg(c:cL)(l:By):VK [] (cA c l)=cA c l:=by obtain⟨w,a,h⟩:=mO c l;rw[h];rfl
def Zk(w:By)(b:cL)(l:cP):VK w (SL b l)=VK (w++[b]) l:=by cases l<;>simp[VK,SL]
def ah2(a b:cL):decide (((a.toNat:Nat):Int)=((b.toNat:Nat):Int))=decide (a=b):=by rw[acv];simp only[ck];exact⟨λh=>avB.1 Zs,λh=>by rw[h]⟩
def abX(s:By)(hs:s.length<=10000)(c:cL)(cf:G6)(O:Nat):∀(j i:Nat),i+j=s.length->∀(fr:Nat) (l:cP) (m:cD) (out a2 a4:j5) (N:Nat),fr<=i->m.Ok->m.lim<=lo->lo<=m.nx->aO lo m out (strs l)->l.length<=i->j+1<=N->
   ∃(out' a4':j5) (m':cD) (l':cP) (fr':Nat),I9 (λenv m k=>Cw cf O none env m k) N (zV (iV (i:Int)) (.str s) a2 (.int .u8 (c.toNat:Nat)) a4 out (iV (fr:Int)) nS) m []=some [⟨.exit 0,(zV (iV (s.length:Int)) (.str s) fV (.int .u8 (c.toNat:Nat)) a4' out' (iV (fr':Int)) nS),m',[],none⟩]∧
    Fr lo lo m m'∧aO lo m' out' (strs l')∧(fr':Nat)<=s.length∧l'.length<=s.length∧l'++[s.drop fr']=l++VK ((s.drop fr).take (i-fr)) (cA c (s.drop i)):=by
 intro j;induction j with
 |zero=>
  intro i hi fr l m out a2 a4 N n u o b v t P;obtain⟨N,rfl⟩:=sx N;obtain rfl:i=s.length:=Zs
  refine⟨out,a4,m,l,fr,?_,Fr.refl u,v,n,t,?_⟩;rw[o7];simp[Cw];rw[su (aA s.length),P9 ZZ];simp[cA,VK]
 |succ j ih=>
  intro i hi fr l m out a2 a4 N n u o b v t P;obtain⟨N,rfl⟩:=sx N;have d:i<s.length:=Zs
  have p:=λx lo ls env J o=>zH (x:=x) (lo:=lo) (ls:=ls) (env:=env) (s:=s) (l:=i) J o d;have L:decide ((i:Int)<(s.length:Int))=true:=co Zs;have I:(s.drop fr).take (i+1-fr)=(s.drop fr).take (i-fr)++[s[i]]:=by rw[show i+1-fr=(i-fr)+1 from by omega,O7 ZD];congr 2;simp;congr 1;omega
  by_cases hc:s[i]=c;have R:=λx lo hi ls env J o Q=>Nh (x:=x) (lo:=lo) (hi:=hi) (ls:=ls) (env:=env) (s:=s) (l:=fr) (h:=i) J o Q n Zs;have S:=λ{β:Type} (p:j5->β) q=>v.vs.aL p q;let w:=(s.drop fr).take (i-fr)
  have E2:=(cE.refl u).new (j6 [.str w]);have H:=v.ext E2;obtain⟨f,m3,M,y,F3⟩:=uH (bytes:=16) E2.ok (by show m.lim<=lo;omega) (dn b E2.nx) H (Aa u (.str w)) rfl (by rw[G7];simp;omega) ⟨Zs,Zs⟩;have FF:Fr lo lo m m3:=(E2.fr b).trans F3;have A:aO lo m3 f (strs (l++[w])):=by rw[vM];exact y
  have K:=λ{β:Type} (p:j5->β) q=>y.vs.aL p q;have G:∀z B ls env e,List.length z=1->J2 1 1 z B ls env e=ob (lay B ls env z) λa=>if a.length=1 then some (.slice e 0 1 1,some (j6 a))else none:=λz B ls env e h=>I5 1 z B ls env e h
  obtain⟨out',a4',m',l',fr',g,F,r,C,D,E⟩:=ih (i+1) Zs (i+1) (l++[w]) m3 f tV tV N (aA _) FF.ok (by rw[FF.lim];exact o) (dn b FF.nx) A ZD Zs;refine⟨out',a4',m',l',fr',?_,FF.trans F,r,C,D,?_⟩;simp only[w]at M;rw[o7,← g];simp[Cw,L,d,p,R,S,K,G,M,ah2,hc,I4 (i:=i) Zs];rw[E,Tf d,cg hc,axD,at7,Tg];simp[VK,w];obtain⟨out',a4',m',l',fr',g,F,r,C,D,E⟩:=ih (i+1) Zs fr l m out tV fV N Zs u o b v Zs Zs;refine⟨out',a4',m',l',fr',?_,F,r,C,D,?_⟩;rw[o7,← g];simp[Cw,L,d,p,ah2,hc,I4 (i:=i) Zs];rw[E,Tf d,aE hc,Zk,I]
def AL(B:m.Ok)(f:m.lim<=m.nx)(s:By)(hs:s.length<=10000)(c:cL)(n d:Nat)(A:s.length+1<=d):
   ∃v m',l9 KW d (n+1) (.func 146) [.str s,.int .u8 (c.toNat:Nat)] m=some [⟨v,m'⟩]∧cE m m'∧aO m.nx m' v (strs (cA c s)):=by
 obtain⟨H,J,E,l,j,g,F,C,y,K,t⟩:=abX (lo:=m.nx) s hs c (l9 KW d n) d s.length 0 Zs 0 [] m nS uV uV d (aA _) B f (aA _) (aO.nil _ _) ZZ Zs;have u:I9 (λenv m k=>Cw (l9 KW d n) d none env m k) d (zV iZ (.str s) uV (.int .u8 (c.toNat:Nat)) uV nS iZ nS) m []=_:=g;rw[axD,at7,W9,Tg,O9]at t;have I:=λx lo ls env D f=>JZ (x:=x) (lo:=lo) (ls:=ls) (env:=env) (s:=s) (l:=j) D f y;have E2:=(cE.refl F.ok).new (j6 [.str (s.drop j)]);have o:∀z i ls env b,List.length z=1->J2 1 1 z i ls env b=ob (lay i ls env z) λa=>if a.length=1 then some (.slice b 0 1 1,some (j6 a))else none:=λz i ls env b h=>I5 1 z i ls env b h
 obtain⟨v,G,w,e,F3⟩:=uH (bytes:=16) E2.ok (by show E.lim<=m.nx;rw[F.lim];exact f) (dn F.nx E2.nx) (C.ext E2) (Aa F.ok (.str (s.drop j))) rfl (by rw[G7];simp;omega) ⟨Zs,Zs⟩;have r:=λ{β:Type} (p:j5->β) q=>e.vs.aL p q;refine⟨v,G,?_,(F.trans ((E2.fr F.nx).trans F3)).ext (aA _) (aA _),?_⟩;rw[en f146];simp[f146,u,I,o,w,r];rw[← t,vM];exact e
def XB(m m':cD)(v:j5):Prop:=∀i,i<m.nx->(∀o l c,v≠.slice i o l c)->(∀o l e,v≠.sliceU i o l e)->m'.get i=m.get i
variable {xs:cM}
def abY{bytes:Nat}{l:cM}(f:m.Ok)(L:m.lim<=lo)(d:lo<=m.nx)(h:aO lo m v l)(A:H8 xs=true)(hb:l.length+xs.length<=100000)(q:1<=bytes∧bytes<=1000):
   ∃v' m',jS m 1 bytes xs.length xs v=some [⟨v',m'⟩]∧aO lo m' v' (l++xs)∧Fr lo lo m m'∧XB m m' v∧(xs≠[]->∃i l',m.nx<=i∧v'=.sliceU i 0 l' 1):=by
 by_cases hf:xs=[];subst hf;refine⟨v,m,?_,by simpa using h,Fr.refl f,λ_ _ _ _=>rfl,λh=>cj rfl h⟩;rcases h with⟨rfl,rfl⟩|⟨id,_,_,_,_,rfl|rfl⟩;rfl;show bi (ble (l.length+0) l.length) (one (.slice id 0 (l.length+0) l.length) m) _=_;rw[adh,show ble l.length l.length=true from l7 (aA _)];rfl;rfl;obtain⟨k,H⟩:∃k,xs.length=k+1:=⟨xs.length-1,by have:=P6.2 hf;omega⟩;rcases h with⟨rfl,rfl⟩|⟨id,i1,i2,i3,ha,hv⟩;obtain⟨g,o⟩:=nH (lo:=lo) f d xs A;refine⟨_,_,?_,by rw[O9];exact o,Fr.new f d _,λi C _ _=>by rw[cD.Q5 f,aE Zs],λ_=>⟨_,_,aA _,rfl⟩⟩;rw[← g];show IY m 1 bytes xs.length xs=_;rw[H];show bi (big (k+1) bytes 1) _ none=_;rw[vK (by simp at hb;omega) q];rfl;have w:H8 (l++xs)=true:=by rw[bL,i3,A];rfl
 obtain⟨p,R,c,t,J,K,M,X,I,N⟩:=ha;have G:l.length<=c:=by simpa using M
 have F:J7 1 c t l.length 0=some l:=by
  have:=jL (rs:=1) (n:=c) (cF:=t) R N M l.length 0 ZZ
  rwa [ahk,ah3,W9,zG]at this
 rcases hv with rfl|rfl;obtain⟨g,o⟩:=nH (lo:=lo) f d (l++xs) w;refine⟨_,_,?_,o,Fr.new f d _,λi C _ _=>by rw[cD.Q5 f,aE Zs],λ_=>⟨_,_,aA _,rfl⟩⟩;rw[← g];show gF m 1 bytes xs.length xs id 0 l.length l.length=_;unfold gF;have O:ble (Nat.add l.length xs.length) l.length=false:=by rw[aa0];intro e;have:l.length+xs.length<=l.length:=D5 e;omega
 have P:Z6 m id 0 (Nat.mul l.length 1)=some l:=by
  rw[show Nat.mul l.length 1=l.length from ahk _];cases hll:l.length with
  |zero=>rw[U1.1 hll];rfl
  |succ j=>show aY (m.get id) (λrs U cF=>J7 rs U cF (j+1) 0)=_;rw[K,dJ,← hll,F]
 rw[O,bA,show Nat.add l.length xs.length=(l++xs).length from by simp,vK (by simpa using hb) q,aC,P,I6,V9];have a:(m.set id .dead).Ok:=cD.Ok.set f i2 _;have D:∀b,XB m ((m.set id .dead).new b) (.sliceU id 0 l.length 1):=λb i C A Q=>by rw[cD.Q5 a,aE ZD,cD.R9 f i2,aE (λe=>Q _ _ _ (by rw[e]))]
 have B:∀b,Fr lo lo m ((m.set id .dead).new b):=λb=>⟨cD.Ok.new a _,ZZ,ZZ,λi C _=>by
  rw[cD.Q5 a,aE ZD,cD.R9 f i2,aE Zs]⟩
 have u:ble m.lim id=true:=l7 Zs;by_cases hone:xs.length=1;obtain⟨x,rfl⟩:∃x,xs=[x]:=avQ.1 hone;have E:∃c'',l.length+1<=c''∧T.Ok (t.put l.length [x]) c'':=by
  by_cases hc:l.length<J;exact⟨J,hc,T.Ok.put I _ _ hc⟩;obtain rfl:J=l.length:=Zs
  exact⟨l.length+1,aA _,T.Ok.push I _⟩
 obtain⟨c'',V,W⟩:=E;refine⟨.sliceU m.nx 0 (l.length+1) 1,(m.set id .dead).new (.cells 1 (l.length+1) (t.put l.length [x])),?_,.inr ⟨m.nx,d,ZZ,w,⟨Zs,λr S=>?_,l.length+1,t.put l.length [x],c'',?_,ZZ,V,W,λi C=>?_⟩,.inr ZZ⟩,B _,D _,λ_=>⟨_,_,by first|exact aA _|simp,rfl⟩⟩;show ng m 1 bytes 1 [x] id 0 l.length 1=_;show bi (beq 1 1) (bi (big (l.length+1) bytes 1) (bi (ble m.lim id) (bi (H8 [x]) (uS (m.get id) _ _) none) none) none) none=_;rw[vK (by simpa using hb) q,u,A,K];show bi (bi (beq 1 1) (bi (beq 0 0) (bi (ble l.length c) (bi (beq 1 1) (beq (len' [x]) 1) false) false) false) false) _ _=_;rw[show ble l.length c=true from l7 G];rfl;obtain⟨y,_,rfl⟩:=adg.1 S;rfl;rw[cD.Q5 a];simp;by_cases hil:i=l.length;subst hil;rw[T.aN I _ _ Zs];simp;have s:i<l.length:=by simp at C;omega
 rw[T.bU I _ _ _ Zs (aqR hil),N i (by simpa using s)];simp[ai8,s];obtain⟨g,o⟩:=nH (lo:=lo) a (by simpa using d) (l++xs) w;refine⟨_,_,?_,o,B _,D _,λ_=>⟨_,_,by first|exact aA _|simp,rfl⟩⟩;rw[← g];show ng m 1 bytes xs.length xs id 0 l.length 1=_;unfold ng;rw[H];show bi (beq 1 1) (bi (big (l.length+(k+1)) bytes 1) (bi (ble m.lim id) (bi (H8 xs) (uS (m.get id) _ _) none) none) none) none=_;rw[vK Zs q,u,A,K];show bi (bi (beq 1 1) (bi (beq 0 0) (bi (ble l.length c) (bi (beq (k+1) 1) (beq (len' xs) 1) false) false) false) false) _ (ob (J7 1 c t (Nat.mul l.length 1) 0) λz=>grown (m.set id .dead) 1 (Nat.add l.length (k+1)) (dK z xs))=_;rw[show ble l.length c=true from l7 G,show beq (k+1) 1=false from aa0.2 λe=>hone (by rw[H];exact nA e),
  show Nat.mul l.length 1=l.length from ahk _,show Nat.add l.length (k+1)=(l++xs).length from by simp[H]]
 show ob (J7 1 c t l.length 0) (λz=>grown (m.set id .dead) 1 (l++xs).length (dK z xs))=_;rw[F,I6,V9]
def afo{bytes:Nat}{x:j5}{l:cM}(q:m.Ok)(a:m.lim<=lo)(c:lo<=m.nx)(h:aO lo m v l)(e:dV m x xs)(p:H8 xs=true)(hb:l.length+xs.length<=100000)(b:1<=bytes∧bytes<=1000):
   ∃v' m',(∀(s y:OF) (cf:G6) (ls:cM) (env:T j5),s ls env=v->y ls env=x->lu 1 bytes s y cf ls env m=some [⟨v',m'⟩])∧aO lo m' v' (l++xs)∧Fr lo lo m m'∧XB m m' v∧(xs≠[]->∃i l',m.nx<=i∧v'=.sliceU i 0 l' 1):=by
 obtain⟨v',m',f,g,j,k,o⟩:=abY q a c h p hb b;refine⟨v',m',λs y cf ls env r t=>?_,g,j,k,o⟩;show ob (AM.lenOf (y ls env)) (λn=>ob (Z8 m 1 n (y ls env)) λd=>jS m 1 bytes n d (s ls env))=_;rw[t,r,e.lenOf,I6,e.read,I6,f]
def Zl{s:By}(h:i<s.length):kD 0 (s.take (i+1))=if 48<=(s[i]).toNat∧(s[i]).toNat<=57 then 10*kD 0 (s.take i)+((s[i]).toNat-48)else kD 0 (s.take i):=by rw[O7 h,KH];rfl
def VL(s:By)(i:Nat)(h:i<=18):kD 0 (s.take i)<1000000000000000000:=by
 have a:=Im (s.take i) 0;have b:=at1 (n:=10) ZS (show(s.take i).length<=18 by rw[ajv];omega);have e:(10:Nat)^18=1000000000000000000:=ZS
 omega
def abZ(s:By)(hs:s.length<=100000)(cf:G6)(C:Nat):∀(j i:Nat),i+j=min s.length 18->∀(a2 a3:j5) (N:Nat),j+1<=N->
   ∃i' a3',I9 (λenv m k=>wT cf C none env m k) N (Da (iV (i:Int)) (.str s) a2 a3 (iV (kD 0 (s.take i):Int)) uV iZ) m []=some [⟨.exit 0,(Da i' (.str s) fV a3' (iV (kD 0 (s.take 18):Int)) uV iZ),m,[],none⟩]:=by
 intro j;induction j with
 |zero=>
  intro i G a2 a3 N F;obtain⟨N,rfl⟩:=sx N;have I:s.take i=s.take 18:=by by_cases h:s.length<=18;rw[show i=s.length from by omega,P9 (aA _),P9 h];rw[show i=18 from by omega]
  refine⟨iV (i:Int),a3,?_⟩;rw[o7,I];by_cases h:i<s.length;have c:decide ((i:Int)<(s.length:Int))=true:=co Zs;have o:decide ((i:Int)<18)=false:=decide_eq_false Zs;simp[wT,c,o,h,show¬ (i:Int)<18 from by omega];have c:decide ((i:Int)<(s.length:Int))=false:=decide_eq_false Zs;simp[wT,c,h]
 |succ j ih=>
  intro i G a2 a3 N F;obtain⟨N,rfl⟩:=sx N;have b:i<s.length:=Zs
  have D:i<18:=Zs
  have p:=λx lo ls env J H=>zH (x:=x) (lo:=lo) (ls:=ls) (env:=env) (s:=s) (l:=i) J H b;have c:decide ((i:Int)<(s.length:Int))=true:=co Zs;have o:decide ((i:Int)<18)=true:=co Zs;have d:(i:Int)<18:=Zs
  have K:kD 0 (s.take i)<100000000000000000:=by
   have r:=Im (s.take i) 0;have u:=at1 (n:=10) ZS (show(s.take i).length<=17 by rw[ajv];omega);have e:(10:Nat)^17=100000000000000000:=ZS
   omega
  have A:∀k:Int,0<=k->k<256->iB .i64 k=k:=λk r u=>Z7 Zs Zs;have a:=Zl b;have E:=awI s[i];generalize hb:(s[i]).toNat=B at a p E;by_cases r:48<=B;by_cases u:B<=57;obtain⟨t,rfl⟩:∃t,B=48+t:=⟨B-48,Zs⟩;rw[cg ⟨r,u⟩,show 48+t-48=t from by omega]at a;have v:Qz .u8 ((48+t:Nat):Int) 48=some (.int .u8 (t:Int)):=by show some (j5.int .u8 (iB .u8 (((48+t:Nat):Int)-48)))=_;rw[show(((48+t:Nat):Int)-48)=(t:Int)from by omega];congr 2;show(t:Int)%256=_;omega
  have w:iB .i64 (t:Int)=(t:Int):=A _ Zs Zs;have y:kY (10*(kD 0 (s.take i):Int))=10*(kD 0 (s.take i):Int):=Z7 Zs Zs;have z:kY (10*(kD 0 (s.take i):Int)+(t:Int))=((kD 0 (s.take (i+1)):Nat):Int):=by rw[a,Z7 Zs Zs];omega
  have f:decide ((48:Int)<=((48+t:Nat):Int))=true:=co Zs;have q:decide (((48+t:Nat):Int)<=57)=true:=co Zs;obtain⟨i',a3',g⟩:=ih (i+1) Zs tV tV N Zs;refine⟨i',a3',?_⟩;rw[o7,← g];generalize ((48+t:Nat):Int)=Z at *;simp[wT,c,o,d,b,p,v,w,y,z,of_decide_eq_true f,of_decide_eq_true q,I4 (i:=i) Zs];rw[aE Zs]at a;have f:(48:Int)<=(B:Int):=Zs
  have q:¬ (B:Int)<=57:=Zs
  obtain⟨i',a3',g⟩:=ih (i+1) Zs tV fV N Zs;refine⟨i',a3',?_⟩;rw[o7,← g,a];simp[wT,c,o,d,b,p,f,q,I4 (i:=i) Zs];rw[aE Zs]at a;have f:¬ (48:Int)<=(B:Int):=Zs
  obtain⟨i',a3',g⟩:=ih (i+1) Zs tV fV N Zs;refine⟨i',a3',?_⟩;rw[o7,← g,a];simp[wT,c,o,d,b,p,f,I4 (i:=i) Zs]
def Qh(s:By)(hs:s.length<=100000)(n a:Nat)(i:20001<=a)(m:cD):l9 KW a (n+1) (.func 147) [.str s] m=some [⟨iV (kE s),m⟩]:=by
 obtain⟨v,f,g⟩:=abZ (m:=m) s hs (l9 KW a n) a (min s.length 18) 0 Zs uV uV a Zs;have d:I9 (λenv m k=>wT (l9 KW a n) a none env m k) a (Da iZ (.str s) uV uV iZ uV iZ) m []=_:=g;have r:=VL s 18 (aA _);rw[en f147];cases s with
 |nil=>simp[f147,d,kE,kD]
 |cons c t=>
  have p:=λx lo ls env o j=>ae4 (x:=x) (lo:=lo) (ls:=ls) (env:=env) (b:=c) (t:=t) o j;have u:(0:Int)<((c::t).length:Int):=by simp<;>omega
  by_cases hc:c=45;subst hc;have e:kE (45::t)=-((kD 0 ((45::t).take 18):Nat):Int):=by unfold kE;rw[cg (show(45::t:By).head?=some 45 from rfl)]
  have w:kY (0-((kD 0 ((45::t).take 18):Nat):Int))=-((kD 0 ((45::t).take 18):Nat):Int):=by rw[Z7 Zs Zs];omega
  rw[e];generalize kD 0 ((45::t).take 18)=D at *;have q:kY (-(D:Int))=-(D:Int):=Z7 Zs Zs;simp[f147,d,p,q];have e:kE (c::t)=((kD 0 ((c::t).take 18):Nat):Int):=by unfold kE;rw[aE];simpa using hc
  have l:¬ ((c.toNat:Nat):Int)=45:=λh=>hc (avB.1 (by show c.toNat=45;omega));rw[e];simp[f147,d,p,l]
def ac0{b:cD}(h:dV m v xs)(F:Fr lo lo m b)(a:∀i o l c,(v=.slice i o l c∨v=.sliceU i o l c)->i<lo):dV b v xs:=
 h.keep F.nx λid n d e _ f=>by
  have:id<lo:=by rcases f with⟨o,l,c,h⟩|⟨o,l,c,h⟩;exact a _ _ _ _ (.inl h);exact a _ _ _ _ (.inr h)
  exact F.old id this Zs
def VN(h:dV m v xs):∀i o l c,(v=.slice i o l c∨v=.sliceU i o l c)->i<m.nx:=by
 rcases h with⟨rfl,_⟩|⟨id,off,h1,h2,_⟩;rintro i o l c (h|h)<;>cases h
 rintro i o l c hv;rcases h1 with⟨c',h1,_⟩|h1<;>subst h1<;>rcases hv with hv|hv<;>cases hv<;>exact h2
def Zm(v:j5)(r:Nat)(ws:cP)(Y:∀w∈ws,w.length<=100000)(n C:Nat)(K:20001<=C):∀(j i:Nat),i+j=ws.length->1<=i->∀(l:cQ) (m:cD) (out a2:j5) (N:Nat),m.Ok->m.lim<=lo->lo<=m.nx->dV m v (strs ws)->(∀i o l c,(v=.slice i o l c∨v=.sliceU i o l c)->i<lo)->aO lo m out (ints l)->l.length+ws.length<=i+50000->l.length<=i->ws.length<=20000->j+1<=N->
   ∃(out':j5) (m':cD),I9 (λenv m k=>FT (l9 KW C (n+1)) C none env m k) N (Da (iV (i:Int)) v a2 out (iV (r:Int)) uV nS) m []=some [⟨.exit 0,(Da (iV (ws.length:Int)) v fV out' (iV (r:Int)) uV nS),m',[],none⟩]∧
    Fr lo lo m m'∧aO lo m' out' (ints (l++(ws.drop i).map kE)):=by
 intro j;induction j with
 |zero=>
  intro i X U l m out a2 N D R e u t E W I x V;obtain⟨N,rfl⟩:=sx N;obtain rfl:i=ws.length:=Zs
  have a:=u.len;rw[G7]at a;refine⟨out,m,?_,Fr.refl D,by rw[su (aA _)];simpa using E⟩;rw[o7];simp[FT,a]
 |succ j ih=>
  intro i X U l m out a2 N D R e u t E W I x V;obtain⟨N,rfl⟩:=sx N;have d:i<ws.length:=Zs
  have a:=u.len;rw[G7]at a;obtain⟨id,o,P,_,Q⟩:=u.at (i:=i) (by rw[G7];exact d);have y:(strs ws)[i]'(by rw[G7];exact d)=.str ws[i]:=by simp[strs]
  rw[y]at Q;simp at P;have S:decide ((i:Int)<(ws.length:Int))=true:=co Zs;have c:=Qh ws[i] (Y _ (ql d)) n C K m;have Z:=λ{β:Type} (p:j5->β) q=>E.vs.aL p q;have pv:=λ{β:Type} (p:j5->β) q=>u.aL p q;have E2:=(cE.refl D).new (j6 [iV (kE ws[i])]);have L:(ints l).length=l.length:=by simp[ints]
  obtain⟨s,m3,T,A,F3⟩:=uH (bytes:=8) E2.ok (by show m.lim<=lo;omega) (dn e E2.nx) (E.ext E2) (Aa D (iV (kE ws[i]))) rfl (by rw[L];simp;omega) ⟨Zs,Zs⟩;have FF:Fr lo lo m m3:=(E2.fr e).trans F3;have B:aO lo m3 s (ints (l++[kE ws[i]])):=by rw[zI];exact A
  have O:=λ{β:Type} (p:j5->β) q=>A.vs.aL p q;have J:∀z H G env f,List.length z=1->J2 1 1 z H G env f=ob (lay H G env z) λb=>if b.length=1 then some (.slice f 0 1 1,some (j6 b))else none:=λz H G env f h=>I5 1 z H G env f h
  obtain⟨out',m',g,F,M⟩:=ih (i+1) Zs Zs (l++[kE ws[i]]) m3 s tV N FF.ok (by rw[FF.lim];exact R) (dn e FF.nx) (ac0 u FF t) t B ZD ZD x Zs;refine⟨out',m',?_,FF.trans F,by rw[zu d,afp];simpa using M⟩;rw[o7,← g];simp[FT,S,d,a,P,Q,c,Z,O,pv,J,T,I4 (i:=i) Zs]
def Zn(v:j5)(many:Nat)(A:many<=10000)(G D:j5)(cf:G6)(H:Nat):∀(j:Nat) (l:cQ) (m:cD) (out a5:j5) (N:Nat),l.length+j=max l.length many->m.Ok->m.lim<=lo->lo<=m.nx->aO lo m out (ints l)->l.length<=60000->j+1<=N->
   ∃(out':j5) (m':cD),I9 (λenv m k=>FQ cf H none env m k) N (Da G v D out (iV (many:Int)) a5 nS) m []=some [⟨.exit 2,(Da G v D out' (iV (many:Int)) fV nS),m',[],none⟩]∧
    Fr lo lo m m'∧aO lo m' out' (ints (zY many l)):=by
 intro j;induction j with
 |zero=>
  intro l m out a5 N M s E d n K J;obtain⟨N,rfl⟩:=sx N;have L:many<=l.length:=Zs
  have a:=n.vs.len;have c:(ints l).length=l.length:=by simp[ints]
  rw[c]at a;have w:decide ((l.length:Int)<(many:Int))=false:=decide_eq_false Zs;refine⟨out,m,?_,Fr.refl s,by rw[zY,show many-l.length=0 from by omega];simpa using n⟩;rw[o7];simp[FQ,a,w,show¬ l.length<many from by omega]
 |succ j ih=>
  intro l m out a5 N M s E d n K J;obtain⟨N,rfl⟩:=sx N;have y:l.length<many:=Zs
  have a:=n.vs.len;have c:(ints l).length=l.length:=by simp[ints]
  rw[c]at a;have w:decide ((l.length:Int)<(many:Int))=true:=co Zs;have O:=λ{β:Type} (p:j5->β) q=>n.vs.aL p q;have E2:=(cE.refl s).new (j6 [iZ]);obtain⟨i,m3,I,o,F3⟩:=uH (bytes:=8) E2.ok (by show m.lim<=lo;omega) (dn d E2.nx) (n.ext E2) (Aa s iZ) rfl (by rw[c];simp;omega) ⟨Zs,Zs⟩;have FF:Fr lo lo m m3:=(E2.fr d).trans F3;have r:aO lo m3 i (ints (l++[0])):=by rw[zI];exact o
  have C:=λ{β:Type} (p:j5->β) q=>o.vs.aL p q;have x:∀z u t env f,List.length z=1->J2 1 1 z u t env f=ob (lay u t env z) λb=>if b.length=1 then some (.slice f 0 1 1,some (j6 b))else none:=λz u t env f h=>I5 1 z u t env f h
  obtain⟨out',m',g,F,B⟩:=ih (l++[0]) m3 i tV N ZD FF.ok (by rw[FF.lim];exact E) (dn d FF.nx) r ZD Zs;refine⟨out',m',?_,FF.trans F,?_⟩;rw[o7,← g];simp[FQ,w,y,a,O,C,x,I];have e:zY many (l++[0])=zY many l:=by simp only[zY,aaf,List.length_singleton,atW];rw[show many-l.length=(many-(l.length+1))+1 from by omega,List.replicate_succ];rfl
  rw[← e];exact B
def Qi(s:m.Ok)(i:m.lim<=m.nx){w:By}(j:dV m v (strs (w::ws)))(t:∀x∈w::ws,x.length<=100000)(hb:(w::ws).length<=3000)(a:Nat)(h:a<=1000)(n b:Nat)(r:50001<=b):
   ∃v' m',l9 KW b (n+2) (.func 229) [v,iV (a:Int)] m=some [⟨v',m'⟩]∧cE m m'∧aO m.nx m' v' (ints (dU (w::ws) a)):=by
 obtain⟨z,u,l,F1,c⟩:=Zm (lo:=m.nx) v a (w::ws) t n b Zs ws.length 1 ZD (aA _) [] m nS uV b s i (aA _) j (VN j) (aO.nil _ _) (by simp at hb ⊢;omega) ZZ Zs (by simp at hb;omega);have f:I9 (λe m k=>FT (l9 KW b (n+1)) b none e m k) b (Da (iV 1) v uV nS (iV (a:Int)) uV nS) m []=_:=l;rw[O9]at c;have g:(List.map kE (List.drop 1 (w::ws))).length<=3000:=by simp at hb ⊢;omega
 obtain⟨A,y,o,F2,d⟩:=Zn (lo:=m.nx) v a Zs (iV ((ws.length:Int)+1)) fV (l9 KW b (n+1)) b (a-(List.map kE (List.drop 1 (w::ws))).length) (List.map kE (List.drop 1 (w::ws))) u z uV b Zs F1.ok (by rw[F1.lim];exact i) F1.nx c Zs Zs;have B:=λ{β:Type} (p:j5->β) q=>d.vs.aL p q;refine⟨A,y,?_,(F1.trans F2).ext (aA _) (aA _),d⟩;rw[en f229];simp[f229,f,o]
def Dis(a b:j5):Prop:=∀i,(∃o l c,a=.slice i o l c∨a=.sliceU i o l c)->¬ ∃o l c,b=.slice i o l c∨b=.sliceU i o l c
variable {b:j5}
def Dis.symm{a:j5}(h:Dis a b):Dis b a:=λi c d=>h i d c
def ac1{d:cD}{a:j5}{lb:cM}(h:aO lo m b lb)(K:XB m d a)(hn:m.nx<=d.nx)(D:Dis a b):aO lo d b lb:=by
 rcases h with h|⟨id,h1,h2,h3,h4,h5⟩;exact .inl h;have f:∃o l c,b=.slice id o l c∨b=.sliceU id o l c:=by rcases h5 with h5|h5;exact⟨_,_,_,.inl h5⟩;exact⟨_,_,_,.inr h5⟩
 exact .inr ⟨id,h1,aP h2 hn,h3,h4.same (K id h2 (λo l c e=>D id ⟨o,l,c,.inl e⟩ f) (λo l c e=>D id ⟨o,l,c,.inr e⟩ f)),h5⟩
def afq{a:cM}(h:aO lo m b a){o l c:Nat}(hb:b=.slice i o l c∨b=.sliceU i o l c):i<m.nx:=VN h.vs i o l c hb
def afr{d:cM}(h:aO lo m b d){a:Nat}(hi:m.nx<=i):Dis (.sliceU i 0 a 1) b:=by
 rintro j ⟨o,l,c,h1⟩ ⟨o2,l2,c2,h2⟩;have:=afq h h2;rcases h1 with h1|h1<;>cases h1
 omega
def afs(b:j5):Dis nS b:=by rintro j ⟨o,l,c,h1⟩;rcases h1 with h1|h1<;>cases h1
def Ti{a:j5}{d h:cQ}(g:m.Ok)(p:m.lim<=lo)(c:lo<=m.nx)(l:aO lo m a (ints d))(hb:aO lo m b (ints h))(D:Dis a b)(x:Int)(hn:d.length<=50000):
   ∃a' m',(∀(s y:OF) (cf:G6) (ls:cM) (env:T j5),s ls env=a->y ls env=.slice m.nx 0 1 1->lu 1 8 s y cf ls env (m.new (j6 [iV x]))=some [⟨a',m'⟩])∧Fr lo lo m m'∧aO lo m' a' (ints (d++[x]))∧aO lo m' b (ints h)∧Dis a' b:=by
 have E2:=(cE.refl g).new (j6 [iV x]);have e:(ints d).length=d.length:=by simp[ints]
 obtain⟨a',o,j,f,F3,K,n⟩:=afo (bytes:=8) E2.ok (by show m.lim<=lo;omega) (dn c E2.nx) (l.ext E2) (Aa g (iV x)) rfl (by rw[e];simp;omega) ⟨Zs,Zs⟩;obtain⟨i,q,k,rfl⟩:=n ZZ;exact⟨_,o,j,(E2.fr c).trans F3,by rw[zI];exact f,ac1 (hb.ext E2) K F3.nx D,afr (hb.ext E2) k⟩
def ac2(v:j5)(ws:cP)(hw:∀w∈ws,w.length<=100000)(a7:ws.length<=20000)(n U:Nat)(a0:20001<=U):∀(j i:Nat),i+j=ws.length->∀(k:Nat) (la lb:cQ) (m:cD) (a b a2 a3 a4 a6 a8:j5) (N:Nat),m.Ok->m.lim<=lo->lo<=m.nx->dV m v (strs ws)->(∀i o l c,(v=.slice i o l c∨v=.sliceU i o l c)->i<lo)->
   aO lo m a (ints la)->aO lo m b (ints lb)->Dis a b->la.length<=i->lb.length<=i->j+1<=N->
   ∃(a' b' b3 b4 k' b6 b8:j5) (m':cD),I9 (λenv m k=>uL (l9 KW U (n+1)) U none env m k) N (aef (iV (i:Int)) v a2 a3 a4 (iV (k:Int)) a6 a a8 b nS nS) m []=some [⟨.exit 0,(aef (iV (ws.length:Int)) v fV b3 b4 k' b6 a' b8 b' nS nS),m',[],none⟩]∧
    Fr lo lo m m'∧aO lo m' a' (ints (la++(aK k (ws.drop i)).1))∧aO lo m' b' (ints (lb++(aK k (ws.drop i)).2)):=by
 intro j;induction j with
 |zero=>
  intro i hi k la lb m a b a2 a3 a4 a6 a8 N J I s y f G H D h1 h2 hN;obtain⟨N,rfl⟩:=sx N;obtain rfl:i=ws.length:=Zs
  have d:=y.len;rw[G7]at d;refine⟨a,b,a3,a4,iV (k:Int),a6,a8,m,?_,Fr.refl J,?_,?_⟩;rw[o7];simp[uL,d];rw[su (aA _)];simpa[aK]using G;rw[su (aA _)];simpa[aK]using H
 |succ j ih=>
  intro i hi k la lb m a b a2 a3 a4 a6 a8 N J I s y f G H D h1 h2 hN;obtain⟨N,rfl⟩:=sx N;have e:i<ws.length:=Zs
  have d:=y.len;rw[G7]at d;obtain⟨id,o,L,_,M⟩:=y.at (i:=i) (by rw[G7];exact e);have Q:(strs ws)[i]'(by rw[G7];exact e)=.str ws[i]:=by simp[strs]
  rw[Q]at M;simp at L;have O:decide ((i:Int)<(ws.length:Int))=true:=co Zs;have T:=λ{β:Type} (p:j5->β) q=>y.aL p q;have R:=λ{β:Type} (p:j5->β) q=>G.vs.aL p q;have S:=λ{β:Type} (p:j5->β) q=>H.vs.aL p q;rw[zu e,aK];by_cases w1:ws[i]=kA;rw[cg w1];obtain⟨a',b',b3,b4,k',b6,b8,m',g,r⟩:=ih (i+1) Zs 1 la lb m a b tV tV a4 a6 a8 N J I s y f G H D Zs Zs Zs;refine⟨a',b',b3,b4,k',b6,b8,m',?_,r⟩;have t:ws[i]=[97]:=w1;rw[o7,← g];simp[uL,O,e,d,L,M,T,R,S,t,I4 (i:=i) Zs];rw[aE w1];have t:¬ ws[i]=[97]:=w1;by_cases w2:ws[i]=kB;rw[cg w2];obtain⟨a',b',b3,b4,k',b6,b8,m',g,r⟩:=ih (i+1) Zs 2 la lb m a b tV fV tV a6 a8 N J I s y f G H D Zs Zs Zs;refine⟨a',b',b3,b4,k',b6,b8,m',?_,r⟩;have x:ws[i]=[98]:=w2;rw[o7,← g];simp[uL,O,e,d,L,M,T,R,S,t,x,I4 (i:=i) Zs];rw[aE w2];have x:¬ ws[i]=[98]:=w2;have c:=Qh ws[i] (hw _ (ql e)) n U a0 m;have P:∀z W V env E,List.length z=1->J2 1 1 z W V env E=ob (lay W V env z) λu=>if u.length=1 then some (.slice E 0 1 1,some (j6 u))else none:=λz W V env E h=>I5 1 z W V env E h
  by_cases k1:k=1;rw[cg k1];obtain⟨X,m3,Z,F3,A,B,D3⟩:=Ti J I s G H D (kE ws[i]) Zs;obtain⟨a',b',b3,b4,k',b6,b8,m',g,F,r1,r2⟩:=ih (i+1) Zs k (la++[kE ws[i]]) lb m3 X b tV fV fV tV a8 N F3.ok (by rw[F3.lim];exact I) (dn s F3.nx) (ac0 y F3 f) f A B D3 ZD Zs Zs;have a1:=λ{β:Type} (p:j5->β) q=>A.vs.aL p q;refine⟨a',b',b3,b4,k',b6,b8,m',?_,F3.trans F,by simpa using r1,r2⟩;have C:(k:Int)=1:=Zs
  rw[o7,← g];simp[uL,O,e,d,L,M,c,T,R,S,a1,t,x,C,P,Z,I4 (i:=i) Zs];rw[aE k1];have C:¬ (k:Int)=1:=Zs
  by_cases k2:k=2;rw[cg k2];obtain⟨Y,m3,Z,F3,B,A,D3⟩:=Ti J I s H G D.symm (kE ws[i]) Zs;obtain⟨a',b',b3,b4,k',b6,b8,m',g,F,r1,r2⟩:=ih (i+1) Zs k la (lb++[kE ws[i]]) m3 a Y tV fV fV fV tV N F3.ok (by rw[F3.lim];exact I) (dn s F3.nx) (ac0 y F3 f) f A B D3.symm Zs ZD Zs;have a5:=λ{β:Type} (p:j5->β) q=>B.vs.aL p q;refine⟨a',b',b3,b4,k',b6,b8,m',?_,F3.trans F,r1,by simpa using r2⟩;have K:(k:Int)=2:=Zs
  rw[o7,← g];simp[uL,O,e,d,L,M,c,T,R,S,a5,t,x,C,K,P,Z,I4 (i:=i) Zs];rw[aE k2];have K:¬ (k:Int)=2:=Zs
  obtain⟨a',b',b3,b4,k',b6,b8,m',g,r⟩:=ih (i+1) Zs k la lb m a b tV fV fV fV fV N J I s y f G H D Zs Zs Zs;refine⟨a',b',b3,b4,k',b6,b8,m',?_,r⟩;rw[o7,← g];simp[uL,O,e,d,L,M,T,R,S,t,x,C,K,I4 (i:=i) Zs]
def aft(o:m.Ok)(l:m.lim<=m.nx)(h:dV m v (strs ws))(p:∀x∈ws,x.length<=100000)(hb:ws.length<=3000)(n c:Nat)(j:50001<=c):
   ∃a b m',l9 KW c (n+2) (.func 230) [v] m=some [⟨.tuple [a,b],m'⟩]∧cE m m'∧aO m.nx m' a (ints (aK 0 ws).1)∧aO m.nx m' b (ints (aK 0 ws).2):=by
 obtain⟨a,b,r,s,w,t,u,q,g,F,e,f⟩:=ac2 (lo:=m.nx) v ws p Zs n c Zs ws.length 0 Zs 0 [] [] m nS nS uV uV uV uV uV c o l (aA _) h (VN h) (aO.nil _ _) (aO.nil _ _) (afs _) ZZ ZZ Zs;have i:I9 (λd m k=>uL (l9 KW c (n+1)) c none d m k) c (aef iZ v uV uV uV iZ uV nS uV nS nS nS) m []=_:=g;rw[W9,O9]at e f;refine⟨a,b,q,?_,F.ext (aA _) (aA _),e,f⟩;rw[en f230];simp[f230,i]
def afu{w:j5}{xs e:cP}(r:dV m v (strs xs))(z:dV m w (strs e))(F:xs.length=e.length)(hb:xs.length<=100000)(cf:G6)(n:Nat):∀(j i:Nat),i+j=xs.length->∀(a2 a4 a5:j5) (N:Nat),j+1<=N->
   (xs.drop i=e.drop i∧∃(b5:j5),I9 (λenv m k=>zN cf n none env m k) N (Da v w a2 (iV (i:Int)) a4 a5 fV) m []=some [⟨.exit 0,(Da v w a2 (iV (xs.length:Int)) fV b5 fV),m,[],none⟩])∨
   (xs.drop i≠e.drop i∧∃(b3 b4 b5:j5),I9 (λenv m k=>zN cf n none env m k) N (Da v w a2 (iV (i:Int)) a4 a5 fV) m []=some [⟨.ret,(Da v w a2 b3 b4 b5 fV),m,[],none⟩]):=by
 intro j;induction j with
 |zero=>
  intro i E a2 a4 a5 N C;obtain⟨N,rfl⟩:=sx N;obtain rfl:i=xs.length:=Zs
  have a:=r.len;rw[G7]at a;refine .inl ⟨by rw[su (aA _),su Zs],a5,?_⟩;rw[o7];simp[zN,a]
 |succ j ih=>
  intro i E a2 a4 a5 N C;obtain⟨N,rfl⟩:=sx N;have b:i<xs.length:=Zs
  have c:i<e.length:=Zs
  have a:=r.len;rw[G7]at a;obtain⟨id,o,s,_,t⟩:=r.at (i:=i) (by rw[G7];exact b);have l:(strs xs)[i]'(by rw[G7];exact b)=.str xs[i]:=by simp[strs]
  rw[l]at t;simp at s;obtain⟨G,H,u,_,x⟩:=z.at (i:=i) (by rw[G7];exact c);have f:(strs e)[i]'(by rw[G7];exact c)=.str e[i]:=by simp[strs]
  rw[f]at x;simp at u;have y:decide ((i:Int)<(xs.length:Int))=true:=co Zs;have A:=λ{β:Type} (p:j5->β) q=>r.aL p q;have B:=λ{β:Type} (p:j5->β) q=>z.aL p q;rw[zu b,zu c];by_cases hq:xs[i]=e[i];have d:∀R:Option (List Out),I9 (λenv m k=>zN cf n none env m k) N (Da v w a2 (iN (i+1)) tV fV fV) m []=R->I9 (λenv m k=>zN cf n none env m k) (N+1) (Da v w a2 (iV (i:Int)) a4 a5 fV) m []=R:=λR D=>by rw[o7,← D];simp[zN,y,b,a,s,t,u,x,A,B,hq,I4 (i:=i) Zs]
  rcases ih (i+1) Zs a2 tV fV N Zs with⟨h1,b5,g⟩|⟨h1,b3,b4,b5,g⟩;exact .inl ⟨by rw[hq,h1],b5,d _ g⟩;exact .inr ⟨λh=>h1 (by injection h),b3,b4,b5,d _ g⟩;refine .inr ⟨λh=>hq (by injection h),iV (i:Int),tV,tV,?_⟩;rw[o7];simp[zN,y,b,a,s,t,u,x,A,B,hq]
def aiB{w:j5}{xs ys:cP}(j:dV m v (strs xs))(l:dV m w (strs ys))(hb:xs.length<=4000)(n a:Nat)(o:50001<=a):l9 KW a (n+1) (.func 81) [v,w] m=some [⟨.bool (decide (xs=ys)),m⟩]:=by
 have d:=j.len;have e:=l.len;rw[G7]at d e;rw[en f81];by_cases hxy:xs.length=ys.length;rcases afu j l hxy Zs (l9 KW a n) a xs.length 0 Zs fV uV uV a Zs with⟨b,b5,g⟩|⟨b,b3,b4,b5,g⟩;have f:I9 (λc m k=>zN (l9 KW a n) a none c m k) a (Da v w fV iZ uV uV fV) m []=_:=g;have b:xs=ys:=by simpa using b
 simp[f81,d,e,f,b];have f:I9 (λc m k=>zN (l9 KW a n) a none c m k) a (Da v w fV iZ uV uV fV) m []=_:=g;have b:¬ xs=ys:=by simpa using b
 have i:((xs.length:Nat):Int)=(ys.length:Int):=Zs
 simp[f81,d,e,hxy,f,b];have b:¬ xs=ys:=λh=>hxy (by rw[h]);have i:¬ ((xs.length:Nat):Int)=(ys.length:Int):=Zs
 simp[f81,d,e,i,b]
def Et{ls:cM}{env:T j5}{M:cD}{id d:Nat}(c:x ls env=.slice id 0 1 1)(a:M.get id=some (j6 [.int .u8 (d:Int)])):dH x ls env M=some (.str [UInt8.ofNat d]):=by
 show xC (x ls env) _ _ _=_;rw[c];show ob (Z6 M id 0 1) _=_;have:Z6 M id 0 1=some [.int .u8 (d:Int)]:=by
  show aY (M.get id) (λf k cF=>J7 f k cF 1 0)=_;rw[a];show J7 (len' [j5.int .u8 (d:Int)]) 1 (.nd .e [j5.int .u8 (d:Int)] .e) 1 0=_;rw[K7];have:=GY (n:=1) (off:=0) (cF:=.nd .e [j5.int .u8 (d:Int)] .e) (xs:=[j5.int .u8 (d:Int)]) (λi b=>by
   obtain rfl:i=0:=by simp at b;omega
   rfl) ZZ 1 0 rfl
  simpa using this
 rw[this];rfl
def afv(a:Nat)(h:a<9223372036854775808):QA .i64 (a:Int) 10=some (iV ((a / 10:Nat):Int)):=by
 show some (j5.int .i64 (kY ((a:Int).tdiv 10)))=_;have e:(a:Int).tdiv 10=((a / 10:Nat):Int):=by rw[axo Zs];omega
 rw[e,Z7 Zs Zs]
def afw(a:Nat)(h:a<9223372036854775808):QA .i64 (-(a:Int)) 10=some (iV (-((a / 10:Nat):Int))):=by
 show some (j5.int .i64 (kY ((-(a:Int)).tdiv 10)))=_;have e:(-(a:Int)).tdiv 10=-((a / 10:Nat):Int):=by rw[Int.neg_tdiv,axo Zs];omega
 rw[e,Z7 Zs Zs]
def XC(a:Nat):EO .i64 (-(a:Int)) 10=some (iV (-((a%10:Nat):Int))):=by
 show some (j5.int .i64 ((-(a:Int)).tmod 10))=_;have e:(-(a:Int)).tmod 10=-((a%10:Nat):Int):=by rw[Int.neg_tmod,Int.tmod_eq_emod_of_nonneg Zs];omega
 rw[e]
def Qj(d:Nat)(h:d<10):kY (48+(d:Int))=((48+d:Nat):Int)∧iB .u8 ((48+d:Nat):Int)=((48+d:Nat):Int):=by refine⟨by rw[Z7 Zs Zs];omega,?_⟩;show((48+d:Nat):Int)%256=_;omega
def ac3(cf:G6)(A:Nat):∀(u:Nat),u<9223372036854775808->∀(w:By) (m:cD) (a4:j5) (N:Nat),m.Ok->m.lim<=m.nx->w.length+Lib.nDigits u<=1000->Lib.nDigits u+1<=N->
   ∃(u' a4':j5) (m':cD),I9 (λenv m k=>Ku cf A none env m k) N (Da (iV (u:Int)) fV uV uV a4 (.str w) (.str [])) m []=some [⟨.exit 0,(Da u' fV uV uV fV (.str ((if u<10 then[]else Lib.decDigits (u / 10))++w)) (.str [])),m',[],none⟩]∧cE m m':=by
 intro u;induction u using Nat.strongRecOn with
 |_ u ih=>
  intro D w m a4 N n I F C;have j:=C;have o:=Lib.nDigits_pos u;obtain⟨N,rfl⟩:=sx N;by_cases h:u<10;rw[cg h];refine⟨iV (u:Int),fV,m,?_,cE.refl n⟩;have i:decide ((9:Int)<(u:Int))=false:=decide_eq_false Zs;rw[o7];simp[Ku,i,show¬ (9:Int)<(u:Int)from by omega];rw[aE h];have i:decide ((9:Int)<(u:Int))=true:=co Zs;have p:=afv u D;have r:=zB .i64 (u / 10) 10 ZS;obtain⟨s,t⟩:=Qj (u / 10%10) (ajq _ Zs);have E2:=o8 n [j6 [.int .u8 ((48+u / 10%10:Nat):Int)]];have v:=λx ls env G=>Et (x:=x) (ls:=ls) (env:=env) (M:=ext m [j6 [.int .u8 ((48+u / 10%10:Nat):Int)]]) (id:=m.nx) (d:=48+u / 10%10) G (by rw[l8 n];rfl);have l:∀z e ls env b,List.length z=1->J2 1 1 z e ls env b=ob (lay e ls env z) λa=>if a.length=1 then some (.slice b 0 1 1,some (j6 a))else none:=λz e ls env b h=>I5 1 z e ls env b h
  have H:fZ [UInt8.ofNat (48+u / 10%10)] w=some (.str (UInt8.ofNat (48+u / 10%10)::w)):=Z4 ZD;obtain⟨u',a4',m',g,E⟩:=ih (u / 10) Zs Zs (UInt8.ofNat (48+u / 10%10)::w) (ext m [j6 [.int .u8 ((48+u / 10%10:Nat):Int)]]) tV N E2.ok ZD (by
   rw[Lib.nDigits_big h]at F;simp;omega) (by rw[Lib.nDigits_big h]at j;omega)
  refine⟨u',a4',m',?_,E2.trans E⟩;have y:Lib.decDigits (u / 10)++w=(if u / 10<10 then[]else Lib.decDigits (u / 10 / 10))++(UInt8.ofNat (48+u / 10%10)::w):=by rw[Lib.decDigits];split;rename_i B;rw[aju B];rfl;simp
  rw[o7,y,← g];have f:EO .i64 ((u / 10:Nat):Int) 10=some (iV ((u / 10%10:Nat):Int)):=r;generalize UInt8.ofNat (48+u / 10%10)=ch at *;generalize u / 10%10=d at *;generalize hq:u / 10=q at *;have c:(9:Int)<(u:Int):=Zs
  generalize ((48+d:Nat):Int)=Z at *;simp[Ku,i,c,p,f,s,t,v,l,H,o9]
def NM{u:Nat}(h:u<10):Lib.decDigits u=[UInt8.ofNat (48+u)]:=by rw[Lib.decDigits,dif_pos h]
def XD{u:Nat}(h:¬ u<10):Lib.decDigits u=Lib.decDigits (u / 10)++[UInt8.ofNat (48+u%10)]:=by conv=>lhs;rw[Lib.decDigits,dif_neg h]
def ac4(j:m.Ok)(A:m.lim<=m.nx)(u:Nat)(w:u<10000000000000000)(n c:Nat)(t:20001<=c):∃m',l9 KW c (n+1) (.func 341) [iV (u:Int)] m=some [⟨.str (Lib.decDigits u),m'⟩]∧cE m m':=by
 have v:(10:Nat)^16=10000000000000000:=ZS
 have B:=mo 15 u (by rw[v];exact w);have l:=zB .i64 u 10 ZS;obtain⟨o,p⟩:=Qj (u%10) (ajq _ Zs);have E2:=o8 j [j6 [.int .u8 ((48+u%10:Nat):Int)]];have q:=λx ls env y=>Et (x:=x) (ls:=ls) (env:=env) (M:=ext m [j6 [.int .u8 ((48+u%10:Nat):Int)]]) (id:=m.nx) (d:=48+u%10) y (by rw[l8 j];rfl);have i:∀z e ls env b,List.length z=1->J2 1 1 z e ls env b=ob (lay e ls env z) λa=>if a.length=1 then some (.slice b 0 1 1,some (j6 a))else none:=λz e ls env b h=>I5 1 z e ls env b h
 obtain⟨C,k,m',g,E⟩:=ac3 (l9 KW c n) c u Zs [UInt8.ofNat (48+u%10)] (ext m [j6 [.int .u8 ((48+u%10:Nat):Int)]]) uV c E2.ok ZD ZD Zs;refine⟨m',?_,E2.trans E⟩;have r:Lib.decDigits u=(if u<10 then[]else Lib.decDigits (u / 10))++[UInt8.ofNat (48+u%10)]:=by by_cases h:u<10;rw[cg h,NM h,aju h];rfl;rw[aE h,XD h]
 rw[r];have s:¬ (u:Int)<0:=Zs
 have f:EO .i64 (u:Int) 10=some (iV ((u%10:Nat):Int)):=l;generalize UInt8.ofNat (48+u%10)=ch at *;generalize u%10=d at *;generalize ((48+d:Nat):Int)=Z at *;rw[en f341];simp[f341,s,f,o,p,q,i,o9,g]
def ac5(G:Nat)(S:20001<=G):∀(k u:Nat),0<u->u<10^(k+1)->u<10000000000000000->∀(n:Nat) (m:cD),m.Ok->m.lim<=m.nx->∃m',l9 KW G (n+k+1) (.func 341) [iV (-(u:Int))] m=some [⟨.str (45::Lib.decDigits u),m'⟩]∧cE m m':=by
 intro k;induction k with
 |zero=>
  intro u y E I n m r J;have s:u<10:=by simpa using E
  obtain⟨A,B⟩:=Qj u s;have E2:=o8 r [j6 [.int .u8 ((48+u:Nat):Int)]];have C:=λx ls env o=>Et (x:=x) (ls:=ls) (env:=env) (M:=ext m [j6 [.int .u8 ((48+u:Nat):Int)]]) (id:=m.nx) (d:=48+u) o (by rw[l8 r];rfl);have w:=XC u;rw[aju s]at w;have O:kY (0 - -(u:Int))=(u:Int):=by rw[Z7 Zs Zs];omega
  have j:kY (u:Int)=(u:Int):=Z7 Zs Zs;have X:-(u:Int)<0:=Zs
  have p:-10 < -(u:Int):=Zs
  have t:(u:Int)<10:=Zs
  have Y:0<u:=y;have F:fZ [45] [UInt8.ofNat (48+u)]=some (.str [45,UInt8.ofNat (48+u)]):=Z4 ZZ;have l:∀z g ls env e,List.length z=1->J2 1 1 z g ls env e=ob (lay g ls env z) λa=>if a.length=1 then some (.slice e 0 1 1,some (j6 a))else none:=λz g ls env e h=>I5 1 z g ls env e h
  refine⟨_,?_,E2⟩;rw[NM s];generalize UInt8.ofNat (48+u)=ch at *;generalize ((48+u:Nat):Int)=Z at *;rw[en f341];simp[f341,w,j,p,Y,A,B,C,l,o9,F]
 |succ k ih=>
  intro u y E I n m r J;by_cases s:u<10;have Q:u<10^(k+1):=aP s (by
   have:=at1 (n:=10) ZS (show 1<=k+1 by omega);simpa using this)
  have:=ih u y Q I (n+1) m r J
  rwa [show n+1+k+1=n+(k+1)+1 from by omega]at this
  have E1:=o8 r [.void];obtain⟨f,P,E1'⟩:=ih (u / 10) Zs (by rw[ata]at E;omega) Zs n (ext m [.void]) E1.ok ZD;have K:(ext m [.void]).get m.nx=some .void:=by rw[l8 r];rfl
  have L:f.get m.nx=some .void:=by rw[E1'.old _ ZZ];exact K
  have o:m.nx<f.nx:=by have:=E1'.nx;simp at this;omega
  obtain⟨A,B⟩:=Qj (u%10) (ajq _ Zs);have H:(f.set m.nx (j6 [.int .u8 ((48+u%10:Nat):Int)])).get m.nx=some (j6 [.int .u8 ((48+u%10:Nat):Int)]):=by rw[cD.R9 E1'.ok o,cg rfl]
  have C:=λx ls env o=>Et (x:=x) (ls:=ls) (env:=env) (M:=f.set m.nx (j6 [.int .u8 ((48+u%10:Nat):Int)])) (id:=m.nx) (d:=48+u%10) o H;have R:∀(x:OF) (c:Nat) (d:j5->T j5->T j5) (k:DC) (D:G6) (b:Nat) (ls:cM) (env:T j5),x ls env=.slice m.nx 0 1 1->Oo x c d k D b ls env (f.set m.nx (j6 [.int .u8 ((48+u%10:Nat):Int)])) [f,ext m [.void]]=ob (dH x ls env (f.set m.nx (j6 [.int .u8 ((48+u%10:Nat):Int)]))) λv=>k D b (v::ls) (d v env) (f.set m.nx (j6 [.int .u8 ((48+u%10:Nat):Int)])) [f,ext m [.void]]:=λx c d k D b ls env h=>YW h (by rw[adY,L];rfl) (by rw[H];rfl);have w:=XC u;have N:=afw u Zs;have O:kY (0 - -((u%10:Nat):Int))=((u%10:Nat):Int):=by rw[Z7 Zs Zs];omega
  have j:kY ((u%10:Nat):Int)=((u%10:Nat):Int):=Z7 Zs Zs;have X:-(u:Int)<0:=Zs
  have p:¬ -10 < -(u:Int):=Zs
  have t:¬ (u:Int)<10:=Zs
  have V:=mo 15 (u / 10) (by have W:(10:Nat)^16=10000000000000000:=ZS
                             rw[W];omega)
  have F:fZ (45::Lib.decDigits (u / 10)) [UInt8.ofNat (48+u%10)]=some (.str (45::Lib.decDigits u)):=by rw[Z4 (by simp[Lib.decDigits_length];omega),XD s];rfl
  have l:∀z g ls env e,List.length z=1->J2 1 1 z g ls env e=ob (lay g ls env z) λa=>if a.length=1 then some (.slice e 0 1 1,some (j6 a))else none:=λz g ls env e h=>I5 1 z g ls env e h
  refine⟨f.set m.nx (j6 [.int .u8 ((48+u%10:Nat):Int)]),?_,⟨cD.Ok.set E1'.ok o _,ZD,by show f.lim=_;rw[E1'.lim];exact E1.lim,λi U=>by rw[cD.R9 E1'.ok o,aE Zs,E1'.old i ZD];exact E1.old i U⟩⟩;rw[show n+(k+1)+1=(n+k+1)+1 from by omega,en f341];generalize UInt8.ofNat (48+u%10)=ch at *;generalize u%10=d at *;generalize ((48+d:Nat):Int)=Z at *;generalize hq:u / 10=q at *;simp[f341,w,N,j,p,y,A,B,R,C,l,o9,F,P,K,L,isVoid,iC]
def afx(d:m.Ok)(c:m.lim<=m.nx)(x:Int)(f:Sm x)(n b:Nat)(a:20001<=b):∃m',l9 KW b (n+16) (.func 341) [iV x] m=some [⟨.str (Lib.itoa x),m'⟩]∧cE m m':=by
 unfold Sm at f;by_cases h:x<0;obtain⟨u,rfl⟩:∃u:Nat,x=-(u:Int):=⟨x.natAbs,Zs⟩;have e:(10:Nat)^16=10000000000000000:=ZS
 obtain⟨m',g,E⟩:=ac5 b a 15 u Zs (by rw[e];omega) Zs n m d c;refine⟨m',?_,E⟩;rw[g,Lib.itoa,cg h];simp;obtain⟨u,rfl⟩:∃u:Nat,x=(u:Int):=⟨x.toNat,Zs⟩;obtain⟨m',g,E⟩:=ac4 d c u Zs (n+15) b a;refine⟨m',?_,E⟩;rw[g,Lib.itoa,aE h];simp
def Zo(w:By)(a b:cQ):C9 w (a++b)=C9 w a++C9 [] b:=by simp[C9]
def ac6{xs:cQ}(hb:xs.length<20000)(p:∀n∈xs,Sm n)(w:By)(G:w.length<=100000)(n e:Nat)(f:20001<=e):∀(j i:Nat),i+j=xs.length->∀(m:cD) (a3:j5) (N:Nat),m.Ok->m.lim<=m.nx->U5 m v xs->j+1<=N->
   ∃m',I9 (λenv m k=>FM (l9 KW e (n+16)) e none env m k) N (nV6 (.str w) (iV (i:Int)) v a3 (.str (C9 w (xs.take i))) (.str [])) m []=some [⟨.exit 0,(nV6 (.str w) (iV (xs.length:Int)) v fV (.str (C9 w xs)) (.str [])),m',[],none⟩]∧cE m m':=by
 intro j;induction j with
 |zero=>
  intro i u m a3 N h l d t;obtain⟨N,rfl⟩:=sx N;obtain rfl:i=xs.length:=Zs
  have a:=d.len;refine⟨m,?_,cE.refl h⟩;rw[o7,P9 (aA _)];simp[FM,a]
 |succ j ih=>
  intro i u m a3 N h l d t;obtain⟨N,rfl⟩:=sx N;have b:i<xs.length:=Zs
  obtain⟨id,q,_,r⟩:=d.at b;have a:=d.len;have o:=p _ (ql b);obtain⟨C,c,E1⟩:=afx h l xs[i] o n e f;have x:=aH w (xs.take i) (λy B=>p y (adn B));have z:=KL o;have A:(xs.take i).length<=20000:=ZD
  have D:fZ (C9 w (xs.take i)) [32]=some (.str (C9 w (xs.take i)++[32])):=Z4 ZD;have F:fZ (C9 w (xs.take i)++[32]) (Lib.itoa xs[i])=some (.str (C9 w (xs.take (i+1)))):=by rw[KM b,Z4 ZD];simp
  have s:decide ((i:Int)<(xs.length:Int))=true:=co Zs;obtain⟨m',g,E⟩:=ih (i+1) Zs C tV N E1.ok (by rw[E1.lim];have:=E1.nx;omega) (d.ext E1) Zs;refine⟨m',?_,E1.trans E⟩;rw[o7,← g];simp[FM,s,b,a,q,r,c,D,F,I4 (i:=i) Zs]
def nP{xs:cQ}(h:m.Ok)(f:m.lim<=m.nx)(i:U5 m v xs)(hb:xs.length<20000)(l:∀n∈xs,Sm n)(w:By)(j:w.length<=100000)(n a:Nat)(c:20001<=a):∃m',l9 KW a (n+17) (.func 227) [.str w,v] m=some [⟨.str (C9 w xs),m'⟩]∧cE m m':=by
 obtain⟨m',g,E⟩:=ac6 (v:=v) hb l w j n a c xs.length 0 Zs m uV a h f i Zs;have d:C9 w (xs.take 0)=w:=by rw[at7,Gc]
 rw[d]at g;have e:I9 (λb m k=>FM (l9 KW a (n+16)) a none b m k) a (nV6 (.str w) iZ v uV (.str w) (.str [])) m []=_:=g;refine⟨m',?_,E⟩;rw[en f227];simp[f227,e]
structure TxH(m:cD)(r:FR)(n fu:Nat)(m1:cD):Prop where
 g:l9 KW fu (n+17) (.func 227) [.str [102,97,99,116],.slice (m.nx+1) 0 4 4] (ext m [j6 r.f.cells,.cells 1 4 (T.ofList [[iV r.f.room],[iV r.f.no],[iV r.f.known],[iV r.f.kind]])])=some [⟨.str (C9 K5 (G9 r)),m1⟩]
 E:cE m m1
 q:m1.get m.nx=some (j6 r.f.cells)
 nx:m.nx+2<=m1.nx
 s1:fZ (C9 K5 (G9 r)) [10]=some (.str (C9 K5 (G9 r)++[10]))
 s2:fZ (C9 K5 (G9 r)++[10]) (U7 r)=some (.str (C9 K5 (G9 r)++10::U7 r))
 s3:fZ (C9 K5 (G9 r)++10::U7 r) [10]=some (.str (C8 r))
def txh(a:m.Ok)(e:m.lim<=m.nx)(d:r.valid=true)(n b:Nat)(c:20001<=b):∃m1,TxH m r n b m1:=by
 let L:List Y9:=[j6 r.f.cells,.cells 1 4 (T.ofList [[iV r.f.room],[iV r.f.no],[iV r.f.known],[iV r.f.kind]])]
 have E0:=o8 a L;obtain⟨m1,g,E1⟩:=nP (v:=.slice (m.nx+1) 0 4 4) (xs:=G9 r) (I7 a L) (by simp[L];omega) (gJ (xs:=G9 r) (by rw[r9 a];rfl) (by simp[L]) rfl) (by simp[G9]) (nK d) K5 (by simp[K5]) n b c;have h:=jM d;have i:=kT d;refine⟨m1,g,E0.trans E1,by rw[E1.old _ (by simp[L]),l8 a];rfl,by have:=E1.nx;simpa[L]using this,Z4 ZD,?_,?_⟩;rw[Z4 ZD];simp;rw[Z4 ZD];simp[C8]
def aiD(o:m.Ok)(l:m.lim<=m.nx)(A:J9 m r)(p:r.valid=true)(i:r.f.kind=1)(n b:Nat)(c:20001<=b):
   ∃m',l9 KW b (n+18) (.func 226) [.agg r.f.cells] m=some [⟨.str (C8 r),m'⟩]∧cE m m':=by
 obtain⟨a,h⟩:=txh o l p n b c;have t:=gM p;have s:U7 r=C9 sw [r.f.flo,r.f.fhi]:=by rw[U7,cg i]
 have d:a.lim<=a.nx:=by rw[h.E.lim];have:=h.E.nx;omega
 have E2:=o8 h.E.ok [.cells 1 2 (T.ofList [[iV r.f.flo],[iV r.f.fhi]])];obtain⟨u,e,E3⟩:=nP (v:=.slice a.nx 0 2 2) (xs:=[r.f.flo,r.f.fhi]) E2.ok (by rw[E2.lim];have:=E2.nx;omega) (gJ (xs:=[r.f.flo,r.f.fhi]) (by rw[l8 h.E.ok];rfl) ZZ rfl) ZZ (by simpa using t.k1 i) sw (by simp[sw]) n b c;have e:l9 KW b (n+17) (.func 227) [.str [102,105,108,109],.slice a.nx 0 2 2] _=_:=e;rw[← s]at e;refine⟨u,?_,(h.E.trans E2).trans E3⟩;obtain⟨g,_,q,B,x,y,z⟩:=h;have w:∀k,(ext a k).get m.nx=some (j6 r.f.cells):=λk=>by rw[H6 ‹cE m a›.ok _ Zs];exact q
 rw[i]at g;have j:=‹cE m a›.ok;rw[en f226];simp (maxSteps:=3000000) [f226,dD,fA,fM,ay o l,jf,aW,bH,bR,dh j d,Q8,aJ,aI,i,g,q,w,x,y,z,e]
def aiE(o:m.Ok)(l:m.lim<=m.nx)(A:J9 m r)(p:r.valid=true)(i:r.f.kind=2)(n b:Nat)(c:20001<=b):
   ∃m',l9 KW b (n+18) (.func 226) [.agg r.f.cells] m=some [⟨.str (C8 r),m'⟩]∧cE m m':=by
 obtain⟨a,h⟩:=txh o l p n b c;have t:=gM p;have s:U7 r=C9 mD [r.f.gid,r.f.made,r.f.nom,r.f.tlo,r.f.thi,r.f.gn,r.f.gd,r.f.wear]:=by rw[U7,aE (show¬ r.f.kind=1 by omega),cg i]
 have d:a.lim<=a.nx:=by rw[h.E.lim];have:=h.E.nx;omega
 have E2:=o8 h.E.ok [j6 [iV r.f.gid,iV r.f.made,iV r.f.nom,iV r.f.tlo,iV r.f.thi,iV r.f.gn,iV r.f.gd,iV r.f.wear],.cells 1 8 (T.ofList [[iV r.f.gid],[iV r.f.made],[iV r.f.nom],[iV r.f.tlo],[iV r.f.thi],[iV r.f.gn],[iV r.f.gd],[iV r.f.wear]])];obtain⟨u,e,E3⟩:=nP (v:=.slice (a.nx+1) 0 8 8) (xs:=[r.f.gid,r.f.made,r.f.nom,r.f.tlo,r.f.thi,r.f.gn,r.f.gd,r.f.wear]) E2.ok (by rw[E2.lim];have:=E2.nx;omega) (gJ (xs:=[r.f.gid,r.f.made,r.f.nom,r.f.tlo,r.f.thi,r.f.gn,r.f.gd,r.f.wear]) (by rw[r9 h.E.ok];rfl) ZZ rfl) ZZ (by simpa using t.k2 i) mD (by simp[mD]) n b c;have e:l9 KW b (n+17) (.func 227) [.str [103,97,117,103,101],.slice (a.nx+1) 0 8 8] _=_:=e;rw[← s]at e;refine⟨u,?_,(h.E.trans E2).trans E3⟩;obtain⟨g,_,q,B,x,y,z⟩:=h;have w:∀k,(ext a k).get m.nx=some (j6 r.f.cells):=λk=>by rw[H6 ‹cE m a›.ok _ Zs];exact q
 rw[i]at g;have j:=‹cE m a›.ok;rw[en f226];simp (maxSteps:=3000000) [f226,dD,fA,fM,ay o l,jf,aW,bH,bR,D8,dh j d,Q8,aJ,aI,i,g,q,w,x,y,z,e,-NC]
def aiF(o:m.Ok)(l:m.lim<=m.nx)(A:J9 m r)(p:r.valid=true)(i:r.f.kind=3)(n b:Nat)(c:20001<=b):
   ∃m',l9 KW b (n+18) (.func 226) [.agg r.f.cells] m=some [⟨.str (C8 r),m'⟩]∧cE m m':=by
 obtain⟨a,h⟩:=txh o l p n b c;have t:=gM p;have s:U7 r=C9 CG [r.f.ug,r.f.ud]:=by rw[U7,aE (show¬ r.f.kind=1 by omega),aE (show¬ r.f.kind=2 by omega),cg i]
 have d:a.lim<=a.nx:=by rw[h.E.lim];have:=h.E.nx;omega
 have E2:=o8 h.E.ok [.cells 1 2 (T.ofList [[iV r.f.ug],[iV r.f.ud]])];obtain⟨u,e,E3⟩:=nP (v:=.slice a.nx 0 2 2) (xs:=[r.f.ug,r.f.ud]) E2.ok (by rw[E2.lim];have:=E2.nx;omega) (gJ (xs:=[r.f.ug,r.f.ud]) (by rw[l8 h.E.ok];rfl) ZZ rfl) ZZ (by simpa using t.k3 i) CG (by simp[CG]) n b c;have e:l9 KW b (n+17) (.func 227) [.str [117,115,101],.slice a.nx 0 2 2] _=_:=e;rw[← s]at e;refine⟨u,?_,(h.E.trans E2).trans E3⟩;obtain⟨g,_,q,B,x,y,z⟩:=h;have w:∀k,(ext a k).get m.nx=some (j6 r.f.cells):=λk=>by rw[H6 ‹cE m a›.ok _ Zs];exact q
 rw[i]at g;have j:=‹cE m a›.ok;rw[en f226];simp (maxSteps:=3000000) [f226,dD,fA,fM,ay o l,jf,aW,bH,bR,dh j d,Q8,aJ,aI,i,g,q,w,x,y,z,e]
def aiG(o:m.Ok)(l:m.lim<=m.nx)(A:J9 m r)(p:r.valid=true)(i:r.f.kind=4)(n b:Nat)(c:20001<=b):
   ∃m',l9 KW b (n+18) (.func 226) [.agg r.f.cells] m=some [⟨.str (C8 r),m'⟩]∧cE m m':=by
 obtain⟨a,h⟩:=txh o l p n b c;have t:=gM p;have s:U7 r=C9 sD [r.f.lg,r.f.ll,r.f.lh,r.f.lw]:=by rw[U7,aE (show¬ r.f.kind=1 by omega),aE (show¬ r.f.kind=2 by omega),aE (show¬ r.f.kind=3 by omega),cg i]
 have d:a.lim<=a.nx:=by rw[h.E.lim];have:=h.E.nx;omega
 have E2:=o8 h.E.ok [.cells 1 4 (T.ofList [[iV r.f.lg],[iV r.f.ll],[iV r.f.lh],[iV r.f.lw]])];obtain⟨u,e,E3⟩:=nP (v:=.slice a.nx 0 4 4) (xs:=[r.f.lg,r.f.ll,r.f.lh,r.f.lw]) E2.ok (by rw[E2.lim];have:=E2.nx;omega) (gJ (xs:=[r.f.lg,r.f.ll,r.f.lh,r.f.lw]) (by rw[l8 h.E.ok];rfl) ZZ rfl) ZZ (by simpa using t.k4 i) sD (by simp[sD]) n b c;have e:l9 KW b (n+17) (.func 227) [.str [108,111,97,110],.slice a.nx 0 4 4] _=_:=e;rw[← s]at e;refine⟨u,?_,(h.E.trans E2).trans E3⟩;obtain⟨g,_,q,B,x,y,z⟩:=h;have w:∀k,(ext a k).get m.nx=some (j6 r.f.cells):=λk=>by rw[H6 ‹cE m a›.ok _ Zs];exact q
 rw[i]at g;have j:=‹cE m a›.ok;rw[en f226];simp (maxSteps:=3000000) [f226,dD,fA,fM,ay o l,jf,aW,bH,bR,dh j d,Q8,aJ,aI,i,g,q,w,x,y,z,e]
def aiH(o:m.Ok)(l:m.lim<=m.nx)(A:J9 m r)(p:r.valid=true)(i:r.f.kind=7)(n b:Nat)(c:20001<=b):
   ∃m',l9 KW b (n+18) (.func 226) [.agg r.f.cells] m=some [⟨.str (C8 r),m'⟩]∧cE m m':=by
 obtain⟨a,h⟩:=txh o l p n b c;have t:=gM p;have s:U7 r=C9 eD [r.f.tr,r.f.tn]:=by rw[U7,aE (show¬ r.f.kind=1 by omega),aE (show¬ r.f.kind=2 by omega),aE (show¬ r.f.kind=3 by omega),aE (show¬ r.f.kind=4 by omega),aE (show¬ r.f.kind=5 by omega),aE (show¬ r.f.kind=6 by omega),cg i]
 have d:a.lim<=a.nx:=by rw[h.E.lim];have:=h.E.nx;omega
 have E2:=o8 h.E.ok [.cells 1 2 (T.ofList [[iV r.f.tr],[iV r.f.tn]])];obtain⟨u,e,E3⟩:=nP (v:=.slice a.nx 0 2 2) (xs:=[r.f.tr,r.f.tn]) E2.ok (by rw[E2.lim];have:=E2.nx;omega) (gJ (xs:=[r.f.tr,r.f.tn]) (by rw[l8 h.E.ok];rfl) ZZ rfl) ZZ (by simpa using t.k7 i) eD (by simp[eD]) n b c;have e:l9 KW b (n+17) (.func 227) [.str [119,105,116,104,100,114,97,119],.slice a.nx 0 2 2] _=_:=e;rw[← s]at e;refine⟨u,?_,(h.E.trans E2).trans E3⟩;obtain⟨g,_,q,B,x,y,z⟩:=h;have w:∀k,(ext a k).get m.nx=some (j6 r.f.cells):=λk=>by rw[H6 ‹cE m a›.ok _ Zs];exact q
 rw[i]at g;have j:=‹cE m a›.ok;rw[en f226];simp (maxSteps:=3000000) [f226,dD,fA,fM,ay o l,jf,aW,bH,bR,dh j d,Q8,aJ,aI,i,g,q,w,x,y,z,e]
end Go.Proofs.YtpmfjipaheolgaaGreatDoor.TT
