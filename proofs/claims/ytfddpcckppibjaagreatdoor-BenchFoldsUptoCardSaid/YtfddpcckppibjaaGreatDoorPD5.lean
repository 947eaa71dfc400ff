/- Values and operators, and the evaluation of an expression, walked; conditions: the memory holds what the arguments say. -/
import Derived.Test.YtfddpcckppibjaaGreatDoorPD4
set_option linter.all false
namespace Go.Proofs.YtfddpcckppibjaaGreatDoor.TT
open Go Go.AM
noncomputable section
def SN (least:Int)(p:Int×List Tok):List Tok:=if Yl p.1<least then (3,[40])::(p.2 ++ [(3,[41])]) else p.2
def arw (k:Int):Tok:=(akp (sgn k),sgn k)
def Yx:List (List Tok)->List Tok
 | []=>[]
 | [a]=>a
 | a::b::l=>a++(3,[44])::Yx (b::l)
def afF (k n:Int)(s:By)(l:List (Int×List Tok)):List Tok:=
 if k=1 then [(2,Lib.itoa n)] else if k=2 then [(1,s)] else if k=3 then (1,s)::(3,[40])::(Yx (l.map (·.2)) ++ [(3,[41])])
 else if k=4 then (3,[45])::SN 6 (l.getD 0 (0,[])) else if k=5 then (1,[110,111,116])::SN 2 (l.getD 0 (0,[]))
 else SN (if Yl k=3 then 4 else Yl k) (l.getD 0 (0,[]))++(arw k::SN (Yl k+1) (l.getD 1 (0,[])))
mutual
def tkE:Ex->List Tok
 | .mk k n s a=>afF k n s (tkL a)
def tkL:List Ex->List (Int×List Tok)
 | []=>[]
 | e::l=>(Yg e,tkE e)::tkL l
end
def afG (lv:Nat)(t:List Tok):Prop:=∀l:Nat,lv<=l->l<=7->pOp (l:Int) t=none
theorem afG.up {a b:Nat}{t:List Tok}(h:afG a t)(d:a<=b):afG b t:=λl e c=>h l (by omega) c
end
noncomputable section
end
noncomputable section
theorem SQ {k n:Int}{s:By}{a:List Ex}(h:cZ (.mk k n s a)=true)(f:6<=k)(g:k<=18):n=0∧s=[]∧∃x y,a=[x,y]∧cZ x=true∧cZ y=true:=by
 simp only [cZ,Hl,decide_eq_true_eq,adi] at h;obtain⟨⟨⟨⟨l,b⟩,d⟩,e⟩,c⟩:=h;have j:aH k=2:=by unfold aH;rw [if_neg (by omega),if_neg (by omega),if_neg (by omega),if_pos ⟨f,g⟩]
 rw [if_neg (by omega)] at d e;rw [j] at b;have i:a.length=2:=by rcases b with b | b<;>omega
 match a,i with
 | [x,y],_=>simp only [Y0,Hl] at c;exact⟨by simpa using d,by simpa using e,x,y,rfl,c.1,c.2.1⟩
theorem qy {k n:Int}{s:By}{a:List Ex}(h:cZ (.mk k n s a)=true)(f:k=4∨k=5):n=0∧s=[]∧∃x,a=[x]∧cZ x=true:=by
 simp only [cZ,Hl,decide_eq_true_eq,adi] at h;obtain⟨⟨⟨⟨j,b⟩,c⟩,d⟩,e⟩:=h;have i:aH k=1:=by unfold aH;rw [if_neg (by omega),if_neg (by omega),if_pos f]
 rw [if_neg (by omega)] at c d;rw [i] at b;have g:a.length=1:=by rcases b with b | b<;>omega
 match a,g with
 | [x],_=>simp only [Y0,Hl] at e;exact⟨by simpa using c,by simpa using d,x,rfl,e.1⟩
theorem OM {k n:Int}{s:By}{a:List Ex}(h:cZ (.mk k n s a)=true):k=1∨k=2∨k=3∨k=4∨k=5∨(6<=k∧k<=18):=by simp only [cZ,Hl,decide_eq_true_eq,adi] at h;obtain⟨⟨⟨⟨b,d⟩,e⟩,f⟩,g⟩:=h;unfold aH at b;by_cases c:k=1∨k=2∨k=3∨k=4∨k=5∨(6<=k∧k<=18);exact c;rw [if_neg (by omega),if_neg (by omega),if_neg (by omega),if_neg (by omega)] at b;exact absurd rfl b
theorem pq {k n:Int}{s:By}{a:List Ex}(h:cZ (.mk k n s a)=true)(f:k=1∨k=2):a=[]∧(k=1->0<=n∧n<=9007199254740992∧s=[])∧(k=2->n=0∧Ai s=true):=by
 simp only [cZ,Hl,decide_eq_true_eq,adi] at h;obtain⟨⟨⟨⟨i,e⟩,b⟩,d⟩,j⟩:=h;have g:aH k=0:=by unfold aH;rw [if_neg (by omega),if_pos f]
 rw [g] at e;refine⟨?_,λc=>?_,λc=>?_⟩;rcases e with e | e;omega;exact aaB.1 (by omega);rw [if_pos c] at b;rw [if_neg (by omega)] at d;simp only [Hl,decide_eq_true_eq] at b d;exact⟨b.1,b.2,d⟩;rw [if_neg (by omega)] at b;rw [if_pos (.inl c)] at d;exact⟨by simpa using b,d⟩
end
def jL (n:Int):Bool:=decide (-9007199254740992<=n)&&decide (n<=9007199254740992)
def pR (b:Bool):Int:=if b then 1 else 0
def JH (n:Int):Int×Int:=if jL n=true then (n,0) else (0,3)
def bM (x:Int):Int:=max x (-x)
def Gh (x y:Int):Int×Int:=if 9007199254740992<bM x*bM y then (0,3) else (x*y,0)
def dvB (x y:Int):Int×Int:=if y=0 then (0,5) else (x.tdiv y,0)
def mdB (x y:Int):Int×Int:=if y=0 then (0,5) else (x.tmod y,0)
def Dp (k a b:Int):Bool:=if k=11 then decide (a<b) else if k=12 then decide (a<=b) else if k=13 then decide (b<a) else if k=14 then decide (b<=a) else if k=15 then decide (a=b) else !decide (a=b)
def BH (k a b:Int):Int×Int:=
 if k=6 then Gh a b else if k=7 then dvB a b else if k=8 then mdB a b else if k=9 then JH (a+b) else if k=10 then JH (a-b) else (pR (Dp k a b),0)
def nk (a b:Int):Int:=if a=0 then b else a
def JI (k:Int)(a b:Int×Int):Int×Int:=
 if k=4 then (-a.1,a.2) else if k=5 then (pR (decide (a.1=0)),a.2)
 else if k=17∨k=18 then (if (!decide (a.1=0))=decide (k=18) then (pR (!decide (a.1=0)),a.2) else (pR (!decide (b.1=0)),nk a.2 b.2))
 else ((BH k a.1 b.1).1,nk (nk a.2 b.2) (BH k a.1 b.1).2)
def VF:List (List UInt8×Int)->List UInt8->Int
 | [],_=>0
 | (x,n)::l,s=>if x=s then n else VF l s
section
variable (V:List (List UInt8×Int))
mutual
def iq:Ex->Int×Int
 | .mk k n s a=>if k=1 then (n,0) else if k=2 then (VF V s,0) else JI k ((vlL a).getD 0 (0,0)) ((vlL a).getD 1 (0,0))
def vlL:List Ex->List (Int×Int)
 | []=>[]
 | e::l=>iq e::vlL l
end
end
theorem qz {x:Int}(h:jL x=true):bM x<=9007199254740992:=by simp only [jL,Hl,decide_eq_true_eq] at h;unfold bM;omega
theorem LH (x y:Int):bM (x*y)=bM x*bM y:=by
 have e:∀z:Int,bM z=(z.natAbs:Int):=λz=>by unfold bM;omega
 rw [e,e,e,Int.natAbs_mul];simp
theorem Gi {x:Int}(h:bM x<=9007199254740992):jL x=true:=by unfold bM at h;simp only [jL,Hl,decide_eq_true_eq];omega
theorem LJ (b:Bool):jL (pR b)=true:=by cases b<;>decide
theorem Gj (a b:Int)(h:b≠0):bM (a.tdiv b)<=bM a:=by
 have e:∀z:Int,bM z=(z.natAbs:Int):=λz=>by unfold bM;omega
 rw [e,e,Int.natAbs_tdiv];exact Int.ofNat_le.2 (ak4 _ _)
theorem OO (a b:Int):bM (a.tmod b)<=bM a:=by
 have e:∀z:Int,bM z=(z.natAbs:Int):=λz=>by unfold bM;omega
 rw [e,e,Int.natAbs_tmod];exact Int.ofNat_le.2 (Nat.mod_le _ _)
theorem afH (k:Int){a b:Int}(e:jL a=true)(hb:jL b=true):jL (BH k a b).1=true:=by
 have c:=qz e;have d:∀n,jL (JH n).1=true:=λn=>by unfold JH;split<;>first | assumption | decide
 unfold BH;split;unfold Gh;split;decide;rename_i h;exact Gi (by rw [LH];omega);split;unfold dvB;split;decide;rename_i h;exact Gi (aj9 (Gj a b h) c);split;unfold mdB;split;decide;exact Gi (aj9 (OO a b) c);split;exact d _;split;exact d _;exact LJ _
theorem afI (k:Int){a b:Int×Int}(c:jL a.1=true)(hb:jL b.1=true):jL (JI k a b).1=true:=by
 unfold JI;split;simp only [jL,Hl,decide_eq_true_eq] at *;omega;split;exact LJ _;split;split<;>exact LJ _
 exact afH k c hb
theorem afJ {V:List (List UInt8×Int)}(h:∀p∈V,jL p.2=true)(s:List UInt8):jL (VF V s)=true:=by
 induction V with
 | nil=>rw [VF];decide
 | cons p l ih=>obtain⟨x,n⟩:=p;rw [VF];split;exact h (x,n) (by simp);exact ih λq a=>h q (by simp [a])
def Yy:Ex->Prop
 | .mk k n s a=>(k=1->jL n=true)∧nuL a
where nuL:List Ex->Prop
 | []=>True
 | e::l=>Yy e∧nuL l
mutual
theorem QY {V:List (List UInt8×Int)}(hV:∀p∈V,jL p.2=true):∀e:Ex,Yy e->jL (iq V e).1=true
 | .mk k n s a,h=>by
  rw [Yy] at h;rw [iq];split;rename_i hk;exact h.1 hk;split;exact afJ hV s;have hl:=Yz hV a h.2;have hg:∀i,jL ((vlL V a).getD i (0,0)).1=true:=λi=>by
   rw [Y8];cases hx:(vlL V a)[i]? with
   | none=>decide
   | some x=>exact hl x (Y2 hx)
  exact afI k (hg 0) (hg 1)
theorem Yz {V:List (List UInt8×Int)}(hV:∀p∈V,jL p.2=true):∀l:List Ex,Yy.nuL l->∀x∈vlL V l,jL x.1=true
 | [],_,x,hx=>by rw [vlL] at hx;cases hx
 | e::l,h,x,hx=>by rw [Yy.nuL] at h;rw [vlL,Z5] at hx;rcases hx with rfl | hx;exact QY hV e h.1;exact Yz hV l h.2 x hx
end
set_option maxRecDepth 100000
set_option maxHeartbeats 8000000
theorem afK (x:Int)(n fu:Nat)(m:Mem):l7 KW fu (n+1) (.func 32) [iV x] m=some [⟨.bool (jL x),m⟩]:=by rw [enter (sf:=f32) rfl rfl];by_cases h:-9007199254740992<=x<;>simp [f32,jL,h]
theorem QZ (b:Bool)(n fu:Nat)(m:Mem):l7 KW fu (n+1) (.func 70) [.bool b] m=some [⟨iV (pR b),m⟩]:=by rw [enter (sf:=f70) rfl rfl];cases b<;>simp [f70,pR]
theorem SS (x:Int)(n fu:Nat)(m:Mem):l7 KW fu (n+2) (.func 120) [iV x] m=some [⟨.tuple [.int .i64 (JH x).1,.int .i64 (JH x).2],m⟩]:=by have g:=afK x n fu m;rw [enter (sf:=f120) rfl rfl];unfold JH;cases h:jL x;rw [h] at g;simp [f120,g];rw [h] at g;simp [f120,g]
theorem SV {b:Int}(h:b≠0)(r:Option d9):Tn b r=r:=by
 match b,h with
 | .ofNat 0,h=>exact absurd rfl h
 | .ofNat (n+1),_=>rfl
 | .negSucc n,_=>rfl
theorem LK {a b:Int}(h:b≠0)(e:jL a=true):DW .i64 a b=some (iV (a.tdiv b)):=by have c:=Gj a b h;have d:=qz e;unfold bM at c d;show Tn b (some (.int .i64 (iP (a.tdiv b))))=_;rw [SV h,K6 (by omega) (by omega)]
theorem YA {a b:Int}(h:b≠0):Tp .i64 a b=some (iV (a.tmod b)):=by show Tn b (some (iV (a.tmod b)))=_;rw [SV h]
theorem SX (x:Int):mm2 true (iV x) (iV (-x))=some (iV (bM x)):=by show some (d9.int .i64 (bi true (bi (kQ x (-x)) (-x) x) (bi (kQ (-x) x) (-x) x)))=_;rw [U4,iA];unfold bM;by_cases h:x < -x;rw [decide_eq_true h,U4];congr 2;omega;rw [decide_eq_false h,P9];congr 2;omega
theorem SY {y:Int}(h:0<y):Int.tdiv 9007199254740992 y=9007199254740992 / y:=Int.tdiv_eq_ediv_of_nonneg (by omega)
theorem LM {x y:Int}(h:0<y):(9007199254740992 / y<x)↔9007199254740992<x*y:=by rw [Int.ediv_lt_iff_lt_mul h]
theorem abC {a b:Int}(g:jL a=true)(hb:jL b=true)(n fu:Nat)(m:Mem):l7 KW fu (n+1) (.func 116) [iV a,iV b] m=some [⟨.tuple [.int .i64 (Gh a b).1,.int .i64 (Gh a b).2],m⟩]:=by
 rw [enter (sf:=f116) rfl rfl];have o:=qz g;have p:=qz hb;simp only [jL,Hl,decide_eq_true_eq] at g hb;by_cases h1:a=0;subst h1;have e:Gh 0 b=(0,0):=by unfold Gh bM;simp
 rw [e];simp [f116];by_cases h2:b=0;subst h2;have e:Gh a 0=(0,0):=by unfold Gh bM;simp
 rw [e];simp [f116,h1];have j:lY .i64 (-a)=-a:=K6 (n:=-a) (by omega) (by omega);have k:lY .i64 (-b)=-b:=K6 (n:=-b) (by omega) (by omega);have h:=SX a;have i:=SX b;have c:0<bM b:=by unfold bM;omega
 have q:DW .i64 9007199254740992 (bM b)=some (iV (9007199254740992 / bM b)):=by rw [LK (by omega) (by decide),SY c]
 by_cases h3:9007199254740992<bM a*bM b;have e:Gh a b=(0,3):=by unfold Gh;rw [if_pos h3]
 have d:decide (9007199254740992 / bM b<bM a)=true:=decide_eq_true ((LM c).2 h3);rw [e];simp [f116,h1,h2,Tt,yR,j,k,h,i,q,d,Ak];have e:Gh a b=(a*b,0):=by unfold Gh;rw [if_neg h3]
 have d:decide (9007199254740992 / bM b<bM a)=false:=decide_eq_false λx=>h3 ((LM c).1 x);have f:=LH a b;have l:Mr .i64 a b=some (iV (a*b)):=by show some (d9.int .i64 (iP (a*b)))=_;rw [K6 (by unfold bM at f h3;omega) (by unfold bM at f h3;omega)]
 rw [e];simp [f116,h1,h2,Tt,yR,j,k,h,i,q,d,Ak,l]
theorem abD {a b:Int}(h:b≠0)(c:jL a=true)(n fu:Nat)(m:Mem):l7 KW fu (n+1) (.func 117) [iV a,iV b] m=some [⟨iV (a.tdiv b),m⟩]:=by have q:=LK h c;rw [enter (sf:=f117) rfl rfl];simp [f117,q]
theorem abE {a b:Int}(h:b≠0)(n fu:Nat)(m:Mem):l7 KW fu (n+1) (.func 118) [iV a,iV b] m=some [⟨iV (a.tmod b),m⟩]:=by have q:=YA (a:=a) h;rw [enter (sf:=f118) rfl rfl];simp [f118,q]
theorem abF {a b:Int}(c:jL a=true)(hb:jL b=true)(n fu:Nat)(m:Mem):l7 KW fu (n+3) (.func 119) [iV a,iV b] m=some [⟨.tuple [.int .i64 (JH (a+b)).1,.int .i64 (JH (a+b)).2],m⟩]:=by simp only [jL,Hl,decide_eq_true_eq] at c hb;have w:iP (a+b)=a+b:=K6 (by omega) (by omega);have g:=SS (a+b) n fu m;rw [enter (sf:=f119) rfl rfl];simp [f119,w,g]
theorem abG {a b:Int}(c:jL a=true)(hb:jL b=true)(n fu:Nat)(m:Mem):l7 KW fu (n+3) (.func 121) [iV a,iV b] m=some [⟨.tuple [.int .i64 (JH (a-b)).1,.int .i64 (JH (a-b)).2],m⟩]:=by
 simp only [jL,Hl,decide_eq_true_eq] at c hb;have w:rT .i64 a b=some (iV (a-b)):=by show some (d9.int .i64 (iP (a-b)))=_;rw [K6 (by omega) (by omega)]
 have d:iP (a-b)=a-b:=K6 (by omega) (by omega);have g:=SS (a-b) n fu m;rw [enter (sf:=f121) rfl rfl];simp [f121,w,d,g]
theorem abH (a b:Int)(n fu:Nat)(m:Mem):l7 KW fu (n+1) (.func 122) [iV a,iV b] m=some [⟨.bool (Dp 11 a b),m⟩]:=by rw [enter (sf:=f122) rfl rfl];simp [f122,Dp]
theorem abI (a b:Int)(n fu:Nat)(m:Mem):l7 KW fu (n+1) (.func 123) [iV a,iV b] m=some [⟨.bool (Dp 12 a b),m⟩]:=by rw [enter (sf:=f123) rfl rfl];simp [f123,Dp]
theorem abJ (a b:Int)(n fu:Nat)(m:Mem):l7 KW fu (n+1) (.func 124) [iV a,iV b] m=some [⟨.bool (Dp 13 a b),m⟩]:=by rw [enter (sf:=f124) rfl rfl];simp [f124,Dp]
theorem abK (a b:Int)(n fu:Nat)(m:Mem):l7 KW fu (n+1) (.func 125) [iV a,iV b] m=some [⟨.bool (Dp 14 a b),m⟩]:=by rw [enter (sf:=f125) rfl rfl];simp [f125,Dp]
theorem abL (a b:Int)(n fu:Nat)(m:Mem):l7 KW fu (n+1) (.func 126) [iV a,iV b] m=some [⟨.bool (Dp 15 a b),m⟩]:=by rw [enter (sf:=f126) rfl rfl];simp [f126,Dp]
theorem abM (a b:Int)(n fu:Nat)(m:Mem):l7 KW fu (n+1) (.func 127) [iV a,iV b] m=some [⟨.bool (Dp 16 a b),m⟩]:=by rw [enter (sf:=f127) rfl rfl];simp [f127,Dp]
theorem wG {m:Mem}{p g:Nat}{a b:Int}{r:Bool}(e:m.get p=some (l9 [.func (.func g) [] []])){n fu:Nat}(d:l7 KW fu (n+1) (.func g) [iV a,iV b] m=some [⟨.bool r,m⟩]):
  l7 KW fu (n+2) (.func 113) [iV a,iV b,.ptr p 0] m=some [⟨.tuple [iV (pR r),iV 0],m⟩]:=by
 have c:=QZ r n fu m;rw [enter (sf:=f113) rfl rfl];simp [f113,e,d,c]
theorem Ta {m:Mem}{p g:Nat}{a b:Int}{r:Int}(d:m.get p=some (l9 [.func (.func g) [] []])){n fu:Nat}(c:b≠0->l7 KW fu (n+1) (.func g) [iV a,iV b] m=some [⟨iV r,m⟩]):
  l7 KW fu (n+2) (.func 115) [iV a,iV b,.ptr p 0] m=some [⟨.tuple [iV (if b=0 then 0 else r),iV (if b=0 then 5 else 0)],m⟩]:=by
 rw [enter (sf:=f115) rfl rfl];by_cases h:b=0;simp [f115,h];have c:=c h;simp [f115,h,d,c]
theorem wH {m:Mem}(b:m.Ok)(a:m.lim<=m.nx)(g:Nat)(n fu:Nat):l7 KW fu (n+1) (.func 112) [.func (.func g) [] []] m=some [⟨.func (.func 113) [] [.ptr m.nx 0],ext m [l9 [.func (.func g) [] []]]⟩]:=by rw [enter (sf:=f112) rfl rfl];simp [f112,P6 b a,u7]
theorem Tc {m:Mem}(b:m.Ok)(a:m.lim<=m.nx)(g:Nat)(n fu:Nat):l7 KW fu (n+1) (.func 114) [.func (.func g) [] []] m=some [⟨.func (.func 115) [] [.ptr m.nx 0],ext m [l9 [.func (.func g) [] []]]⟩]:=by rw [enter (sf:=f114) rfl rfl];simp [f114,P6 b a,u7]
def Zz:List (Int×d9)->Int->Option d9
 | [],_=>none
 | p::l,k=>if k=p.1 then some p.2 else Zz l k
noncomputable def nu (L:List (Int×d9)):List (d9×d9):=L.map λp=>(.int .i64 p.1,p.2)
theorem Af (a b:Int):N9 (iV a) (iV b)=some (decide (a=b)):=by show some (bU a b)=_;rw [gy];congr 1
theorem OP (z:d9)(k:Int):∀(L:List (Int×d9)) (i:Nat),ob (findKey N9 (iV k) (nu L) i) (λr=>found false z r)=some ((Zz L k).getD z)
 | [],i=>rfl
 | p::L,i=>by show ob (ob (N9 (iV k) (.int .i64 p.1)) λb=>bi b (some (some (i,p.2))) (findKey N9 (iV k) (nu L) (i+1))) (λr=>found false z r)=_;rw [Af,L8,Zz];by_cases h:k=p.1;rw [if_pos h,decide_eq_true h];rfl;rw [if_neg h,decide_eq_false h,P9,OP z k L (i+1)]
theorem YB (z:d9)(k:Int)(L:List (Int×d9)){b:Option P8}(hb:b=some (.map (nu L))):SK b N9 1 z false (iV k)=some ((Zz L k).getD z):=by
 subst hb;cases L with
 | nil=>show ob (ob (N9 (iV k) (iV k)) λ_=>some none) (λr=>found false z r)=_;rw [Af];rfl
 | cons p L=>exact OP z k (p::L) 0
theorem Gl (s:Int):∀(L:List (Int×d9)) (i:Nat),Zz L s=none->findKey N9 (iV s) (nu L) i=some none
 | [],i,_=>rfl
 | p::L,i,h=>by rw [Zz] at h;by_cases hs:s=p.1;rw [if_pos hs] at h;cases h;rw [if_neg hs] at h;show ob (N9 (iV s) (.int .i64 p.1)) (λb=>bi b (some (some (i,p.2))) (findKey N9 (iV s) (nu L) (i+1)))=_;rw [Af,L8,decide_eq_false hs,P9,Gl s L (i+1) h]
theorem afL {M:Mem}{q:Nat}{L:List (Int×d9)}(j:M.lim<=q)(g:M.get q=some (.map (nu L))){s:Int}(hs:Zz L s=none)(v:d9)(mp k x:OF)(cf:H8)(ls:List d9)(env:T d9)(a:mp ls env=.map q)(c:k ls env=.int .i64 s)(d:x ls env=v):
  I5 N9 1 mp k x cf ls env M=some [⟨.undef,M.set q (.map (nu (L ++ [(s,v)])))⟩]:=by
 rw [sU,a,c,d];have f:Nat.blt q M.lim=false:=by
  cases h:Nat.blt q M.lim with
  | false=>rfl
  | true=>have:=Y4.mp h;omega
 have i:R3 N9 1 (iV s) (nu L)=some none:=by
  cases L with
  | nil=>show ob (N9 (iV s) (iV s)) (λ_=>some none)=_;rw [Af];rfl
  | cons p L=>exact Gl s (p::L) 0 hs
 have e:nu (L ++ [(s,v)])=nu L ++ [(iV s,v)]:=by simp [nu]
 show bi (Nat.blt q M.lim) none (ob (msB (M.get q) N9 1 (iV s) v) λb=>some [(⟨.undef,M.set q b⟩:VM)])=_;rw [f,g,Sc,i,e];rfl
theorem afM {m:Mem}(a:m.Ok)(e:m.lim<=m.nx)(L:List (Int×d9))(R:List P8)(s:Int)(v:d9)(hs:Zz L s=none)(mp k x:OF)(cf:H8)(ls:List d9)(env:T d9)(b:mp ls env=.map m.nx)(c:k ls env=.int .i64 s)(d:x ls env=v):
  I5 N9 1 mp k x cf ls env (ext m (.map (nu L)::R))=some [⟨.undef,ext m (.map (nu (L ++ [(s,v)]))::R)⟩]:=by
 have E:=G6 a (.map (nu L)::R);rw [afL (M:=ext m (.map (nu L)::R)) (q:=m.nx) (L:=L) (by rw [E.lim];exact e) (by rw [r9 a];rfl) hs v mp k x cf ls env b c d,aZ a _ _ (by simp)];rfl
def OpF (M:Mem)(k:Int)(fv:d9):Prop:=∀(a b:Int),jL a=true->jL b=true->∀n fu:Nat,Rs (l7 KW fu (n+3)) M [iV a,iV b] fv=some [⟨.tuple [.int .i64 (BH k a b).1,.int .i64 (BH k a b).2],M⟩]
noncomputable def Ra (m:Mem):List (Int×d9):=[(6,.func (.func 116) [] []),(7,.func (.func 115) [] [.ptr (m.nx+1) 0]),(8,.func (.func 115) [] [.ptr (m.nx+2) 0]),(9,.func (.func 119) [] []),(10,.func (.func 121) [] []),(11,.func (.func 113) [] [.ptr (m.nx+3) 0]),(12,.func (.func 113) [] [.ptr (m.nx+4) 0]),(13,.func (.func 113) [] [.ptr (m.nx+5) 0]),(14,.func (.func 113) [] [.ptr (m.nx+6) 0]),(15,.func (.func 113) [] [.ptr (m.nx+7) 0]),(16,.func (.func 113) [] [.ptr (m.nx+8) 0])]
noncomputable def Vj:List P8:=[l9 [.func (.func 117) [] []],l9 [.func (.func 118) [] []],l9 [.func (.func 122) [] []],l9 [.func (.func 123) [] []],l9 [.func (.func 124) [] []],l9 [.func (.func 125) [] []],l9 [.func (.func 126) [] []],l9 [.func (.func 127) [] []]]
noncomputable def Rb (m:Mem)(i j:Nat):Mem:=ext m (.map (nu ((Ra m).take i))::Vj.take j)
theorem kJ {m:Mem}(f:m.Ok)(e:m.lim<=m.nx)(i j:Nat){s:Int}{v:d9}(hs:Zz ((Ra m).take i) s=none)(d:(Ra m).take i ++ [(s,v)]=(Ra m).take (i+1))(mp k x:OF)(cf:H8)(ls:List d9)(env:T d9)(a:mp ls env=.map m.nx)(b:k ls env=.int .i64 s)(c:x ls env=v):
  I5 N9 1 mp k x cf ls env (Rb m i j)=some [⟨.undef,Rb m (i+1) j⟩]:=by
 rw [Rb,afM f e _ _ s v hs mp k x cf ls env a b c,d];rfl
theorem eF {m:Mem}(a:m.Ok)(i j:Nat){b:P8}(hb:Vj.take j ++ [b]=Vj.take (j+1)):(Rb m i j).Ok∧ext (Rb m i j) [b]=Rb m i (j+1):=
 ⟨(G6 a _).ok,by rw [Rb,H9,Rb,← hb];rfl⟩
theorem mF (m:Mem)(i j:Nat)(a:j<=Vj.length):(Rb m i j).nx=m.nx+(j+1):=by rw [Rb];simp;omega
theorem afN {m:Mem}(a:m.Ok)(c:m.lim<=m.nx)(n fu:Nat):l7 KW fu (n+2) (.func 72) [] m=some [⟨.map m.nx,ext m (.map (nu (Ra m))::Vj)⟩]:=by
 have d:∀i j,(Rb m i j).lim<=(Rb m i j).nx:=λi j=>by rw [Rb,(G6 a _).lim];exact aA c (G6 a _).nx
 have u:=kJ a c 0 0 (s:=6) (v:=.func (.func 116) [] []) rfl rfl;have g:=Tc (eF a 1 0 (b:=l9 [.func (.func 117) [] []]) rfl).1 (d _ _) 117 n fu;rw [(eF a 1 0 rfl).2,mF m 1 0 (by decide)] at g;have w:=kJ a c 1 1 (s:=7) (v:=.func (.func 115) [] [.ptr (m.nx+1) 0]) rfl rfl;have h:=Tc (eF a 2 1 (b:=l9 [.func (.func 118) [] []]) rfl).1 (d _ _) 118 n fu;rw [(eF a 2 1 rfl).2,mF m 2 1 (by decide)] at h;have x:=kJ a c 2 2 (s:=8) (v:=.func (.func 115) [] [.ptr (m.nx+2) 0]) rfl rfl;have y:=kJ a c 3 2 (s:=9) (v:=.func (.func 119) [] []) rfl rfl;have z:=kJ a c 4 2 (s:=10) (v:=.func (.func 121) [] []) rfl rfl;have k:=wH (eF a 5 2 (b:=l9 [.func (.func 122) [] []]) rfl).1 (d _ _) 122 n fu;rw [(eF a 5 2 rfl).2,mF m 5 2 (by decide)] at k;have A:=kJ a c 5 3 (s:=11) (v:=.func (.func 113) [] [.ptr (m.nx+3) 0]) rfl rfl;have l:=wH (eF a 6 3 (b:=l9 [.func (.func 123) [] []]) rfl).1 (d _ _) 123 n fu;rw [(eF a 6 3 rfl).2,mF m 6 3 (by decide)] at l;have B:=kJ a c 6 4 (s:=12) (v:=.func (.func 113) [] [.ptr (m.nx+4) 0]) rfl rfl;have o:=wH (eF a 7 4 (b:=l9 [.func (.func 124) [] []]) rfl).1 (d _ _) 124 n fu;rw [(eF a 7 4 rfl).2,mF m 7 4 (by decide)] at o;have C:=kJ a c 7 5 (s:=13) (v:=.func (.func 113) [] [.ptr (m.nx+5) 0]) rfl rfl;have p:=wH (eF a 8 5 (b:=l9 [.func (.func 125) [] []]) rfl).1 (d _ _) 125 n fu;rw [(eF a 8 5 rfl).2,mF m 8 5 (by decide)] at p;have D:=kJ a c 8 6 (s:=14) (v:=.func (.func 113) [] [.ptr (m.nx+6) 0]) rfl rfl;have q:=wH (eF a 9 6 (b:=l9 [.func (.func 126) [] []]) rfl).1 (d _ _) 126 n fu;rw [(eF a 9 6 rfl).2,mF m 9 6 (by decide)] at q;have E:=kJ a c 9 7 (s:=15) (v:=.func (.func 113) [] [.ptr (m.nx+7) 0]) rfl rfl;have e:=wH (eF a 10 7 (b:=l9 [.func (.func 127) [] []]) rfl).1 (d _ _) 127 n fu;rw [(eF a 10 7 rfl).2,mF m 10 7 (by decide)] at e
 have f:=kJ a c 10 8 (s:=16) (v:=.func (.func 113) [] [.ptr (m.nx+8) 0]) rfl rfl;have r:ext m [.map []]=Rb m 0 0:=rfl;have t:Rb m 11 8=ext m (.map (nu (Ra m))::Vj):=rfl;rw [enter (sf:=f72) rfl rfl,← t];simp [f72,G9,fE,r,u,g,w,h,x,y,z,k,A,l,B,o,C,p,D,q,E,e,f]
theorem afO {m:Mem}(i:m.Ok)(k:Int)(j:6<=k)(l:k<=16):∃fv,Zz (Ra m) k=some fv∧OpF (ext m (.map (nu (Ra m))::Vj)) k fv:=by
 have g:∀c,(ext m (.map (nu (Ra m))::Vj)).get (m.nx+c)=(P8.map (nu (Ra m))::Vj)[c]?:=λc=>I7 i _ _;generalize ext m (.map (nu (Ra m))::Vj)=M at *;obtain rfl | rfl | rfl | rfl | rfl | rfl | rfl | rfl | rfl | rfl | rfl:k=6∨k=7∨k=8∨k=9∨k=10∨k=11∨k=12∨k=13∨k=14∨k=15∨k=16:=by omega
 exact⟨_,rfl,λa b d f n fu=>by rw [bV];exact abC d f (n+2) fu M⟩;refine⟨_,rfl,λa b d f n fu=>?_⟩;rw [bV];have:=Ta (n:=n+1) (fu:=fu) (a:=a) (b:=b) (g 1) (λh=>abD h d (n+1) fu M);have e:BH 7 a b=dvB a b:=rfl;rw [e,dvB];by_cases h:b=0;rw [if_pos h] at this ⊢;simpa [h] using this;rw [if_neg h] at this ⊢;simpa [h] using this;refine⟨_,rfl,λa b d f n fu=>?_⟩;rw [bV];have:=Ta (n:=n+1) (fu:=fu) (a:=a) (b:=b) (g 2) (λh=>abE h (n+1) fu M);have e:BH 8 a b=mdB a b:=rfl;rw [e,mdB];by_cases h:b=0;rw [if_pos h] at this ⊢;simpa [h] using this;rw [if_neg h] at this ⊢;simpa [h] using this;exact⟨_,rfl,λa b d f n fu=>by rw [bV];exact abF d f n fu M⟩;exact⟨_,rfl,λa b d f n fu=>by rw [bV];exact abG d f n fu M⟩;exact⟨_,rfl,λa b d f n fu=>by rw [bV];exact wG (n:=n+1) (fu:=fu) (g 3) (abH a b (n+1) fu M)⟩;exact⟨_,rfl,λa b d f n fu=>by rw [bV];exact wG (n:=n+1) (fu:=fu) (g 4) (abI a b (n+1) fu M)⟩;exact⟨_,rfl,λa b d f n fu=>by rw [bV];exact wG (n:=n+1) (fu:=fu) (g 5) (abJ a b (n+1) fu M)⟩;exact⟨_,rfl,λa b d f n fu=>by rw [bV];exact wG (n:=n+1) (fu:=fu) (g 6) (abK a b (n+1) fu M)⟩;exact⟨_,rfl,λa b d f n fu=>by rw [bV];exact wG (n:=n+1) (fu:=fu) (g 7) (abL a b (n+1) fu M)⟩;exact⟨_,rfl,λa b d f n fu=>by rw [bV];exact wG (n:=n+1) (fu:=fu) (g 8) (abM a b (n+1) fu M)⟩
set_option maxHeartbeats 16000000
mutual
def GI:Ex->Bool
 | .mk k n s a=>decide (k=3)||Rc a
def Rc:List Ex->Bool
 | []=>false
 | e::l=>GI e||Rc l
end
theorem yL (a b c:Int):nk (nk a b) c=nk a (nk b c):=by unfold nk;by_cases h:a=0<;>simp [h]
theorem BI (a:Int):nk a 0=a:=by unfold nk;split<;>omega
noncomputable def vmp (V:List (List UInt8×Int)):List (List UInt8×d9):=V.map λp=>(p.1,.int .i64 p.2)
theorem JJ (s:List UInt8):∀V:List (List UInt8×Int),(assoc (vmp V) s).getD (iV 0)=.int .i64 (VF V s)
 | []=>rfl
 | (x,n)::l=>by show (if s=x then some (d9.int .i64 n) else assoc (vmp l) s).getD _=_;rw [VF];by_cases h:s=x;rw [if_pos h,if_pos h.symm];rfl;rw [if_neg h,if_neg (ahq h)];exact JJ s l
structure Wd (V:List (List UInt8×Int))(q p8 pm:Nat)(M:Mem):Prop where
 ok:M.Ok
 lim:M.lim<=q
 lq:q<M.nx
 n8:p8≠q
 nm:pm≠q
 l8:p8<M.nx
 lm:pm<M.nx
 g8:M.get p8=some (l9 [.map pm])
 gm:M.get pm=some (.map (aW (vmp V)))
theorem Wd.ext {V:List (List UInt8×Int)}{q p8 a:Nat}{M M':Mem}(h:Wd V q p8 a M)(E:dU q M M'):Wd V q p8 a M':=
 ⟨E.ok,by rw [E.lim];exact h.lim,gq h.lq E.nx,h.n8,h.nm,gq h.l8 E.nx,gq h.lm E.nx,(E.old _ h.l8 h.n8).trans h.g8,(E.old _ h.lm h.nm).trans h.gm⟩
theorem Wd.lm' {V:List (List UInt8×Int)}{q p8 a:Nat}{M:Mem}(h:Wd V q p8 a M):M.lim<=M.nx:=by have:=h.lim;have:=h.lq;omega
theorem Vk (z:d9)(s:List UInt8)(L:List (List UInt8×d9)){b:Option P8}(hb:b=some (.map (aW L))):SK b eqStr 1 z false (.str s)=some ((assoc L s).getD z):=by
 subst hb;have a:∀(L:List (List UInt8×d9)) (i:Nat),ob (findKey eqStr (.str s) (aW L) i) (λr=>found false z r)=some ((assoc L s).getD z):=by
  intro L;induction L with
  | nil=>intro i;rfl
  | cons p L ih=>intro i;show ob (ob (eqStr (.str s) (.str p.1)) λb=>bi b (some (some (i,p.2))) (findKey eqStr (.str s) (aW L) (i+1))) (λr=>found false z r)=_;rw [rA,L8,assoc];by_cases h:s=p.1;rw [if_pos h,decide_eq_true h];rfl;rw [if_neg h,decide_eq_false h,P9,ih (i+1)]
 cases L with
 | nil=>show ob (ob (eqStr (.str s) (.str s)) λ_=>some none) (λr=>found false z r)=_;rw [rA];rfl
 | cons p L=>exact a (p::L) 0
theorem afP {V:List (List UInt8×Int)}{q p8 a:Nat}{M:Mem}(h:Wd V q p8 a M)(s:List UInt8)(n fu:Nat):l7 KW fu (n+1) (.func 36) [.str s,.ptr p8 0] M=some [⟨iV (VF V s),M⟩]:=by have g:=Vk (iV 0) s (vmp V) h.gm;rw [JJ] at g;rw [enter (sf:=f36) rfl rfl];simp [f36,h.g8,fq,g]
theorem afQ {q:Nat}{M:Mem}{b:Int}(a:M.Ok)(d:M.lim<=q)(c:q<M.nx)(g:M.get q=some (l9 [iV b]))(e:Int)(n fu:Nat):
  ∃M',l7 KW fu (n+1) (.func 37) [iV e,.ptr q 0] M=some [⟨.tuple [],M'⟩]∧dU q M M'∧M'.get q=some (l9 [iV (nk b e)]):=by
 unfold nk;by_cases h:b=0;refine⟨M.set q (l9 [iV e]),?_,⟨Mem.Ok.set a c _,q9 _,rfl,λi k f=>K5 a _ c f⟩,by rw [if_pos h];exact I8 a _ c rfl⟩;have j:=sB d;rw [enter (sf:=f37) rfl rfl];simp [f37,g,h,j,u7];refine⟨M,?_,dU.refl a,by rw [if_neg h];exact g⟩;rw [enter (sf:=f37) rfl rfl];simp [f37,g,h]
theorem afR {q p8:Nat}{M:Mem}{a:Int}(c:M.Ok)(k:M.lim<=q)(d:q<M.nx)(g:M.get q=some (l9 [iV a]))(v e:Int)(n fu:Nat):
  ∃M',l7 KW fu (n+2) (.func 71) [.agg [.func (.func 36) [] [.ptr p8 0],.nilFunc,.func (.func 37) [] [.ptr q 0]],iV v,iV e] M=some [⟨iV v,M'⟩]∧dU q M M'∧M'.get q=some (l9 [iV (nk a e)]):=by
 have E0:=G6 c [l9 [.func (.func 36) [] [.ptr p8 0],.nilFunc,.func (.func 37) [] [.ptr q 0]]];have b:(ext M [l9 [.func (.func 36) [] [.ptr p8 0],.nilFunc,.func (.func 37) [] [.ptr q 0]]]).get q=some (l9 [iV a]):=(E0.old _ d).trans g;have j:(ext M [l9 [.func (.func 36) [] [.ptr p8 0],.nilFunc,.func (.func 37) [] [.ptr q 0]]]).get M.nx=some (l9 [.func (.func 36) [] [.ptr p8 0],.nilFunc,.func (.func 37) [] [.ptr q 0]]):=by rw [r9 c];rfl
 by_cases h:e=0;refine⟨_,?_,E0.toB,by rw [h,BI];exact b⟩;rw [enter (sf:=f71) rfl rfl];simp [f71,G9,H9,h];obtain⟨M',f,E1,i⟩:=afQ E0.ok (by rw [E0.lim];exact k) (gq d E0.nx) b e n fu;refine⟨M',?_,E0.toB.trans E1,i⟩;rw [enter (sf:=f71) rfl rfl];simp [f71,G9,H9,h,j,f]
theorem YC:∀e:Ex,cZ e=true->Yy e
 | .mk k n s a,h=>by rw [Yy];refine⟨λhk=>?_,nuL_of a ?_⟩;subst hk;obtain⟨_,h1,_⟩:=pq h (.inl rfl);have:=h1 rfl;simp only [jL,Hl,decide_eq_true_eq];omega;rw [cZ] at h;exact ((Hl _ _).mp h).2
where nuL_of:∀l:List Ex,Y0 l=true->Yy.nuL l
 | [],_=>trivial
 | e::l,h=>by rw [Y0,Hl] at h;exact⟨YC e h.1,nuL_of l h.2⟩
theorem CB {V:List (List UInt8×Int)}(a:∀p∈V,jL p.2=true){x:Ex}(h:cZ x=true):jL (iq V x).1=true:=QY a x (YC x h)
def CEv (V:List (List UInt8×Int))(q p8 pm n fu r:Nat):Prop:=∀(M:Mem) (S:Nat->Prop) (e0:Int) (x:Ex) (row:List d9),Wd V q p8 pm M->M.get q=some (l9 [iV e0])->¬ S q->R7 M S x row->cZ x=true->GI x=false->dZ x<=r->
 ∃M',l7 KW fu n (.func 38) [.agg [.func (.func 36) [] [.ptr p8 0],.nilFunc,.func (.func 37) [] [.ptr q 0]],.agg row] M=some [⟨.int .i64 (iq V x).1,M'⟩]∧dU q M M'∧M'.get q=some (l9 [.int .i64 (nk e0 (iq V x).2)])
theorem adA {M:Mem}{S:Nat->Prop}{rs:Nat}{v:d9}{rows:List (List d9)}(h:eD M S rs v rows){i id o:Nat}(b:i<rows.length)
  (a:rO v none (λid off len _=>idx len (d9.int .i64 i) λk=>some (d9.ptr id (off+k*rs))) (λid off len _=>idx len (d9.int .i64 i) λk=>some (d9.ptr id (off+k*rs)))=some (.ptr id o)):S id∧id<M.nx:=by
 rcases h with⟨_,rfl⟩ | ⟨id0,o0,s0,hv,lt,_⟩;simp at b;rcases hv with⟨c,rfl,_⟩ | rfl;rw [wh,qp _ _ _ b] at a;cases a;exact⟨s0,lt⟩;rw [sS,qp _ _ _ b] at a;cases a;exact⟨s0,lt⟩
theorem LP {V:List (List UInt8×Int)}{q p8 F n fu r:Nat}(z:CEv V q p8 F n fu r){M:Mem}{S:Nat->Prop}{v:d9}{rows:List (List d9)}{a:List Ex}(p:¬ S q)(G:eD M S 4 v rows)(H:A9 M S a rows)(t:Rc a=false)(N:V6 a<=r)
  {i:Nat} (b:i<a.length) (P:cZ a[i]=true) {A:Mem} (m:dU q M A) (w:Wd V q p8 F A) {s:Int} (g:A.get q=some (l9 [iV s])):
  ∃id o row M',rO v none (λid off len _=>idx len (iV i) λk=>some (d9.ptr id (off+k*4))) (λid off len _=>idx len (iV i) λk=>some (d9.ptr id (off+k*4)))=some (.ptr id o)∧Gw (A.get id) o 4=some (.agg row)∧
   l7 KW fu n (.func 38) [.agg [.func (.func 36) [] [.ptr p8 0],.nilFunc,.func (.func 37) [] [.ptr q 0]],.agg row] A=some [⟨.int .i64 (iq V a[i]).1,M'⟩]∧dU q A M'∧M'.get q=some (l9 [.int .i64 (nk s (iq V a[i]).2)])∧id<M.nx∧id≠q:=by
 have W:=A9.len H;have L:=G.mono (S':=S) m.nx (λi b d=>m.old i b (λe=>p (e▸d))) (λi b d=>d);obtain⟨id,o,D,R,T,I,U⟩:=L.slice.at (i:=i) (by omega);obtain⟨C,B⟩:=adA G (by omega) D;have c:=A9.get H i b (by omega);have E:=c.row;have f:=I 0 4 (by omega) (by omega);rw [q8,W9 (by omega),Y1] at f;have u:id≠q:=λe=>p (e▸C);have j:a[i]∈a:=aaO b;have O:GI a[i]=false:=by
  have:∀l:List Ex,Rc l=false->∀x∈l,GI x=false:=by
   intro l;induction l with
   | nil=>intro _ x c;cases c
   | cons y l z=>intro h x c;rw [Rc,ad7] at h;rcases Z5.1 c with rfl | c;exact h.1;exact z h.2 x c
  exact this a t _ j
 have Q:dZ a[i]<=r:=aA (bX a i b) N;obtain⟨M',J,E1,K⟩:=z A S s a[i] rows[i] w g p (R7.mono m.nx (λi b d=>m.old i b (λe=>p (e▸d))) (λi b d=>d) _ _ c) P O Q;exact⟨id,o,rows[i],M',D,f,J,E1,K,B,u⟩
theorem YD (n p:Nat):bR (n+1) (.ptr p 0) (.ptr p 0)=true:=by show bi (Nat.beq p p) (Nat.beq 0 0) false=true;rw [show Nat.beq p p=true from abB p];rfl
theorem OQ (n f p:Nat):bR (n+2) (.func (.func f) [] [.ptr p 0]) (.func (.func f) [] [.ptr p 0])=true:=by show bi (Nat.beq f f) (bi (tX (bR (n+1)) [] []) (tX (bR (n+1)) [.ptr p 0] [.ptr p 0]) false) false=true;rw [show Nat.beq f f=true from abB f,Fx,wm,YD,Fx];rfl
theorem abO (p8 q:Nat):bR 100 (.agg [.func (.func 36) [] [.ptr p8 0],.nilFunc,.func (.func 37) [] [.ptr q 0]]) (.agg [.func (.func 36) [] [.ptr p8 0],.nilFunc,.func (.func 37) [] [.ptr q 0]])=true:=by rw [Uv,wm,OQ 97,wm,show bR 99 .nilFunc .nilFunc=true from rfl,wm,OQ 97,Fx];rfl
theorem LQ (a b:Bool):oo (.bool a) (.bool b)=some (decide (a=b)):=by cases a<;>cases b<;>rfl
theorem afS {V:List (List UInt8×Int)}(hV:∀p∈V,jL p.2=true){q p8 pm:Nat}(fu:Nat):∀r n:Nat,r+8<=n->CEv V q p8 pm n fu r:=by
 intro r;induction r with
 | zero=>intro n hn M S e0 x D w g R hx T u P;cases x;rw [dZ] at P;omega
 | succ r ih=>
  intro n hn M S e0 x D w g R hx T u P;obtain⟨n,rfl⟩:∃k,n=k+1:=⟨n-1,by omega⟩;obtain⟨k,H,s,a⟩:=x;obtain⟨v,ac,rfl,q1,q2⟩:=hx;have hm:=w.ok;have hl:=w.lm';have E0:=G6 hm [l9 [.func (.func 36) [] [.ptr p8 0],.nilFunc,.func (.func 37) [] [.ptr q 0]],l9 (r4 k H s v)];have t:(ext M [l9 [.func (.func 36) [] [.ptr p8 0],.nilFunc,.func (.func 37) [] [.ptr q 0]],l9 (r4 k H s v)]).get M.nx=some (l9 [.func (.func 36) [] [.ptr p8 0],.nilFunc,.func (.func 37) [] [.ptr q 0]]):=by rw [r9 hm];rfl
  have m:(ext M [l9 [.func (.func 36) [] [.ptr p8 0],.nilFunc,.func (.func 37) [] [.ptr q 0]],l9 (r4 k H s v)]).get (M.nx+1)=some (l9 (r4 k H s v)):=by rw [I7 hm];rfl
  have O:(ext M [l9 [.func (.func 36) [] [.ptr p8 0],.nilFunc,.func (.func 37) [] [.ptr q 0]],l9 (r4 k H s v)]).get q=some (l9 [iV e0]):=(E0.old _ w.lq).trans g;have W:=w.ext (E0.toB (id:=q));have ah:(ext M [l9 [.func (.func 36) [] [.ptr p8 0],.nilFunc,.func (.func 37) [] [.ptr q 0]],l9 (r4 k H s v)]).nx=M.nx+2:=by simp
  have wq:=w.lq;rcases OM T with rfl | rfl | rfl | rfl | rfl | ⟨k1,k2⟩;refine⟨_,?_,E0.toB,by rw [iq,if_pos rfl,BI];exact O⟩;rw [enter (sf:=f38) rfl rfl,iq,if_pos rfl];simp [f38,G9,H9,t,m];have gv:=afP W s (n-1) fu;rw [adb (by omega)] at gv;refine⟨_,?_,E0.toB,by rw [iq,if_neg (by decide),if_pos rfl,BI];exact O⟩;rw [enter (sf:=f38) rfl rfl,iq,if_neg (by decide),if_pos rfl];simp [f38,G9,H9,t,m,gv];rw [GI] at u;simp at u;obtain⟨rfl,rfl,y,rfl,G⟩:=qy T (.inl rfl);rw [GI,decide_eq_false (by omega),ad6] at u;obtain⟨id,o,D,M1,f,h,I,E1,B,l,U⟩:=LP (ih n (by omega)) R q1 q2 u (by rw [dZ] at P;omega) (i:=0) (by simp) (by simpa using G) E0.toB W O;simp at f;have C:=CB hV G;simp only [adM] at I B;have j:(ext M [l9 [.func (.func 36) [] [.ptr p8 0],.nilFunc,.func (.func 37) [] [.ptr q 0]],l9 (r4 4 0 [] v)]).get id=M.get id:=E0.old _ l;rw [j] at h;refine⟨M1,?_,E0.toB.trans E1,by rw [iq,if_neg (by decide),if_neg (by decide),JI,if_pos rfl];exact B⟩;have nv:lY .i64 (-(iq V y).1)=-(iq V y).1:=by simp only [jL,Hl,decide_eq_true_eq] at C;exact K6 (n:=-(iq V y).1) (by omega) (by omega)
  have e:(iq V (.mk 4 0 [] [y])).1=-(iq V y).1:=by rw [iq,if_neg (by decide),if_neg (by decide),JI,if_pos rfl];rfl
  rw [enter (sf:=f38) rfl rfl,e];generalize (iq V y).1=z at *;simp [f38,G9,H9,t,m,f,h,j,I,nv];obtain⟨rfl,rfl,y,rfl,G⟩:=qy T (.inr rfl);rw [GI,decide_eq_false (by omega),ad6] at u;obtain⟨id,o,D,M1,f,h,I,E1,B,l,U⟩:=LP (ih n (by omega)) R q1 q2 u (by rw [dZ] at P;omega) (i:=0) (by simp) (by simpa using G) E0.toB W O;simp at f;have C:=CB hV G;simp only [adM] at I B;have j:(ext M [l9 [.func (.func 36) [] [.ptr p8 0],.nilFunc,.func (.func 37) [] [.ptr q 0]],l9 (r4 5 0 [] v)]).get id=M.get id:=E0.old _ l;rw [j] at h;refine⟨M1,?_,E0.toB.trans E1,by rw [iq,if_neg (by decide),if_neg (by decide),JI,if_neg (by decide),if_pos rfl];exact B⟩;have e:(iq V (.mk 5 0 [] [y])).1=pR (decide ((iq V y).1=0)):=by rw [iq,if_neg (by decide),if_neg (by decide),JI,if_neg (by decide),if_pos rfl];rfl
  rw [enter (sf:=f38) rfl rfl,e];generalize (iq V y).1=z at *;have c:=λb=>QZ b (n-1) fu M1;rw [adb (by omega)] at c;simp [f38,G9,H9,t,m,f,h,j,I,c];obtain⟨rfl,rfl,y,z,rfl,G,hz⟩:=SQ T k1 k2;rw [GI,decide_eq_false (by omega),ad6] at u;have Q:V6 [y,z]<=r:=by rw [dZ] at P;omega
  obtain⟨id,o,D,M1,f,h,F,E1,B,l,U⟩:=LP (ih n (by omega)) R q1 q2 u Q (i:=0) (by simp) (by simpa using G) E0.toB W O;have w1:=W.ext E1;have EE1:dU q M M1:=E0.toB.trans E1;obtain⟨ag,o2,ab,M2,X,c4,Z,E2,h2,a9,aa⟩:=LP (ih n (by omega)) R q1 q2 u Q (i:=1) (by simp) (by simpa using hz) EE1 w1 B;have EE2:=EE1.trans E2;simp at f X;have C:=CB hV G;have a5:=CB hV hz;simp only [adM,ahh] at F B Z h2;have ad:=E1.nx;have ae:=E2.nx;have j:(ext M [l9 [.func (.func 36) [] [.ptr p8 0],.nilFunc,.func (.func 37) [] [.ptr q 0]],l9 (r4 k 0 [] v)]).get id=M.get id:=E0.old _ l;rw [j] at h;have A:M1.get M.nx=some (l9 [.func (.func 36) [] [.ptr p8 0],.nilFunc,.func (.func 37) [] [.ptr q 0]]):=(E1.old _ (by omega) (by omega)).trans t;have d:M1.get (M.nx+1)=some (l9 (r4 k 0 [] v)):=(E1.old _ (by omega) (by omega)).trans m;have K:M2.get M.nx=some (l9 [.func (.func 36) [] [.ptr p8 0],.nilFunc,.func (.func 37) [] [.ptr q 0]]):=(E2.old _ (by omega) (by omega)).trans A;have J:M2.get (M.nx+1)=some (l9 (r4 k 0 [] v)):=(E2.old _ (by omega) (by omega)).trans d;have e:iq V (.mk k 0 [] [y,z])=JI k (iq V y) (iq V z):=by rw [iq,if_neg (by omega),if_neg (by omega)];rfl
  have n1:¬ k=1:=by omega
  have n2:¬ k=2:=by omega
  have n3:¬ k=3:=by omega
  have n4:¬ k=4:=by omega
  have n5:¬ k=5:=by omega
  rw [e];generalize iq V y=Y at *;generalize iq V z=Z' at *;by_cases ho:k=17∨k=18;have c:=λb M=>QZ b (n-1) fu M;rw [adb (by omega)] at c;have e2:JI k Y Z'=if (!decide (Y.1=0))=decide (k=18) then (pR (!decide (Y.1=0)),Y.2) else (pR (!decide (Z'.1=0)),nk Y.2 Z'.2):=by rw [JI,if_neg (by omega),if_neg (by omega),if_pos ho]
  rw [e2];by_cases hs:(!decide (Y.1=0))=decide (k=18);rw [if_pos hs];refine⟨M1,?_,EE1,B⟩;rw [enter (sf:=f38) rfl rfl];rcases ho with rfl | rfl;have E:Y.1=0:=by simpa using hs
  rw [E] at F;simp [f38,G9,H9,t,m,f,h,j,F,d,c,E,LQ];have E:¬ Y.1=0:=by simpa using hs
  simp [f38,G9,H9,t,m,f,h,j,F,d,c,E,LQ];rw [if_neg hs];refine⟨M2,?_,EE2,by rw [← yL];exact h2⟩;rw [enter (sf:=f38) rfl rfl];rcases ho with rfl | rfl;have E:¬ Y.1=0:=by simpa using hs
  simp [f38,G9,H9,t,m,f,h,j,F,d,A,X,c4,Z,c,E,LQ];have E:Y.1=0:=by simpa using hs
  rw [E] at F;simp [f38,G9,H9,t,m,f,h,j,F,d,A,X,c4,Z,c,E,LQ];have k3:k<=16:=by omega
  have a7:¬ k=17:=by omega
  have a8:¬ k=18:=by omega
  have a6:M2.lim<=M2.nx:=(w1.ext E2).lm';have E3:=G6 E2.ok (.map (nu (Ra M2))::Vj);obtain⟨fv,a3,hO⟩:=afO E2.ok k k1 k3;have lk:=YB .nilFunc k (Ra M2) (b:=(ext M2 (.map (nu (Ra M2))::Vj)).get M2.nx) (by rw [r9 E2.ok];rfl);rw [a3] at lk;have N:=afN E2.ok a6 (n-2) fu;rw [show n-2+2=n from by omega] at N;have hO:=hO Y.1 Z'.1 C a5 (n-3) fu;rw [show n-3+3=n from by omega] at hO;generalize hM3:ext M2 (.map (nu (Ra M2))::Vj)=M3 at *;have h3:M3.get q=some (l9 [.int .i64 (nk (nk e0 Y.2) Z'.2)]):=(E3.old _ (by omega)).trans h2;have a2:M3.get M.nx=some (l9 [.func (.func 36) [] [.ptr p8 0],.nilFunc,.func (.func 37) [] [.ptr q 0]]):=(E3.old _ (by omega)).trans K;have a0:M3.get (M.nx+1)=some (l9 (r4 k 0 [] v)):=(E3.old _ (by omega)).trans J;have af:=E3.nx;obtain⟨M4,L,E4,h4⟩:=afR (p8:=p8) E3.ok (by rw [E3.lim,EE2.lim];exact w.lim) (by omega) h3 (BH k Y.1 Z'.1).1 (BH k Y.1 Z'.1).2 (n-2) fu;rw [show n-2+2=n from by omega] at L;have e2:JI k Y Z'=((BH k Y.1 Z'.1).1,nk (nk Y.2 Z'.2) (BH k Y.1 Z'.1).2):=by rw [JI,if_neg (by omega),if_neg (by omega),if_neg ho]
  rw [e2];refine⟨M4,?_,(EE2.trans E3.toB).trans E4,by rw [← yL,← yL];exact h4⟩;rw [enter (sf:=f38) rfl rfl];simp [f38,G9,H9,t,m,f,h,j,F,d,A,X,c4,Z,N,K,J,a2,a0,fq,lk,hO,L,abO,Jd,n1,n2,n3,n4,n5,a7,a8]
structure Ex2 (p q:Nat)(m m':Mem):Prop where
 ok:m'.Ok
 nx:m.nx<=m'.nx
 lim:m'.lim=m.lim
 old:∀i,i<m.nx->i≠p->i≠q->m'.get i=m.get i
theorem Ex2.refl {p q:Nat}{m:Mem}(h:m.Ok):Ex2 p q m m:=⟨h,q9 _,rfl,λ_ _ _ _=>rfl⟩
theorem Ex2.trans {p q:Nat}{a b c:Mem}(h:Ex2 p q a b)(k:Ex2 p q b c):Ex2 p q a c:=
 ⟨k.ok,aA h.nx k.nx,k.lim.trans h.lim,λi f d e=>(k.old i (gq f h.nx) d e).trans (h.old i f d e)⟩
theorem _root_.Go.AM.Ext.to2 {p q:Nat}{a b:Mem}(h:Ext a b):Ex2 p q a b:=⟨h.ok,h.nx,h.lim,λi c _ _=>h.old i c⟩
def isIn (V:List (List UInt8×Int))(s:List UInt8):Bool:=V.any λp=>p.1==s
mutual
def unE (V:List (List UInt8×Int)):Ex->Bool
 | .mk k n s a=>(decide (k=2) && !isIn V s)||unL V a
def unL (V:List (List UInt8×Int)):List Ex->Bool
 | []=>false
 | e::l=>unE V e||unL V l
end
theorem OT (s:List UInt8):∀V:List (List UInt8×Int),(assoc (vmp V) s).isSome=isIn V s
 | []=>rfl
 | (x,n)::l=>by
  show (if s=x then some (d9.int .i64 n) else assoc (vmp l) s).isSome=(x==s||isIn l s)
  by_cases h:s=x;subst h;simp;have hx:(x==s)=false:=by simpa using (ahq h)
  rw [if_neg h,OT s l,hx,ad6]
structure Vi (V:List (List UInt8×Int))(p8 pm pc pu:Nat)(M:Mem)(c u:Bool):Prop where
 ok:M.Ok
 lc:M.lim<=pc
 lu:M.lim<=pu
 bc:pc<M.nx
 bu:pu<M.nx
 cu:pc≠pu
 n8:p8≠pc∧p8≠pu
 nm:pm≠pc∧pm≠pu
 b8:p8<M.nx
 bm:pm<M.nx
 g8:M.get p8=some (l9 [.map pm])
 gm:M.get pm=some (.map (aW (vmp V)))
 gc:M.get pc=some (l9 [.bool c])
 gu:M.get pu=some (l9 [.bool u])
theorem Vi.ext {V:List (List UInt8×Int)}{p8 d b e:Nat}{M a:Mem}{c u:Bool}(h:Vi V p8 d b e M c u)(E:Ext M a):Vi V p8 d b e a c u:=
 ⟨E.ok,by rw [E.lim];exact h.lc,by rw [E.lim];exact h.lu,gq h.bc E.nx,gq h.bu E.nx,h.cu,h.n8,h.nm,gq h.b8 E.nx,gq h.bm E.nx,(E.old _ h.b8).trans h.g8,(E.old _ h.bm).trans h.gm,(E.old _ h.bc).trans h.gc,(E.old _ h.bu).trans h.gu⟩
theorem afT {V:List (List UInt8×Int)}{p8 E d l:Nat}{M:Mem}{c u:Bool}(h:Vi V p8 E d l M c u)(k n0:Int)(s:List UInt8)(v:d9)(J:Go.AM.u7 v=true)(I:v.cells=[v])(n fu:Nat):
  ∃M',l7 KW fu (n+1) (.func 35) [.agg (r4 k n0 s v),.ptr p8 0,.ptr d 0,.ptr l 0] M=some [⟨.tuple [],M'⟩]∧Ex2 d l M M'∧Vi V p8 E d l M' (c||decide (k=3)) (u||(decide (k=2) && !isIn V s)):=by
 have E0:=G6 h.ok [l9 (r4 k n0 s v)];have q:(ext M [l9 (r4 k n0 s v)]).get M.nx=some (l9 (r4 k n0 s v)):=by rw [r9 h.ok];rfl
 have a:=h.ext E0;have o:=Gd (iV 0) s (vmp V) (.inl a.gm);have b:=OT s V;have p:=a.bc;have D:=a.bu;have K:(ext M [l9 (r4 k n0 s v)]).nx=M.nx+1:=by simp
 have G:=h.bc;have H:=h.bu;generalize hA:ext M [l9 (r4 k n0 s v)]=A at *;have r:=sB a.lc;have j:∀B,(A.set d B).Ok:=λB=>Mem.Ok.set a.ok p _;have y:∀B,(A.set d B).get d=some B:=λB=>I8 a.ok _ p rfl;have f:∀B,(A.set d B).get l=some (l9 [.bool u]):=λB=>(K5 a.ok _ p (ahq h.cu)).trans a.gu;have e:∀B,(A.set d B).get M.nx=some (l9 (r4 k n0 s v)):=λB=>(K5 a.ok _ p (by omega)).trans q;have t:=λB (β:Type) off vs (k:Mem->Option β)=>jA (m:=A.set d B) (id:=l) a.lu off vs k;have g:∀B,l<(A.set d B).nx:=λB=>D;refine⟨(A.set d (l9 [.bool (c||decide (k=3))])).set l (l9 [.bool (u||(decide (k=2) && !isIn V s))]),?_,⟨Mem.Ok.set (j _) (g _) _,by show M.nx<=A.nx;omega,E0.lim,λi F z C=>?_⟩,?_⟩
 rw [enter (sf:=f35) rfl rfl];cases ha:assoc (vmp V) s with
 | none=>
  rw [ha] at o b;have b:isIn V s=false:=b.symm;by_cases k3:k=3;subst k3;cases c<;>cases u<;>simp [f35,G9,hA,q,e,a.g8,a.gc,f,fq,o,r,t,u7,b]
  by_cases k2:k=2;subst k2;cases c<;>cases u<;>simp [f35,G9,hA,q,e,a.g8,a.gc,f,fq,o,r,t,u7,b]
  cases c<;>cases u<;>simp [f35,G9,hA,q,e,a.g8,a.gc,f,fq,o,r,t,u7,b,k2,k3]
 | some w=>
  rw [ha] at o b;have b:isIn V s=true:=b.symm;by_cases k3:k=3;subst k3;cases c<;>cases u<;>simp [f35,G9,hA,q,e,a.g8,a.gc,f,fq,o,r,t,u7,b]
  by_cases k2:k=2;subst k2;cases c<;>cases u<;>simp [f35,G9,hA,q,e,a.g8,a.gc,f,fq,o,r,t,u7,b]
  cases c<;>cases u<;>simp [f35,G9,hA,q,e,a.g8,a.gc,f,fq,o,r,t,u7,b,k2,k3]
 rw [K5 (j _) _ (g _) C,K5 a.ok _ p z,E0.old i F];have x:∀i,i≠d->i≠l->((A.set d (l9 [.bool (c||decide (k=3))])).set l (l9 [.bool (u||(decide (k=2) && !isIn V s))])).get i=A.get i:=λi z C=>by rw [K5 (j _) _ (g _) C,K5 a.ok _ p z]
 exact⟨Mem.Ok.set (j _) (g _) _,a.lc,a.lu,p,D,h.cu,h.n8,h.nm,a.b8,a.bm,(x _ h.n8.1 h.n8.2).trans a.g8,(x _ h.nm.1 h.nm.2).trans a.gm,by rw [K5 (j _) _ (g _) h.cu];exact y _,I8 (j _) _ (g _) rfl⟩
def CVi (V:List (List UInt8×Int))(p8 pm pc pu n fu r:Nat):Prop:=∀(M:Mem) (S:Nat->Prop) (x:Ex) (row:List d9) (c u:Bool),Vi V p8 pm pc pu M c u->¬ S pc->¬ S pu->R7 M S x row->dZ x<=r->gM x<=10000->
 ∃M',l7 KW fu n (.func 34) [.agg row,(.func (.func 35) [] [.ptr p8 0,.ptr pc 0,.ptr pu 0])] M=some [⟨.tuple [],M'⟩]∧Ex2 pc pu M M'∧Vi V p8 pm pc pu M' (c||GI x) (u||unE V x)
theorem abR {V:List (List UInt8×Int)}{p8 C f g n fu r:Nat}(U:CVi V p8 C f g n fu r){M:Mem}{S:Nat->Prop}(t:¬ S f)(x:¬ S g){v:d9}{rows:List (List d9)}(a:List Ex)(X:eD M S 4 v rows)(F:A9 M S a rows)(hL:V6 a<=r)(hP:T9 a<=10000)(row:List d9)(s:Nat):
  ∀(j i:Nat),i+j=a.length->∀(c5 x7:d9) (c u:Bool) (A:Mem) (N:Nat),Ex2 f g M A->Vi V p8 C f g A c u->j+1<=N->
  ∃c5' x7' M',C8 (λenv m k=>Ou (l7 KW fu n) fu none env m k) N (qL (.agg row) (.func (.func 35) [] [.ptr p8 0,.ptr f 0,.ptr g 0]) (.ptr s 0) (iV (i:Int)) (iV (a.length:Int)) c5 v x7) A []=some [⟨.exit 0,(qL (.agg row) (.func (.func 35) [] [.ptr p8 0,.ptr f 0,.ptr g 0]) (.ptr s 0) (iV (a.length:Int)) (iV (a.length:Int)) c5' v x7'),M',[],none⟩]∧Ex2 f g A M'∧Vi V p8 C f g M' (c||Rc (a.drop i)) (u||unL V (a.drop i)):=by
 have hr:=A9.len F;have P:=K8 a;intro j;induction j with
 | zero=>
  intro i h c5 x7 c u A N EA w O;obtain⟨N,rfl⟩:∃k,N=k+1:=⟨N-1,by omega⟩;obtain rfl:i=a.length:=by omega
  refine⟨.bool false,x7,A,?_,Ex2.refl w.ok,by rw [aaJ,Rc,unL,ami,ami];exact w⟩;rw [o7];simp [Ou]
 | succ j ihj=>
  intro i h c5 x7 c u A N EA w O;obtain⟨N,rfl⟩:∃k,N=k+1:=⟨N-1,by omega⟩;have d:i<a.length:=by omega
  have p:(i:Int)<(a.length:Int):=by omega
  have b:=X.mono (S':=S) EA.nx (λi h b=>EA.old i h (λe=>t (e▸b)) (λe=>x (e▸b))) (λi h b=>b);obtain⟨id,o,G,a2,a3,H,a5⟩:=b.slice.at (i:=i) (by omega);have E:=A9.get F i d (by omega);have q:=E.row;have l:=H 0 4 (by omega) (by omega);rw [q8,W9 (by omega),Y1] at l;have y:a.drop i=a[i]::a.drop (i+1):=Xd d;have R:=bX a i d;have hp:=aV a i d;have E0:=G6 w.ok [l9 rows[i]];have Y:=w.ext E0;have L:(ext A [l9 rows[i]]).get A.nx=some (l9 rows[i]):=by rw [r9 w.ok];rfl
  have EE:=EA.trans E0.to2;have z:=R7.mono (S':=S) EE.nx (λi h b=>EE.old i h (λe=>t (e▸b)) (λe=>x (e▸b))) (λi h b=>b) _ _ E;obtain⟨M1,J,E1,Z⟩:=U (ext A [l9 rows[i]]) S a[i] rows[i] c u Y t x z (by omega) (by omega);obtain⟨c5',x7',M',K,E2,w2⟩:=ihj (i+1) (by omega) tt (.ptr A.nx 0) _ _ M1 N (EE.trans E1) Z (by omega);refine⟨c5',x7',M',?_,(E0.to2.trans E1).trans E2,by rw [y,Rc,unL,← aiV,← aiV];exact w2⟩;rw [o7,← K];have B:rows[i].length=4:=by omega
  have D:Go.AM.vC (some (l9 (r4 0 0 [] nS))) 0 rows[i]=some (l9 rows[i]):=by rw [Go.AM.eX (by simp [B]) (by simp)];simp [B]
  have W:Go.AM.Gw (some (l9 rows[i])) 0 4=some (.agg rows[i]):=by rw [eU (by omega) (by omega),q8,W9 (by omega)]
  have I:J8 rows[i]=true:=q.2;have T:=w.ok;have Q:A.lim<=A.nx:=by have:=w.lc;have:=w.bc;omega
  simp [Ou,P6 T Q,u7,p,G,l,B,D,I,L,W,J,L6 (i:=i) (by omega)]
theorem afU {V:List (List UInt8×Int)}{p8 N i j:Nat}(fu:Nat)(J:20000<=fu):∀r n:Nat,r+3<=n->CVi V p8 N i j n fu r:=by
 intro r;induction r with
 | zero=>intro n K M S x l c u w y z B h A;cases x;rw [dZ] at h;omega
 | succ r ih=>
  intro n K M S x l c u w y z B h A;obtain⟨n,rfl⟩:∃k,n=k+1:=⟨n-1,by omega⟩;obtain⟨k,d,s,a⟩:=x;obtain⟨v,D,rfl,e,C⟩:=B;rw [dZ] at h;rw [gM] at A;have I:=K8 a;have E0:=G6 w.ok [l9 (r4 k d s v)];have O:=w.ext E0;have G:=e.slice.cells;have L:=e.slice.u7;have b:=e.slice.len;rw [A9.len C] at b;have t:(ext M [l9 (r4 k d s v)]).get M.nx=some (l9 (r4 k d s v)):=by rw [r9 w.ok];rfl
  obtain⟨M1,o,E1,P⟩:=afT O k d s v L G (n-1) fu;rw [adb (by omega)] at o;have R:=w.bc;have T:=w.bu;have U:(ext M [l9 (r4 k d s v)]).nx=M.nx+1:=by simp
  have Zc:M1.get M.nx=some (l9 (r4 k d s v)):=(E1.old _ (by omega) (by omega) (by omega)).trans t;have EE:=(E0.to2 (p:=i) (q:=j)).trans E1;obtain⟨F,Q,M',H,E2,E⟩:=abR (ih n (by omega)) y z a e C (by omega) (by omega) (r4 k d s v) M.nx a.length 0 (by omega) .undef .undef (_) _ M1 fu EE P (by omega);rw [q8] at E;refine⟨M',?_,EE.trans E2,by rw [GI,unE,← aiV,← aiV];exact E⟩;have g:C8 (λf m k=>Ou (l7 KW fu n) fu none f m k) fu (qL (.agg (r4 k d s v)) (.func (.func 35) [] [.ptr p8 0,.ptr i 0,.ptr j 0]) (.ptr M.nx 0) (iV 0) (iV (a.length:Int)) .undef v .undef) M1 []=_:=H;rw [enter (sf:=f34) rfl rfl];simp [f34,G9,t,Zc,o,b,g]
theorem abS (a:d9)(n fu:Nat)(b:20000<=fu)(m:Mem):l7 KW fu (n+1) (.func 68) [nS,a] m=some [⟨iV (-1),m⟩]:=by obtain⟨fu,rfl⟩:∃k,fu=k+1:=⟨fu-1,by omega⟩;rw [enter (sf:=f68) rfl rfl];simp [f68,adk,o7]
theorem abT (b:d9)(n fu:Nat)(a:20000<=fu)(m:Mem):l7 KW fu (n+2) (.func 30) [nS,b] m=some [⟨.bool false,m⟩]:=by have g:=abS b n fu a m;rw [enter (sf:=f30) rfl rfl];simp [f30,g]
theorem afV {m:Mem}(c:m.Ok)(b:m.lim<=m.nx)(v:d9)(d:Go.AM.u7 v=true)(a:v.cells=[v])(n fu:Nat):l7 KW fu (n+1) (.func 33) [v] m=some [⟨.func (.func 69) [] [.ptr m.nx 0],ext m [l9 [v]]⟩]:=by rw [enter (sf:=f33) rfl rfl];simp [f33,P6 c b,u7,d,a]
theorem abU {m:Mem}{p:Nat}(h:m.get p=some (l9 [nS]))(y:d9)(n fu:Nat)(a:20000<=fu):l7 KW fu (n+1) (.func 69) [y,.ptr p 0] m=some [⟨.tuple [],m⟩]:=by obtain⟨fu,rfl⟩:∃k,fu=k+1:=⟨fu-1,by omega⟩;have w:rT .i64 0 1=some (iV (-1)):=rfl;have b:iP (0-1)=-1:=rfl;have c:iP (-1)=-1:=rfl;rw [enter (sf:=f69) rfl rfl];simp [f69,adl,o7,h,w,b,c]
def arz (n fu r:Nat):Prop:=∀(m:Mem) (row:List d9) (e:Ex),m.Ok->m.lim<=m.nx->R7 m (λ_=>True) e row->cZ e=true->GI e=false->unE [] e=false->gM e<=500->dZ e<=r->
 ∃m',l7 KW fu n (.func 13) [.agg row,nS] m=some [⟨.tuple [.int .i64 (iq [] e).1,.int .i64 (iq [] e).2],m'⟩]∧Ext m m'
theorem abV (fu:Nat)(h:20000<=fu)(n r:Nat)(hr:r<=20)(hn:150<=n):arz n fu r:=by
 intro m row e hm hl hx hf hc hu hp hL;obtain⟨n,rfl⟩:∃k,n=k+3:=⟨n-3,by omega⟩;have q:=hx;have K:∀{M:Mem},Ext m M->R7 M (λ_=>True) e row:=λE=>FX E q;obtain⟨k,f,s,a⟩:=e;obtain⟨v,a0,rfl,q1,q2⟩:=hx;have cv:=q1.slice.cells;have ov:=q1.slice.u7;have E0:=G6 hm [l9 (r4 k f s v)];have L:∀{M:Mem},Ext m M->M.lim<=M.nx:=λE=>by rw [E.lim];exact aA hl E.nx
 have D:(ext m [l9 (r4 k f s v)]).get m.nx=some (l9 (r4 k f s v)):=by rw [r9 hm];rfl
 have a2:(ext m [l9 (r4 k f s v)]).nx=m.nx+1:=by simp
 obtain⟨t,u,E1⟩:=XR (n:=n) (d:=22) (by omega) h (XT (n+1) fu 22 h (by omega) (by omega)) E0.ok (L E0) (K E0) (by omega);have hb:=(Sy (.mk k f s a) 22).1 (by omega);have ez:D9 (bE 22 (.mk k f s a))=[.int .i64 (gM (.mk k f s a):Int),.int .i64 (dZ (.mk k f s a):Int)]:=by rw [hb];rfl
 rw [ez] at u;have w:l7 KW fu (n+2) (.func 28) [.agg (r4 k f s v),iV 22] (ext m [l9 (r4 k f s v)])=_:=u;have F1:=E0.trans E1;have F:t.get m.nx=some (l9 (r4 k f s v)):=(E1.old _ (by omega)).trans D;have E2:=G6 F1.ok [l9 [.int .i64 (gM (.mk k f s a):Int),.int .i64 (dZ (.mk k f s a):Int)]];have F2:=F1.trans E2;have n1:=E1.nx;have H:(ext t [l9 [.int .i64 (gM (.mk k f s a):Int),.int .i64 (dZ (.mk k f s a):Int)]]).get m.nx=some (l9 (r4 k f s v)):=(E2.old _ (by omega)).trans F;have W:(ext t [l9 [.int .i64 (gM (.mk k f s a):Int),.int .i64 (dZ (.mk k f s a):Int)]]).get t.nx=some (l9 [.int .i64 (gM (.mk k f s a):Int),.int .i64 (dZ (.mk k f s a):Int)]):=by rw [r9 F1.ok];rfl
 obtain⟨c,x,E3⟩:=SH fu h 20 (n+2) (by omega) _ (r4 k f s v) (.mk k f s a) F2.ok (L F2) (K F2) (by omega) (by omega);rw [hf] at x;have F3:=F2.trans E3;have n2:(ext t [l9 [.int .i64 (gM (.mk k f s a):Int),.int .i64 (dZ (.mk k f s a):Int)]]).nx=t.nx+1:=by simp
 have n3:=E3.nx;have l:c.get m.nx=some (l9 (r4 k f s v)):=(E3.old _ (by omega)).trans H;have d1:decide ((500:Int)<(gM (.mk k f s a):Int))=false:=decide_eq_false (by omega);have d2:decide ((20:Int)<(dZ (.mk k f s a):Int))=false:=decide_eq_false (by omega);have g:=F3.ok;have Z:=L F3;have O:∀M,l7 KW fu (n+2) (.func 30) [nS,.func (.func 31) [] []] M=some [⟨.bool false,M⟩]:=λM=>abT _ n fu h M;have X2:=G6 g [.map [],l9 [.map c.nx]];have A:=afV (m:=ext c [.map [],l9 [.map c.nx]]) X2.ok (by rw [X2.lim];exact aA Z X2.nx) nS rfl rfl (n+1) fu;rw [show (ext c [.map [],l9 [.map c.nx]]).nx=c.nx+2 from by simp,H9] at A;have B:l7 KW fu (n+2) (.func 33) [nS] (ext c [.map [],l9 [.map c.nx]])=some [⟨.func (.func 69) [] [.ptr (c.nx+2) 0],ext c [.map [],l9 [.map c.nx],l9 [nS]]⟩]:=A;have R:∀b y,l7 KW fu (n+2) (.func 69) [y,.ptr (c.nx+2) 0] (ext c [.map [],l9 [.map c.nx],l9 [nS],.deferred,b])=some [⟨.tuple [],ext c [.map [],l9 [.map c.nx],l9 [nS],.deferred,b]⟩]:=λb y=>abU (by rw [I7 g];rfl) y (n+1) fu h
 have X7:=G6 g [.map [],l9 [.map c.nx],l9 [nS],.deferred,.dead,l9 [.bool false],l9 [.bool false]];have a3:(ext c [.map [],l9 [.map c.nx],l9 [nS],.deferred,.dead,l9 [.bool false],l9 [.bool false]]).nx=c.nx+7:=by simp
 have vi:Vi [] (c.nx+1) c.nx (c.nx+5) (c.nx+6) (ext c [.map [],l9 [.map c.nx],l9 [nS],.deferred,.dead,l9 [.bool false],l9 [.bool false]]) false false:=
  ⟨X7.ok,by rw [X7.lim];omega,by rw [X7.lim];omega,by omega,by omega,by omega,⟨by omega,by omega⟩,⟨by omega,by omega⟩,by omega,by omega,by rw [I7 g];rfl,by rw [r9 g];rfl,by rw [I7 g];rfl,by rw [I7 g];rfl⟩
 have F7:=F3.trans X7;have U:(ext c [.map [],l9 [.map c.nx],l9 [nS],.deferred,.dead,l9 [.bool false],l9 [.bool false]]).get m.nx=some (l9 (r4 k f s v)):=(X7.old _ (by omega)).trans l;obtain⟨M8,P,E8,N⟩:=afU fu h 20 (n+2) (by omega) _ (λi=>i<m.nx) _ (r4 k f s v) _ _ vi (by omega) (by omega) (R7.mono (S':=λi=>i<m.nx) F7.nx (λi j _=>F7.old i j) (λi j _=>j) _ _ q) (by omega) (by omega);rw [hc,hu] at N;have n8:=E8.nx;have I:M8.get m.nx=some (l9 (r4 k f s v)):=by rw [E8.old _ (by omega) (by omega) (by omega),X7.old _ (by omega)];exact l
 have T:M8.get (c.nx+3)=some .deferred:=by rw [E8.old _ (by omega) (by omega) (by omega),I7 g];rfl
 have F8:∀i,i<m.nx->M8.get i=m.get i:=λi j=>by rw [E8.old i (by omega) (by omega) (by omega),F7.old i j]
 have l8:M8.lim<=M8.nx:=by rw [E8.lim,X7.lim];omega
 have Y:=G6 E8.ok [l9 [iV 0],l9 [.func (.func 36) [] [.ptr (c.nx+1) 0],.nilFunc,.func (.func 37) [] [.ptr M8.nx 0]]];have yx:(ext M8 [l9 [iV 0],l9 [.func (.func 36) [] [.ptr (c.nx+1) 0],.nilFunc,.func (.func 37) [] [.ptr M8.nx 0]]]).nx=M8.nx+2:=by simp
 have wd:Wd [] M8.nx (c.nx+1) c.nx (ext M8 [l9 [iV 0],l9 [.func (.func 36) [] [.ptr (c.nx+1) 0],.nilFunc,.func (.func 37) [] [.ptr M8.nx 0]]]):=
  ⟨Y.ok,by rw [Y.lim];exact l8,by omega,by omega,by omega,by omega,by omega,(Y.old _ (by omega)).trans N.g8,(Y.old _ (by omega)).trans N.gm⟩
 obtain⟨M11,Q,E11,o⟩:=afS (V:=[]) (by intro p hp;cases hp) fu 20 (n+2) (by omega) _ (λi=>i<m.nx) 0 (.mk k f s a) (r4 k f s v) wd (by rw [r9 E8.ok];rfl) (by omega)
  (R7.mono (S':=λi=>i<m.nx) (by rw [yx];omega) (λi j _=>by rw [Y.old i (by omega),F8 i j]) (λi j _=>j) _ _ q) hf hc (by omega)
 have a1:=E11.nx;have C:M11.get (c.nx+3)=some .deferred:=by rw [E11.old _ (by omega) (by omega),Y.old _ (by omega)];exact T
 have G:(ext M8 [l9 [iV 0],l9 [.func (.func 36) [] [.ptr (c.nx+1) 0],.nilFunc,.func (.func 37) [] [.ptr M8.nx 0]]]).get m.nx=some (l9 (r4 k f s v)):=(Y.old _ (by omega)).trans I;have J:(ext M8 [l9 [iV 0],l9 [.func (.func 36) [] [.ptr (c.nx+1) 0],.nilFunc,.func (.func 37) [] [.ptr M8.nx 0]]]).get (M8.nx+1)=some (l9 [.func (.func 36) [] [.ptr (c.nx+1) 0],.nilFunc,.func (.func 37) [] [.ptr M8.nx 0]]):=by rw [I7 E8.ok];rfl
 have o:M11.get M8.nx=some (l9 [.int .i64 (iq [] (.mk k f s a)).2]):=o;have b3:c.nx+3<M11.nx:=by omega
 refine⟨M11.set (c.nx+3) .dead,?_,⟨Mem.Ok.set E11.ok b3 _,by show m.nx<=M11.nx;omega,?_,λi j=>?_⟩⟩;rw [enter (sf:=f13) rfl rfl];generalize iq [] (.mk k f s a)=z at *;have S:=N.gc;have X:=N.gu;have lc:=aao (tF KW (l7 KW fu (n+2)) fu);simp [f13,G9,H9,ov,cv,D,w,F,W,H,d1,d2,x,l,O,fE,r9 g,I7 g,eY g Z,ah g Z,bB g,aZ g,eY F1.ok (L F1),ah F1.ok (L F1),eY E8.ok l8,ah E8.ok l8,r9 E8.ok,I7 E8.ok,bB E8.ok,aZ E8.ok,u7,B,R,U,P,I,S,X,G,J,Q,o,lc,C];show M11.lim=_;rw [E11.lim,Y.lim,E8.lim,F7.lim];rw [K5 E11.ok _ b3 (by omega),E11.old i (by omega) (by omega),Y.old i (by omega),F8 i j]
end Go.Proofs.YtfddpcckppibjaaGreatDoor.TT
