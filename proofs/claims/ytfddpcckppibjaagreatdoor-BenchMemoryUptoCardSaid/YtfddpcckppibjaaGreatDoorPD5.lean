/- Values and operators, and the evaluation of an expression, walked; conditions: the memory holds what the arguments say. -/
import Derived.Test.YtfddpcckppibjaaGreatDoorPD4
set_option linter.all false
namespace Go.Proofs.YtfddpcckppibjaaGreatDoor.TT
open Go Go.AM
noncomputable section
def RQ (least:Int)(p:Int×List Tok):List Tok:=if yC p.1<least then (3,[40])::(p.2 ++ [(3,[41])]) else p.2
def apo (k:Int):Tok:=(ajk (Ui k),Ui k)
def XU:List (List Tok)->List Tok
 | []=>[]
 | [a]=>a
 | a::b::l=>a++(3,[44])::XU (b::l)
def aeX (k n:Int)(s:By)(l:List (Int×List Tok)):List Tok:=
 if k=1 then [(2,Lib.itoa n)] else if k=2 then [(1,s)] else if k=3 then (1,s)::(3,[40])::(XU (l.map (·.2)) ++ [(3,[41])])
 else if k=4 then (3,[45])::RQ 6 (l.getD 0 (0,[])) else if k=5 then (1,[110,111,116])::RQ 2 (l.getD 0 (0,[]))
 else RQ (if yC k=3 then 4 else yC k) (l.getD 0 (0,[]))++(apo k::RQ (yC k+1) (l.getD 1 (0,[])))
mutual
def tkE:Ex->List Tok
 | .mk k n s a=>aeX k n s (tkL a)
def tkL:List Ex->List (Int×List Tok)
 | []=>[]
 | e::l=>(sK e,tkE e)::tkL l
end
end
noncomputable section
end
noncomputable section
theorem aaX {k n:Int}{s:By}{a:List Ex}(h:iK (.mk k n s a)=true)(f:6<=k)(g:k<=18):n=0∧s=[]∧∃x y,a=[x,y]∧iK x=true∧iK y=true:=by
 simp only [iK,q8,decide_eq_true_eq,aci] at h;obtain⟨⟨⟨⟨l,b⟩,d⟩,e⟩,c⟩:=h;have j:bT k=2:=by unfold bT;rw [if_neg (by omega),if_neg (by omega),if_neg (by omega),if_pos ⟨f,g⟩]
 rw [if_neg (by omega)] at d e;rw [j] at b;have i:a.length=2:=by rcases b with b | b<;>omega
 match a,i with
 | [x,y],_=>simp only [V6,q8] at c;exact⟨by simpa using d,by simpa using e,x,y,rfl,c.1,c.2.1⟩
theorem zW {k n:Int}{s:By}{a:List Ex}(h:iK (.mk k n s a)=true)(f:k=4∨k=5):n=0∧s=[]∧∃x,a=[x]∧iK x=true:=by
 simp only [iK,q8,decide_eq_true_eq,aci] at h;obtain⟨⟨⟨⟨j,b⟩,c⟩,d⟩,e⟩:=h;have i:bT k=1:=by unfold bT;rw [if_neg (by omega),if_neg (by omega),if_pos f]
 rw [if_neg (by omega)] at c d;rw [i] at b;have g:a.length=1:=by rcases b with b | b<;>omega
 match a,g with
 | [x],_=>simp only [V6,q8] at e;exact⟨by simpa using c,by simpa using d,x,rfl,e.1⟩
theorem XV {k n:Int}{s:By}{a:List Ex}(h:iK (.mk k n s a)=true):k=1∨k=2∨k=3∨k=4∨k=5∨(6<=k∧k<=18):=by simp only [iK,q8,decide_eq_true_eq,aci] at h;obtain⟨⟨⟨⟨b,d⟩,e⟩,f⟩,g⟩:=h;unfold bT at b;by_cases c:k=1∨k=2∨k=3∨k=4∨k=5∨(6<=k∧k<=18);exact c;rw [if_neg (by omega),if_neg (by omega),if_neg (by omega),if_neg (by omega)] at b;exact absurd rfl b
theorem oZ {k n:Int}{s:By}{a:List Ex}(h:iK (.mk k n s a)=true)(f:k=1∨k=2):a=[]∧(k=1->0<=n∧n<=9007199254740992∧s=[])∧(k=2->n=0∧Kz s=true):=by
 simp only [iK,q8,decide_eq_true_eq,aci] at h;obtain⟨⟨⟨⟨i,e⟩,b⟩,d⟩,j⟩:=h;have g:bT k=0:=by unfold bT;rw [if_neg (by omega),if_pos f]
 rw [g] at e;refine⟨?_,λc=>?_,λc=>?_⟩;rcases e with e | e;omega;exact aa2.1 (by omega);rw [if_pos c] at b;rw [if_neg (by omega)] at d;simp only [q8,decide_eq_true_eq] at b d;exact⟨b.1,b.2,d⟩;rw [if_neg (by omega)] at b;rw [if_pos (.inl c)] at d;exact⟨by simpa using b,d⟩
end
def nW (n:Int):Bool:=decide (-9007199254740992<=n)&&decide (n<=9007199254740992)
def FB (b:Bool):Int:=if b then 1 else 0
def XW (n:Int):Int×Int:=if nW n=true then (n,0) else (0,3)
def gN (x:Int):Int:=max x (-x)
def UL (x y:Int):Int×Int:=if 9007199254740992<gN x*gN y then (0,3) else (x*y,0)
def dvB (x y:Int):Int×Int:=if y=0 then (0,5) else (x.tdiv y,0)
def mdB (x y:Int):Int×Int:=if y=0 then (0,5) else (x.tmod y,0)
def Uo (k a b:Int):Bool:=if k=11 then decide (a<b) else if k=12 then decide (a<=b) else if k=13 then decide (b<a) else if k=14 then decide (b<=a) else if k=15 then decide (a=b) else !decide (a=b)
def UM (k a b:Int):Int×Int:=
 if k=6 then UL a b else if k=7 then dvB a b else if k=8 then mdB a b else if k=9 then XW (a+b) else if k=10 then XW (a-b) else (FB (Uo k a b),0)
def ru (a b:Int):Int:=if a=0 then b else a
def Uq (k:Int)(a b:Int×Int):Int×Int:=
 if k=4 then (-a.1,a.2) else if k=5 then (FB (decide (a.1=0)),a.2)
 else if k=17∨k=18 then (if (!decide (a.1=0))=decide (k=18) then (FB (!decide (a.1=0)),a.2) else (FB (!decide (b.1=0)),ru a.2 b.2))
 else ((UM k a.1 b.1).1,ru (ru a.2 b.2) (UM k a.1 b.1).2)
def lkV:List (List UInt8×Int)->List UInt8->Int
 | [],_=>0
 | (x,n)::l,s=>if x=s then n else lkV l s
section
variable (V:List (List UInt8×Int))
mutual
def qm:Ex->Int×Int
 | .mk k n s a=>if k=1 then (n,0) else if k=2 then (lkV V s,0) else Uq k ((vlL a).getD 0 (0,0)) ((vlL a).getD 1 (0,0))
def vlL:List Ex->List (Int×Int)
 | []=>[]
 | e::l=>qm e::vlL l
end
end
theorem Dj {x:Int}(h:nW x=true):gN x<=9007199254740992:=by simp only [nW,q8,decide_eq_true_eq] at h;unfold gN;omega
theorem RS (x y:Int):gN (x*y)=gN x*gN y:=by
 have e:∀z:Int,gN z=(z.natAbs:Int):=λz=>by unfold gN;omega
 rw [e,e,e,Int.natAbs_mul];simp
theorem Qx {x:Int}(h:gN x<=9007199254740992):nW x=true:=by unfold gN at h;simp only [nW,q8,decide_eq_true_eq];omega
theorem KJ (b:Bool):nW (FB b)=true:=by cases b<;>decide
theorem NZ (a b:Int)(h:b≠0):gN (a.tdiv b)<=gN a:=by
 have e:∀z:Int,gN z=(z.natAbs:Int):=λz=>by unfold gN;omega
 rw [e,e,Int.natAbs_tdiv];exact Int.ofNat_le.2 (aj1 _ _)
theorem XY (a b:Int):gN (a.tmod b)<=gN a:=by
 have e:∀z:Int,gN z=(z.natAbs:Int):=λz=>by unfold gN;omega
 rw [e,e,Int.natAbs_tmod];exact Int.ofNat_le.2 (Nat.mod_le _ _)
theorem aeY (k:Int){a b:Int}(e:nW a=true)(hb:nW b=true):nW (UM k a b).1=true:=by
 have c:=Dj e;have d:∀n,nW (XW n).1=true:=λn=>by unfold XW;split<;>first | assumption | decide
 unfold UM;split;unfold UL;split;decide;rename_i h;exact Qx (by rw [RS];omega);split;unfold dvB;split;decide;rename_i h;exact Qx (Int.le_trans (NZ a b h) c);split;unfold mdB;split;decide;exact Qx (Int.le_trans (XY a b) c);split;exact d _;split;exact d _;exact KJ _
theorem aeZ (k:Int){a b:Int×Int}(c:nW a.1=true)(hb:nW b.1=true):nW (Uq k a b).1=true:=by
 unfold Uq;split;simp only [nW,q8,decide_eq_true_eq] at *;omega;split;exact KJ _;split;split<;>exact KJ _
 exact aeY k c hb
theorem af0 {V:List (List UInt8×Int)}(h:∀p∈V,nW p.2=true)(s:List UInt8):nW (lkV V s)=true:=by
 induction V with
 | nil=>rw [lkV];decide
 | cons p l ih=>obtain⟨x,n⟩:=p;rw [lkV];split;exact h (x,n) (by simp);exact ih λq a=>h q (by simp [a])
def XZ:Ex->Prop
 | .mk k n s a=>(k=1->nW n=true)∧nuL a
where nuL:List Ex->Prop
 | []=>True
 | e::l=>XZ e∧nuL l
mutual
theorem Qy {V:List (List UInt8×Int)}(hV:∀p∈V,nW p.2=true):∀e:Ex,XZ e->nW (qm V e).1=true
 | .mk k n s a,h=>by
  rw [XZ] at h;rw [qm];split;rename_i hk;exact h.1 hk;split;exact af0 hV s;have hl:=Ya hV a h.2;have hg:∀i,nW ((vlL V a).getD i (0,0)).1=true:=λi=>by
   rw [Y7];cases hx:(vlL V a)[i]? with
   | none=>decide
   | some x=>exact hl x (Xl hx)
  exact aeZ k (hg 0) (hg 1)
theorem Ya {V:List (List UInt8×Int)}(hV:∀p∈V,nW p.2=true):∀l:List Ex,XZ.nuL l->∀x∈vlL V l,nW x.1=true
 | [],_,x,hx=>by rw [vlL] at hx;cases hx
 | e::l,h,x,hx=>by rw [XZ.nuL] at h;rw [vlL,Z4] at hx;rcases hx with rfl | hx;exact Qy hV e h.1;exact Ya hV l h.2 x hx
end
set_option maxRecDepth 100000
set_option maxHeartbeats 8000000
theorem af2 (x:Int)(n fu:Nat)(m:Mem):j6 KW fu (n+1) (.func 32) [iV x] m=some [⟨.bool (nW x),m⟩]:=by rw [enter (sf:=f32) rfl rfl];by_cases h:-9007199254740992<=x<;>simp [f32,nW,h]
theorem Qz (b:Bool)(n fu:Nat)(m:Mem):j6 KW fu (n+1) (.func 70) [.bool b] m=some [⟨iV (FB b),m⟩]:=by rw [enter (sf:=f70) rfl rfl];cases b<;>simp [f70,FB]
theorem RU (x:Int)(n fu:Nat)(m:Mem):j6 KW fu (n+2) (.func 120) [iV x] m=some [⟨.tuple [.int .i64 (XW x).1,.int .i64 (XW x).2],m⟩]:=by have g:=af2 x n fu m;rw [enter (sf:=f120) rfl rfl];unfold XW;cases h:nW x;rw [h] at g;simp [f120,g];rw [h] at g;simp [f120,g]
theorem RV {b:Int}(h:b≠0)(r:Option d9):Sl b r=r:=by
 match b,h with
 | .ofNat 0,h=>exact absurd rfl h
 | .ofNat (n+1),_=>rfl
 | .negSucc n,_=>rfl
theorem Yb {a b:Int}(h:b≠0)(e:nW a=true):Lc .i64 a b=some (iV (a.tdiv b)):=by have c:=NZ a b h;have d:=Dj e;unfold gN at c d;show Sl b (some (.int .i64 (mK (a.tdiv b))))=_;rw [RV h,O0 (by omega) (by omega)]
theorem af3 {a b:Int}(h:b≠0):YV .i64 a b=some (iV (a.tmod b)):=by show Sl b (some (iV (a.tmod b)))=_;rw [RV h]
theorem acM (x:Int):mm2 true (iV x) (iV (-x))=some (iV (gN x)):=by show some (d9.int .i64 (bi true (bi (pO x (-x)) (-x) x) (bi (pO (-x) x) (-x) x)))=_;rw [R4,iX];unfold gN;by_cases h:x < -x;rw [decide_eq_true h,R4];congr 2;omega;rw [decide_eq_false h,O9];congr 2;omega
theorem aaZ {y:Int}(h:0<y):Int.tdiv 9007199254740992 y=9007199254740992 / y:=Int.tdiv_eq_ediv_of_nonneg (by omega)
theorem Yc {x y:Int}(h:0<y):(9007199254740992 / y<x)↔9007199254740992<x*y:=by rw [Int.ediv_lt_iff_lt_mul h]
theorem ab0 {a b:Int}(g:nW a=true)(hb:nW b=true)(n fu:Nat)(m:Mem):j6 KW fu (n+1) (.func 116) [iV a,iV b] m=some [⟨.tuple [.int .i64 (UL a b).1,.int .i64 (UL a b).2],m⟩]:=by
 rw [enter (sf:=f116) rfl rfl];have o:=Dj g;have p:=Dj hb;simp only [nW,q8,decide_eq_true_eq] at g hb;by_cases h1:a=0;subst h1;have e:UL 0 b=(0,0):=by unfold UL gN;simp
 rw [e];simp [f116];by_cases h2:b=0;subst h2;have e:UL a 0=(0,0):=by unfold UL gN;simp
 rw [e];simp [f116,h1];have j:nY .i64 (-a)=-a:=O0 (n:=-a) (by omega) (by omega);have k:nY .i64 (-b)=-b:=O0 (n:=-b) (by omega) (by omega);have h:=acM a;have i:=acM b;have c:0<gN b:=by unfold gN;omega
 have q:Lc .i64 9007199254740992 (gN b)=some (iV (9007199254740992 / gN b)):=by rw [Yb (by omega) (by decide),aaZ c]
 by_cases h3:9007199254740992<gN a*gN b;have e:UL a b=(0,3):=by unfold UL;rw [if_pos h3]
 have d:decide (9007199254740992 / gN b<gN a)=true:=decide_eq_true ((Yc c).2 h3);rw [e];simp [f116,h1,h2,pMm,Dr,j,k,h,i,q,d,Ja];have e:UL a b=(a*b,0):=by unfold UL;rw [if_neg h3]
 have d:decide (9007199254740992 / gN b<gN a)=false:=decide_eq_false λx=>h3 ((Yc c).1 x);have f:=RS a b;have l:UR .i64 a b=some (iV (a*b)):=by show some (d9.int .i64 (mK (a*b)))=_;rw [O0 (by unfold gN at f h3;omega) (by unfold gN at f h3;omega)]
 rw [e];simp [f116,h1,h2,pMm,Dr,j,k,h,i,q,d,Ja,l]
theorem ab2 {a b:Int}(h:b≠0)(c:nW a=true)(n fu:Nat)(m:Mem):j6 KW fu (n+1) (.func 117) [iV a,iV b] m=some [⟨iV (a.tdiv b),m⟩]:=by have q:=Yb h c;rw [enter (sf:=f117) rfl rfl];simp [f117,q]
theorem ab3 {a b:Int}(h:b≠0)(n fu:Nat)(m:Mem):j6 KW fu (n+1) (.func 118) [iV a,iV b] m=some [⟨iV (a.tmod b),m⟩]:=by have q:=af3 (a:=a) h;rw [enter (sf:=f118) rfl rfl];simp [f118,q]
theorem ab4 {a b:Int}(c:nW a=true)(hb:nW b=true)(n fu:Nat)(m:Mem):j6 KW fu (n+3) (.func 119) [iV a,iV b] m=some [⟨.tuple [.int .i64 (XW (a+b)).1,.int .i64 (XW (a+b)).2],m⟩]:=by simp only [nW,q8,decide_eq_true_eq] at c hb;have w:mK (a+b)=a+b:=O0 (by omega) (by omega);have g:=RU (a+b) n fu m;rw [enter (sf:=f119) rfl rfl];simp [f119,w,g]
theorem ab5 {a b:Int}(c:nW a=true)(hb:nW b=true)(n fu:Nat)(m:Mem):j6 KW fu (n+3) (.func 121) [iV a,iV b] m=some [⟨.tuple [.int .i64 (XW (a-b)).1,.int .i64 (XW (a-b)).2],m⟩]:=by
 simp only [nW,q8,decide_eq_true_eq] at c hb;have w:Dn .i64 a b=some (iV (a-b)):=by show some (d9.int .i64 (mK (a-b)))=_;rw [O0 (by omega) (by omega)]
 have d:mK (a-b)=a-b:=O0 (by omega) (by omega);have g:=RU (a-b) n fu m;rw [enter (sf:=f121) rfl rfl];simp [f121,w,d,g]
theorem ab6 (a b:Int)(n fu:Nat)(m:Mem):j6 KW fu (n+1) (.func 122) [iV a,iV b] m=some [⟨.bool (Uo 11 a b),m⟩]:=by rw [enter (sf:=f122) rfl rfl];simp [f122,Uo]
theorem ab7 (a b:Int)(n fu:Nat)(m:Mem):j6 KW fu (n+1) (.func 123) [iV a,iV b] m=some [⟨.bool (Uo 12 a b),m⟩]:=by rw [enter (sf:=f123) rfl rfl];simp [f123,Uo]
theorem ab8 (a b:Int)(n fu:Nat)(m:Mem):j6 KW fu (n+1) (.func 124) [iV a,iV b] m=some [⟨.bool (Uo 13 a b),m⟩]:=by rw [enter (sf:=f124) rfl rfl];simp [f124,Uo]
theorem ab9 (a b:Int)(n fu:Nat)(m:Mem):j6 KW fu (n+1) (.func 125) [iV a,iV b] m=some [⟨.bool (Uo 14 a b),m⟩]:=by rw [enter (sf:=f125) rfl rfl];simp [f125,Uo]
theorem abb (a b:Int)(n fu:Nat)(m:Mem):j6 KW fu (n+1) (.func 126) [iV a,iV b] m=some [⟨.bool (Uo 15 a b),m⟩]:=by rw [enter (sf:=f126) rfl rfl];simp [f126,Uo]
theorem abd (a b:Int)(n fu:Nat)(m:Mem):j6 KW fu (n+1) (.func 127) [iV a,iV b] m=some [⟨.bool (Uo 16 a b),m⟩]:=by rw [enter (sf:=f127) rfl rfl];simp [f127,Uo]
theorem wz {m:Mem}{p g:Nat}{a b:Int}{r:Bool}(e:m.get p=some (o7 [.func (.func g) [] []])){n fu:Nat}(d:j6 KW fu (n+1) (.func g) [iV a,iV b] m=some [⟨.bool r,m⟩]):
  j6 KW fu (n+2) (.func 113) [iV a,iV b,.ptr p 0] m=some [⟨.tuple [iV (FB r),iV 0],m⟩]:=by
 have c:=Qz r n fu m;rw [enter (sf:=f113) rfl rfl];simp [f113,e,d,c]
theorem RX {m:Mem}{p g:Nat}{a b:Int}{r:Int}(d:m.get p=some (o7 [.func (.func g) [] []])){n fu:Nat}(c:b≠0->j6 KW fu (n+1) (.func g) [iV a,iV b] m=some [⟨iV r,m⟩]):
  j6 KW fu (n+2) (.func 115) [iV a,iV b,.ptr p 0] m=some [⟨.tuple [iV (if b=0 then 0 else r),iV (if b=0 then 5 else 0)],m⟩]:=by
 rw [enter (sf:=f115) rfl rfl];by_cases h:b=0;simp [f115,h];have c:=c h;simp [f115,h,d,c]
theorem wB {m:Mem}(b:m.Ok)(a:m.lim<=m.nx)(g:Nat)(n fu:Nat):j6 KW fu (n+1) (.func 112) [.func (.func g) [] []] m=some [⟨.func (.func 113) [] [.ptr m.nx 0],ext m [o7 [.func (.func g) [] []]]⟩]:=by rw [enter (sf:=f112) rfl rfl];simp [f112,aX b a,w9]
theorem RY {m:Mem}(b:m.Ok)(a:m.lim<=m.nx)(g:Nat)(n fu:Nat):j6 KW fu (n+1) (.func 114) [.func (.func g) [] []] m=some [⟨.func (.func 115) [] [.ptr m.nx 0],ext m [o7 [.func (.func g) [] []]]⟩]:=by rw [enter (sf:=f114) rfl rfl];simp [f114,aX b a,w9]
def YT:List (Int×d9)->Int->Option d9
 | [],_=>none
 | p::l,k=>if k=p.1 then some p.2 else YT l k
noncomputable def mZ (L:List (Int×d9)):List (d9×d9):=L.map λp=>(.int .i64 p.1,p.2)
theorem zX (a b:Int):K8 (iV a) (iV b)=some (decide (a=b)):=by show some (bL a b)=_;rw [fO];congr 1
theorem Oa (z:d9)(k:Int):∀(L:List (Int×d9)) (i:Nat),ob (findKey K8 (iV k) (mZ L) i) (λr=>found false z r)=some ((YT L k).getD z)
 | [],i=>rfl
 | p::L,i=>by show ob (ob (K8 (iV k) (.int .i64 p.1)) λb=>bi b (some (some (i,p.2))) (findKey K8 (iV k) (mZ L) (i+1))) (λr=>found false z r)=_;rw [zX,K4,YT];by_cases h:k=p.1;rw [if_pos h,decide_eq_true h];rfl;rw [if_neg h,decide_eq_false h,O9,Oa z k L (i+1)]
theorem Yd (z:d9)(k:Int)(L:List (Int×d9)){b:Option O6}(hb:b=some (.map (mZ L))):NS b K8 1 z false (iV k)=some ((YT L k).getD z):=by
 subst hb;cases L with
 | nil=>show ob (ob (K8 (iV k) (iV k)) λ_=>some none) (λr=>found false z r)=_;rw [zX];rfl
 | cons p L=>exact Oa z k (p::L) 0
theorem FC (s:Int):∀(L:List (Int×d9)) (i:Nat),YT L s=none->findKey K8 (iV s) (mZ L) i=some none
 | [],i,_=>rfl
 | p::L,i,h=>by rw [YT] at h;by_cases hs:s=p.1;rw [if_pos hs] at h;cases h;rw [if_neg hs] at h;show ob (K8 (iV s) (.int .i64 p.1)) (λb=>bi b (some (some (i,p.2))) (findKey K8 (iV s) (mZ L) (i+1)))=_;rw [zX,K4,decide_eq_false hs,O9,FC s L (i+1) h]
theorem af4 {M:Mem}{q:Nat}{L:List (Int×d9)}(j:M.lim<=q)(g:M.get q=some (.map (mZ L))){s:Int}(hs:YT L s=none)(v:d9)(mp k x:OF)(cf:D7)(ls:List d9)(env:T d9)(a:mp ls env=.map q)(c:k ls env=.int .i64 s)(d:x ls env=v):
  G9 K8 1 mp k x cf ls env M=some [⟨.undef,M.set q (.map (mZ (L ++ [(s,v)])))⟩]:=by
 rw [sG,a,c,d];have f:Nat.blt q M.lim=false:=by
  cases h:Nat.blt q M.lim with
  | false=>rfl
  | true=>have:=X8.mp h;omega
 have i:P7 K8 1 (iV s) (mZ L)=some none:=by
  cases L with
  | nil=>show ob (K8 (iV s) (iV s)) (λ_=>some none)=_;rw [zX];rfl
  | cons p L=>exact FC s (p::L) 0 hs
 have e:mZ (L ++ [(s,v)])=mZ L ++ [(iV s,v)]:=by simp [mZ]
 show bi (Nat.blt q M.lim) none (ob (msB (M.get q) K8 1 (iV s) v) λb=>some [(⟨.undef,M.set q b⟩:VM)])=_;rw [f,g,Ro,i,e];rfl
theorem af5 {m:Mem}(a:m.Ok)(e:m.lim<=m.nx)(L:List (Int×d9))(R:List O6)(s:Int)(v:d9)(hs:YT L s=none)(mp k x:OF)(cf:D7)(ls:List d9)(env:T d9)(b:mp ls env=.map m.nx)(c:k ls env=.int .i64 s)(d:x ls env=v):
  G9 K8 1 mp k x cf ls env (ext m (.map (mZ L)::R))=some [⟨.undef,ext m (.map (mZ (L ++ [(s,v)]))::R)⟩]:=by
 have E:=G7 a (.map (mZ L)::R);rw [af4 (M:=ext m (.map (mZ L)::R)) (q:=m.nx) (L:=L) (by rw [E.lim];exact e) (by rw [A8 a];rfl) hs v mp k x cf ls env b c d,kI a _ _ (by simp)];rfl
def OpF (M:Mem)(k:Int)(fv:d9):Prop:=∀(a b:Int),nW a=true->nW b=true->∀n fu:Nat,QI (j6 KW fu (n+3)) M [iV a,iV b] fv=some [⟨.tuple [.int .i64 (UM k a b).1,.int .i64 (UM k a b).2],M⟩]
noncomputable def QA (m:Mem):List (Int×d9):=[(6,.func (.func 116) [] []),(7,.func (.func 115) [] [.ptr (m.nx+1) 0]),(8,.func (.func 115) [] [.ptr (m.nx+2) 0]),(9,.func (.func 119) [] []),(10,.func (.func 121) [] []),(11,.func (.func 113) [] [.ptr (m.nx+3) 0]),(12,.func (.func 113) [] [.ptr (m.nx+4) 0]),(13,.func (.func 113) [] [.ptr (m.nx+5) 0]),(14,.func (.func 113) [] [.ptr (m.nx+6) 0]),(15,.func (.func 113) [] [.ptr (m.nx+7) 0]),(16,.func (.func 113) [] [.ptr (m.nx+8) 0])]
noncomputable def Ur:List O6:=[o7 [.func (.func 117) [] []],o7 [.func (.func 118) [] []],o7 [.func (.func 122) [] []],o7 [.func (.func 123) [] []],o7 [.func (.func 124) [] []],o7 [.func (.func 125) [] []],o7 [.func (.func 126) [] []],o7 [.func (.func 127) [] []]]
noncomputable def QB (m:Mem)(i j:Nat):Mem:=ext m (.map (mZ ((QA m).take i))::Ur.take j)
theorem kM {m:Mem}(f:m.Ok)(e:m.lim<=m.nx)(i j:Nat){s:Int}{v:d9}(hs:YT ((QA m).take i) s=none)(d:(QA m).take i ++ [(s,v)]=(QA m).take (i+1))(mp k x:OF)(cf:D7)(ls:List d9)(env:T d9)(a:mp ls env=.map m.nx)(b:k ls env=.int .i64 s)(c:x ls env=v):
  G9 K8 1 mp k x cf ls env (QB m i j)=some [⟨.undef,QB m (i+1) j⟩]:=by
 rw [QB,af5 f e _ _ s v hs mp k x cf ls env a b c,d];rfl
theorem dY {m:Mem}(a:m.Ok)(i j:Nat){b:O6}(hb:Ur.take j ++ [b]=Ur.take (j+1)):(QB m i j).Ok∧ext (QB m i j) [b]=QB m i (j+1):=
 ⟨(G7 a _).ok,by rw [QB,I8,QB,← hb];rfl⟩
theorem mJ (m:Mem)(i j:Nat)(a:j<=Ur.length):(QB m i j).nx=m.nx+(j+1):=by rw [QB];simp;omega
theorem af6 {m:Mem}(a:m.Ok)(c:m.lim<=m.nx)(n fu:Nat):j6 KW fu (n+2) (.func 72) [] m=some [⟨.map m.nx,ext m (.map (mZ (QA m))::Ur)⟩]:=by
 have d:∀i j,(QB m i j).lim<=(QB m i j).nx:=λi j=>by rw [QB,(G7 a _).lim];exact aP c (G7 a _).nx
 have u:=kM a c 0 0 (s:=6) (v:=.func (.func 116) [] []) rfl rfl;have g:=RY (dY a 1 0 (b:=o7 [.func (.func 117) [] []]) rfl).1 (d _ _) 117 n fu;rw [(dY a 1 0 rfl).2,mJ m 1 0 (by decide)] at g;have w:=kM a c 1 1 (s:=7) (v:=.func (.func 115) [] [.ptr (m.nx+1) 0]) rfl rfl;have h:=RY (dY a 2 1 (b:=o7 [.func (.func 118) [] []]) rfl).1 (d _ _) 118 n fu;rw [(dY a 2 1 rfl).2,mJ m 2 1 (by decide)] at h;have x:=kM a c 2 2 (s:=8) (v:=.func (.func 115) [] [.ptr (m.nx+2) 0]) rfl rfl;have y:=kM a c 3 2 (s:=9) (v:=.func (.func 119) [] []) rfl rfl;have z:=kM a c 4 2 (s:=10) (v:=.func (.func 121) [] []) rfl rfl;have k:=wB (dY a 5 2 (b:=o7 [.func (.func 122) [] []]) rfl).1 (d _ _) 122 n fu;rw [(dY a 5 2 rfl).2,mJ m 5 2 (by decide)] at k;have A:=kM a c 5 3 (s:=11) (v:=.func (.func 113) [] [.ptr (m.nx+3) 0]) rfl rfl;have l:=wB (dY a 6 3 (b:=o7 [.func (.func 123) [] []]) rfl).1 (d _ _) 123 n fu;rw [(dY a 6 3 rfl).2,mJ m 6 3 (by decide)] at l;have B:=kM a c 6 4 (s:=12) (v:=.func (.func 113) [] [.ptr (m.nx+4) 0]) rfl rfl;have o:=wB (dY a 7 4 (b:=o7 [.func (.func 124) [] []]) rfl).1 (d _ _) 124 n fu;rw [(dY a 7 4 rfl).2,mJ m 7 4 (by decide)] at o;have C:=kM a c 7 5 (s:=13) (v:=.func (.func 113) [] [.ptr (m.nx+5) 0]) rfl rfl;have p:=wB (dY a 8 5 (b:=o7 [.func (.func 125) [] []]) rfl).1 (d _ _) 125 n fu;rw [(dY a 8 5 rfl).2,mJ m 8 5 (by decide)] at p;have D:=kM a c 8 6 (s:=14) (v:=.func (.func 113) [] [.ptr (m.nx+6) 0]) rfl rfl;have q:=wB (dY a 9 6 (b:=o7 [.func (.func 126) [] []]) rfl).1 (d _ _) 126 n fu;rw [(dY a 9 6 rfl).2,mJ m 9 6 (by decide)] at q;have E:=kM a c 9 7 (s:=15) (v:=.func (.func 113) [] [.ptr (m.nx+7) 0]) rfl rfl;have e:=wB (dY a 10 7 (b:=o7 [.func (.func 127) [] []]) rfl).1 (d _ _) 127 n fu;rw [(dY a 10 7 rfl).2,mJ m 10 7 (by decide)] at e
 have f:=kM a c 10 8 (s:=16) (v:=.func (.func 113) [] [.ptr (m.nx+8) 0]) rfl rfl;have r:ext m [.map []]=QB m 0 0:=rfl;have t:QB m 11 8=ext m (.map (mZ (QA m))::Ur):=rfl;rw [enter (sf:=f72) rfl rfl,← t];simp [f72,H8,eZ,r,u,g,w,h,x,y,z,k,A,l,B,o,C,p,D,q,E,e,f]
theorem af7 {m:Mem}(i:m.Ok)(k:Int)(j:6<=k)(l:k<=16):∃fv,YT (QA m) k=some fv∧OpF (ext m (.map (mZ (QA m))::Ur)) k fv:=by
 have g:∀c,(ext m (.map (mZ (QA m))::Ur)).get (m.nx+c)=(O6.map (mZ (QA m))::Ur)[c]?:=λc=>O4 i _ _;generalize ext m (.map (mZ (QA m))::Ur)=M at *;obtain rfl | rfl | rfl | rfl | rfl | rfl | rfl | rfl | rfl | rfl | rfl:k=6∨k=7∨k=8∨k=9∨k=10∨k=11∨k=12∨k=13∨k=14∨k=15∨k=16:=by omega
 exact⟨_,rfl,λa b d f n fu=>by rw [bO];exact ab0 d f (n+2) fu M⟩;refine⟨_,rfl,λa b d f n fu=>?_⟩;rw [bO];have:=RX (n:=n+1) (fu:=fu) (a:=a) (b:=b) (g 1) (λh=>ab2 h d (n+1) fu M);have e:UM 7 a b=dvB a b:=rfl;rw [e,dvB];by_cases h:b=0;rw [if_pos h] at this ⊢;simpa [h] using this;rw [if_neg h] at this ⊢;simpa [h] using this;refine⟨_,rfl,λa b d f n fu=>?_⟩;rw [bO];have:=RX (n:=n+1) (fu:=fu) (a:=a) (b:=b) (g 2) (λh=>ab3 h (n+1) fu M);have e:UM 8 a b=mdB a b:=rfl;rw [e,mdB];by_cases h:b=0;rw [if_pos h] at this ⊢;simpa [h] using this;rw [if_neg h] at this ⊢;simpa [h] using this;exact⟨_,rfl,λa b d f n fu=>by rw [bO];exact ab4 d f n fu M⟩;exact⟨_,rfl,λa b d f n fu=>by rw [bO];exact ab5 d f n fu M⟩;exact⟨_,rfl,λa b d f n fu=>by rw [bO];exact wz (n:=n+1) (fu:=fu) (g 3) (ab6 a b (n+1) fu M)⟩;exact⟨_,rfl,λa b d f n fu=>by rw [bO];exact wz (n:=n+1) (fu:=fu) (g 4) (ab7 a b (n+1) fu M)⟩;exact⟨_,rfl,λa b d f n fu=>by rw [bO];exact wz (n:=n+1) (fu:=fu) (g 5) (ab8 a b (n+1) fu M)⟩;exact⟨_,rfl,λa b d f n fu=>by rw [bO];exact wz (n:=n+1) (fu:=fu) (g 6) (ab9 a b (n+1) fu M)⟩;exact⟨_,rfl,λa b d f n fu=>by rw [bO];exact wz (n:=n+1) (fu:=fu) (g 7) (abb a b (n+1) fu M)⟩;exact⟨_,rfl,λa b d f n fu=>by rw [bO];exact wz (n:=n+1) (fu:=fu) (g 8) (abd a b (n+1) fu M)⟩
set_option maxHeartbeats 16000000
mutual
def OD:Ex->Bool
 | .mk k n s a=>decide (k=3)||UN a
def UN:List Ex->Bool
 | []=>false
 | e::l=>OD e||UN l
end
theorem yD (a b c:Int):ru (ru a b) c=ru a (ru b c):=by unfold ru;by_cases h:a=0<;>simp [h]
theorem Bj (a:Int):ru a 0=a:=by unfold ru;split<;>omega
noncomputable def vmp (V:List (List UInt8×Int)):List (List UInt8×d9):=V.map λp=>(p.1,.int .i64 p.2)
theorem IK (s:List UInt8):∀V:List (List UInt8×Int),(assoc (vmp V) s).getD (iV 0)=.int .i64 (lkV V s)
 | []=>rfl
 | (x,n)::l=>by show (if s=x then some (d9.int .i64 n) else assoc (vmp l) s).getD _=_;rw [lkV];by_cases h:s=x;rw [if_pos h,if_pos h.symm];rfl;rw [if_neg h,if_neg (agn h)];exact IK s l
structure Wd (V:List (List UInt8×Int))(q p8 pm:Nat)(M:Mem):Prop where
 ok:M.Ok
 lim:M.lim<=q
 lq:q<M.nx
 n8:p8≠q
 nm:pm≠q
 l8:p8<M.nx
 lm:pm<M.nx
 g8:M.get p8=some (o7 [.map pm])
 gm:M.get pm=some (.map (aO (vmp V)))
theorem Wd.ext {V:List (List UInt8×Int)}{q p8 a:Nat}{M M':Mem}(h:Wd V q p8 a M)(E:dO q M M'):Wd V q p8 a M':=
 ⟨E.ok,by rw [E.lim];exact h.lim,gq h.lq E.nx,h.n8,h.nm,gq h.l8 E.nx,gq h.lm E.nx,(E.old _ h.l8 h.n8).trans h.g8,(E.old _ h.lm h.nm).trans h.gm⟩
theorem Wd.lm' {V:List (List UInt8×Int)}{q p8 a:Nat}{M:Mem}(h:Wd V q p8 a M):M.lim<=M.nx:=by have:=h.lim;have:=h.lq;omega
theorem Us (z:d9)(s:List UInt8)(L:List (List UInt8×d9)){b:Option O6}(hb:b=some (.map (aO L))):NS b eqStr 1 z false (.str s)=some ((assoc L s).getD z):=by
 subst hb;have a:∀(L:List (List UInt8×d9)) (i:Nat),ob (findKey eqStr (.str s) (aO L) i) (λr=>found false z r)=some ((assoc L s).getD z):=by
  intro L;induction L with
  | nil=>intro i;rfl
  | cons p L ih=>intro i;show ob (ob (eqStr (.str s) (.str p.1)) λb=>bi b (some (some (i,p.2))) (findKey eqStr (.str s) (aO L) (i+1))) (λr=>found false z r)=_;rw [qW,K4,assoc];by_cases h:s=p.1;rw [if_pos h,decide_eq_true h];rfl;rw [if_neg h,decide_eq_false h,O9,ih (i+1)]
 cases L with
 | nil=>show ob (ob (eqStr (.str s) (.str s)) λ_=>some none) (λr=>found false z r)=_;rw [qW];rfl
 | cons p L=>exact a (p::L) 0
theorem af8 {V:List (List UInt8×Int)}{q p8 a:Nat}{M:Mem}(h:Wd V q p8 a M)(s:List UInt8)(n fu:Nat):j6 KW fu (n+1) (.func 36) [.str s,.ptr p8 0] M=some [⟨iV (lkV V s),M⟩]:=by have g:=Us (iV 0) s (vmp V) h.gm;rw [IK] at g;rw [enter (sf:=f36) rfl rfl];simp [f36,h.g8,ah,g]
theorem af9 {q:Nat}{M:Mem}{b:Int}(a:M.Ok)(d:M.lim<=q)(c:q<M.nx)(g:M.get q=some (o7 [iV b]))(e:Int)(n fu:Nat):
  ∃M',j6 KW fu (n+1) (.func 37) [iV e,.ptr q 0] M=some [⟨.tuple [],M'⟩]∧dO q M M'∧M'.get q=some (o7 [iV (ru b e)]):=by
 unfold ru;by_cases h:b=0;refine⟨M.set q (o7 [iV e]),?_,⟨Mem.Ok.set a c _,J2 _,rfl,λi k f=>J6 a _ c f⟩,by rw [if_pos h];exact J9 a _ c rfl⟩;have j:=sB d;rw [enter (sf:=f37) rfl rfl];simp [f37,g,h,j,w9];refine⟨M,?_,dO.refl a,by rw [if_neg h];exact g⟩;rw [enter (sf:=f37) rfl rfl];simp [f37,g,h]
theorem afa {q p8:Nat}{M:Mem}{a:Int}(c:M.Ok)(k:M.lim<=q)(d:q<M.nx)(g:M.get q=some (o7 [iV a]))(v e:Int)(n fu:Nat):
  ∃M',j6 KW fu (n+2) (.func 71) [.agg [.func (.func 36) [] [.ptr p8 0],.nilFunc,.func (.func 37) [] [.ptr q 0]],iV v,iV e] M=some [⟨iV v,M'⟩]∧dO q M M'∧M'.get q=some (o7 [iV (ru a e)]):=by
 have E0:=G7 c [o7 [.func (.func 36) [] [.ptr p8 0],.nilFunc,.func (.func 37) [] [.ptr q 0]]];have b:(ext M [o7 [.func (.func 36) [] [.ptr p8 0],.nilFunc,.func (.func 37) [] [.ptr q 0]]]).get q=some (o7 [iV a]):=(E0.old _ d).trans g;have j:(ext M [o7 [.func (.func 36) [] [.ptr p8 0],.nilFunc,.func (.func 37) [] [.ptr q 0]]]).get M.nx=some (o7 [.func (.func 36) [] [.ptr p8 0],.nilFunc,.func (.func 37) [] [.ptr q 0]]):=by rw [A8 c];rfl
 by_cases h:e=0;refine⟨_,?_,E0.toB,by rw [h,Bj];exact b⟩;rw [enter (sf:=f71) rfl rfl];simp [f71,H8,I8,h];obtain⟨M',f,E1,i⟩:=af9 E0.ok (by rw [E0.lim];exact k) (gq d E0.nx) b e n fu;refine⟨M',?_,E0.toB.trans E1,i⟩;rw [enter (sf:=f71) rfl rfl];simp [f71,H8,I8,h,j,f]
theorem Ye:∀e:Ex,iK e=true->XZ e
 | .mk k n s a,h=>by rw [XZ];refine⟨λhk=>?_,nuL_of a ?_⟩;subst hk;obtain⟨_,h1,_⟩:=oZ h (.inl rfl);have:=h1 rfl;simp only [nW,q8,decide_eq_true_eq];omega;rw [iK] at h;exact ((q8 _ _).mp h).2
where nuL_of:∀l:List Ex,V6 l=true->XZ.nuL l
 | [],_=>trivial
 | e::l,h=>by rw [V6,q8] at h;exact⟨Ye e h.1,nuL_of l h.2⟩
theorem RZ {V:List (List UInt8×Int)}(a:∀p∈V,nW p.2=true){x:Ex}(h:iK x=true):nW (qm V x).1=true:=Qy a x (Ye x h)
def CEv (V:List (List UInt8×Int))(q p8 pm n fu r:Nat):Prop:=∀(M:Mem) (S:Nat->Prop) (e0:Int) (x:Ex) (row:List d9),Wd V q p8 pm M->M.get q=some (o7 [iV e0])->¬ S q->au M S x row->iK x=true->OD x=false->gQ x<=r->
 ∃M',j6 KW fu n (.func 38) [.agg [.func (.func 36) [] [.ptr p8 0],.nilFunc,.func (.func 37) [] [.ptr q 0]],.agg row] M=some [⟨.int .i64 (qm V x).1,M'⟩]∧dO q M M'∧M'.get q=some (o7 [.int .i64 (ru e0 (qm V x).2)])
theorem ajH {M:Mem}{S:Nat->Prop}{rs:Nat}{v:d9}{rows:List (List d9)}(h:jf M S rs v rows){i id o:Nat}(b:i<rows.length)
  (a:qD v none (λid off len _=>idx len (d9.int .i64 i) λk=>some (d9.ptr id (off+k*rs))) (λid off len _=>idx len (d9.int .i64 i) λk=>some (d9.ptr id (off+k*rs)))=some (.ptr id o)):S id∧id<M.nx:=by
 rcases h with⟨_,rfl⟩ | ⟨id0,o0,s0,hv,lt,_⟩;simp at b;rcases hv with⟨c,rfl,_⟩ | rfl;rw [qU,lW _ _ _ b] at a;cases a;exact⟨s0,lt⟩;rw [oP,lW _ _ _ b] at a;cases a;exact⟨s0,lt⟩
theorem KL {V:List (List UInt8×Int)}{q p8 F n fu r:Nat}(z:CEv V q p8 F n fu r){M:Mem}{S:Nat->Prop}{v:d9}{rows:List (List d9)}{a:List Ex}(p:¬ S q)(G:jf M S 4 v rows)(H:D9 M S a rows)(t:UN a=false)(N:U5 a<=r)
  {i:Nat} (b:i<a.length) (P:iK a[i]=true) {A:Mem} (m:dO q M A) (w:Wd V q p8 F A) {s:Int} (g:A.get q=some (o7 [iV s])):
  ∃id o row M',qD v none (λid off len _=>idx len (iV i) λk=>some (d9.ptr id (off+k*4))) (λid off len _=>idx len (iV i) λk=>some (d9.ptr id (off+k*4)))=some (.ptr id o)∧CY (A.get id) o 4=some (.agg row)∧
   j6 KW fu n (.func 38) [.agg [.func (.func 36) [] [.ptr p8 0],.nilFunc,.func (.func 37) [] [.ptr q 0]],.agg row] A=some [⟨.int .i64 (qm V a[i]).1,M'⟩]∧dO q A M'∧M'.get q=some (o7 [.int .i64 (ru s (qm V a[i]).2)])∧id<M.nx∧id≠q:=by
 have W:=D9.len H;have L:=G.mono (S':=S) m.nx (λi b d=>m.old i b (λe=>p (e▸d))) (λi b d=>d);obtain⟨id,o,D,R,T,I,U⟩:=L.slice.at (i:=i) (by omega);obtain⟨C,B⟩:=ajH G (by omega) D;have c:=D9.get H i b (by omega);have E:=c.row;have f:=I 0 4 (by omega) (by omega);rw [U9,W9 (by omega),Y6] at f;have u:id≠q:=λe=>p (e▸C);have j:a[i]∈a:=aa3 b;have O:OD a[i]=false:=by
  have:∀l:List Ex,UN l=false->∀x∈l,OD x=false:=by
   intro l;induction l with
   | nil=>intro _ x c;cases c
   | cons y l z=>intro h x c;rw [UN,ad3] at h;rcases Z4.1 c with rfl | c;exact h.1;exact z h.2 x c
  exact this a t _ j
 have Q:gQ a[i]<=r:=aP (mF a i b) N;obtain⟨M',J,E1,K⟩:=z A S s a[i] rows[i] w g p (au.mono m.nx (λi b d=>m.old i b (λe=>p (e▸d))) (λi b d=>d) _ _ c) P O Q;exact⟨id,o,rows[i],M',D,f,J,E1,K,B,u⟩
theorem Yf (n p:Nat):aB (n+1) (.ptr p 0) (.ptr p 0)=true:=by show bi (Nat.beq p p) (Nat.beq 0 0) false=true;rw [show Nat.beq p p=true from aah p];rfl
theorem Ob (n f p:Nat):aB (n+2) (.func (.func f) [] [.ptr p 0]) (.func (.func f) [] [.ptr p 0])=true:=by show bi (Nat.beq f f) (bi (tC (aB (n+1)) [] []) (tC (aB (n+1)) [.ptr p 0] [.ptr p 0]) false) false=true;rw [show Nat.beq f f=true from aah f,zI,jM,Yf,zI];rfl
theorem abf (p8 q:Nat):aB 100 (.agg [.func (.func 36) [] [.ptr p8 0],.nilFunc,.func (.func 37) [] [.ptr q 0]]) (.agg [.func (.func 36) [] [.ptr p8 0],.nilFunc,.func (.func 37) [] [.ptr q 0]])=true:=by rw [Ib,jM,Ob 97,jM,show aB 99 .nilFunc .nilFunc=true from rfl,jM,Ob 97,zI];rfl
theorem KM (a b:Bool):nZ (.bool a) (.bool b)=some (decide (a=b)):=by cases a<;>cases b<;>rfl
theorem afb {V:List (List UInt8×Int)}(hV:∀p∈V,nW p.2=true){q p8 pm:Nat}(fu:Nat):∀r n:Nat,r+8<=n->CEv V q p8 pm n fu r:=by
 intro r;induction r with
 | zero=>intro n hn M S e0 x D w g R hx T u P;cases x;rw [gQ] at P;omega
 | succ r ih=>
  intro n hn M S e0 x D w g R hx T u P;obtain⟨n,rfl⟩:∃k,n=k+1:=⟨n-1,by omega⟩;obtain⟨k,H,s,a⟩:=x;obtain⟨v,ac,rfl,q1,q2⟩:=hx;have hm:=w.ok;have hl:=w.lm';have E0:=G7 hm [o7 [.func (.func 36) [] [.ptr p8 0],.nilFunc,.func (.func 37) [] [.ptr q 0]],o7 (r4 k H s v)];have t:(ext M [o7 [.func (.func 36) [] [.ptr p8 0],.nilFunc,.func (.func 37) [] [.ptr q 0]],o7 (r4 k H s v)]).get M.nx=some (o7 [.func (.func 36) [] [.ptr p8 0],.nilFunc,.func (.func 37) [] [.ptr q 0]]):=by rw [A8 hm];rfl
  have m:(ext M [o7 [.func (.func 36) [] [.ptr p8 0],.nilFunc,.func (.func 37) [] [.ptr q 0]],o7 (r4 k H s v)]).get (M.nx+1)=some (o7 (r4 k H s v)):=by rw [O4 hm];rfl
  have O:(ext M [o7 [.func (.func 36) [] [.ptr p8 0],.nilFunc,.func (.func 37) [] [.ptr q 0]],o7 (r4 k H s v)]).get q=some (o7 [iV e0]):=(E0.old _ w.lq).trans g;have W:=w.ext (E0.toB (id:=q));have ai:(ext M [o7 [.func (.func 36) [] [.ptr p8 0],.nilFunc,.func (.func 37) [] [.ptr q 0]],o7 (r4 k H s v)]).nx=M.nx+2:=by simp
  have wq:=w.lq;rcases XV T with rfl | rfl | rfl | rfl | rfl | ⟨k1,k2⟩;refine⟨_,?_,E0.toB,by rw [qm,if_pos rfl,Bj];exact O⟩;rw [enter (sf:=f38) rfl rfl,qm,if_pos rfl];simp [f38,H8,I8,t,m];have gv:=af8 W s (n-1) fu;rw [agB (by omega)] at gv;refine⟨_,?_,E0.toB,by rw [qm,if_neg (by decide),if_pos rfl,Bj];exact O⟩;rw [enter (sf:=f38) rfl rfl,qm,if_neg (by decide),if_pos rfl];simp [f38,H8,I8,t,m,gv];rw [OD] at u;simp at u;obtain⟨rfl,rfl,y,rfl,G⟩:=zW T (.inl rfl);rw [OD,decide_eq_false (by omega),ae5] at u;obtain⟨id,o,D,M1,f,h,I,E1,B,l,U⟩:=KL (ih n (by omega)) R q1 q2 u (by rw [gQ] at P;omega) (i:=0) (by simp) (by simpa using G) E0.toB W O;simp at f;have C:=RZ hV G;simp only [afi] at I B;have j:(ext M [o7 [.func (.func 36) [] [.ptr p8 0],.nilFunc,.func (.func 37) [] [.ptr q 0]],o7 (r4 4 0 [] v)]).get id=M.get id:=E0.old _ l;rw [j] at h;refine⟨M1,?_,E0.toB.trans E1,by rw [qm,if_neg (by decide),if_neg (by decide),Uq,if_pos rfl];exact B⟩;have nv:nY .i64 (-(qm V y).1)=-(qm V y).1:=by simp only [nW,q8,decide_eq_true_eq] at C;exact O0 (n:=-(qm V y).1) (by omega) (by omega)
  have e:(qm V (.mk 4 0 [] [y])).1=-(qm V y).1:=by rw [qm,if_neg (by decide),if_neg (by decide),Uq,if_pos rfl];rfl
  rw [enter (sf:=f38) rfl rfl,e];generalize (qm V y).1=z at *;simp [f38,H8,I8,t,m,f,h,j,I,nv];obtain⟨rfl,rfl,y,rfl,G⟩:=zW T (.inr rfl);rw [OD,decide_eq_false (by omega),ae5] at u;obtain⟨id,o,D,M1,f,h,I,E1,B,l,U⟩:=KL (ih n (by omega)) R q1 q2 u (by rw [gQ] at P;omega) (i:=0) (by simp) (by simpa using G) E0.toB W O;simp at f;have C:=RZ hV G;simp only [afi] at I B;have j:(ext M [o7 [.func (.func 36) [] [.ptr p8 0],.nilFunc,.func (.func 37) [] [.ptr q 0]],o7 (r4 5 0 [] v)]).get id=M.get id:=E0.old _ l;rw [j] at h;refine⟨M1,?_,E0.toB.trans E1,by rw [qm,if_neg (by decide),if_neg (by decide),Uq,if_neg (by decide),if_pos rfl];exact B⟩;have e:(qm V (.mk 5 0 [] [y])).1=FB (decide ((qm V y).1=0)):=by rw [qm,if_neg (by decide),if_neg (by decide),Uq,if_neg (by decide),if_pos rfl];rfl
  rw [enter (sf:=f38) rfl rfl,e];generalize (qm V y).1=z at *;have c:=λb=>Qz b (n-1) fu M1;rw [agB (by omega)] at c;simp [f38,H8,I8,t,m,f,h,j,I,c];obtain⟨rfl,rfl,y,z,rfl,G,hz⟩:=aaX T k1 k2;rw [OD,decide_eq_false (by omega),ae5] at u;have Q:U5 [y,z]<=r:=by rw [gQ] at P;omega
  obtain⟨id,o,D,M1,f,h,F,E1,B,l,U⟩:=KL (ih n (by omega)) R q1 q2 u Q (i:=0) (by simp) (by simpa using G) E0.toB W O;have w1:=W.ext E1;have EE1:dO q M M1:=E0.toB.trans E1;obtain⟨ag,o2,ab,M2,X,c4,Z,E2,h2,a9,aa⟩:=KL (ih n (by omega)) R q1 q2 u Q (i:=1) (by simp) (by simpa using hz) EE1 w1 B;have EE2:=EE1.trans E2;simp at f X;have C:=RZ hV G;have a5:=RZ hV hz;simp only [afi,agJ] at F B Z h2;have ad:=E1.nx;have ae:=E2.nx;have j:(ext M [o7 [.func (.func 36) [] [.ptr p8 0],.nilFunc,.func (.func 37) [] [.ptr q 0]],o7 (r4 k 0 [] v)]).get id=M.get id:=E0.old _ l;rw [j] at h;have A:M1.get M.nx=some (o7 [.func (.func 36) [] [.ptr p8 0],.nilFunc,.func (.func 37) [] [.ptr q 0]]):=(E1.old _ (by omega) (by omega)).trans t;have d:M1.get (M.nx+1)=some (o7 (r4 k 0 [] v)):=(E1.old _ (by omega) (by omega)).trans m;have K:M2.get M.nx=some (o7 [.func (.func 36) [] [.ptr p8 0],.nilFunc,.func (.func 37) [] [.ptr q 0]]):=(E2.old _ (by omega) (by omega)).trans A;have J:M2.get (M.nx+1)=some (o7 (r4 k 0 [] v)):=(E2.old _ (by omega) (by omega)).trans d;have e:qm V (.mk k 0 [] [y,z])=Uq k (qm V y) (qm V z):=by rw [qm,if_neg (by omega),if_neg (by omega)];rfl
  have n1:¬ k=1:=by omega
  have n2:¬ k=2:=by omega
  have n3:¬ k=3:=by omega
  have n4:¬ k=4:=by omega
  have n5:¬ k=5:=by omega
  rw [e];generalize qm V y=Y at *;generalize qm V z=Z' at *;by_cases ho:k=17∨k=18;have c:=λb M=>Qz b (n-1) fu M;rw [agB (by omega)] at c;have e2:Uq k Y Z'=if (!decide (Y.1=0))=decide (k=18) then (FB (!decide (Y.1=0)),Y.2) else (FB (!decide (Z'.1=0)),ru Y.2 Z'.2):=by rw [Uq,if_neg (by omega),if_neg (by omega),if_pos ho]
  rw [e2];by_cases hs:(!decide (Y.1=0))=decide (k=18);rw [if_pos hs];refine⟨M1,?_,EE1,B⟩;rw [enter (sf:=f38) rfl rfl];rcases ho with rfl | rfl;have E:Y.1=0:=by simpa using hs
  rw [E] at F;simp [f38,H8,I8,t,m,f,h,j,F,d,c,E,KM];have E:¬ Y.1=0:=by simpa using hs
  simp [f38,H8,I8,t,m,f,h,j,F,d,c,E,KM];rw [if_neg hs];refine⟨M2,?_,EE2,by rw [← yD];exact h2⟩;rw [enter (sf:=f38) rfl rfl];rcases ho with rfl | rfl;have E:¬ Y.1=0:=by simpa using hs
  simp [f38,H8,I8,t,m,f,h,j,F,d,A,X,c4,Z,c,E,KM];have E:Y.1=0:=by simpa using hs
  rw [E] at F;simp [f38,H8,I8,t,m,f,h,j,F,d,A,X,c4,Z,c,E,KM];have k3:k<=16:=by omega
  have a7:¬ k=17:=by omega
  have a8:¬ k=18:=by omega
  have a6:M2.lim<=M2.nx:=(w1.ext E2).lm';have E3:=G7 E2.ok (.map (mZ (QA M2))::Ur);obtain⟨fv,a3,hO⟩:=af7 E2.ok k k1 k3;have lk:=Yd .nilFunc k (QA M2) (b:=(ext M2 (.map (mZ (QA M2))::Ur)).get M2.nx) (by rw [A8 E2.ok];rfl);rw [a3] at lk;have N:=af6 E2.ok a6 (n-2) fu;rw [show n-2+2=n from by omega] at N;have hO:=hO Y.1 Z'.1 C a5 (n-3) fu;rw [show n-3+3=n from by omega] at hO;generalize hM3:ext M2 (.map (mZ (QA M2))::Ur)=M3 at *;have h3:M3.get q=some (o7 [.int .i64 (ru (ru e0 Y.2) Z'.2)]):=(E3.old _ (by omega)).trans h2;have a2:M3.get M.nx=some (o7 [.func (.func 36) [] [.ptr p8 0],.nilFunc,.func (.func 37) [] [.ptr q 0]]):=(E3.old _ (by omega)).trans K;have a0:M3.get (M.nx+1)=some (o7 (r4 k 0 [] v)):=(E3.old _ (by omega)).trans J;have af:=E3.nx;obtain⟨M4,L,E4,h4⟩:=afa (p8:=p8) E3.ok (by rw [E3.lim,EE2.lim];exact w.lim) (by omega) h3 (UM k Y.1 Z'.1).1 (UM k Y.1 Z'.1).2 (n-2) fu;rw [show n-2+2=n from by omega] at L;have e2:Uq k Y Z'=((UM k Y.1 Z'.1).1,ru (ru Y.2 Z'.2) (UM k Y.1 Z'.1).2):=by rw [Uq,if_neg (by omega),if_neg (by omega),if_neg ho]
  rw [e2];refine⟨M4,?_,(EE2.trans E3.toB).trans E4,by rw [← yD,← yD];exact h4⟩;rw [enter (sf:=f38) rfl rfl];simp [f38,H8,I8,t,m,f,h,j,F,d,A,X,c4,Z,N,K,J,a2,a0,ah,lk,hO,L,abf,vU,n1,n2,n3,n4,n5,a7,a8]
structure Ex2 (p q:Nat)(m m':Mem):Prop where
 ok:m'.Ok
 nx:m.nx<=m'.nx
 lim:m'.lim=m.lim
 old:∀i,i<m.nx->i≠p->i≠q->m'.get i=m.get i
theorem Ex2.refl {p q:Nat}{m:Mem}(h:m.Ok):Ex2 p q m m:=⟨h,J2 _,rfl,λ_ _ _ _=>rfl⟩
theorem Ex2.trans {p q:Nat}{a b c:Mem}(h:Ex2 p q a b)(k:Ex2 p q b c):Ex2 p q a c:=
 ⟨k.ok,aP h.nx k.nx,k.lim.trans h.lim,λi f d e=>(k.old i (gq f h.nx) d e).trans (h.old i f d e)⟩
theorem _root_.Go.AM.Ext.to2 {p q:Nat}{a b:Mem}(h:Ext a b):Ex2 p q a b:=⟨h.ok,h.nx,h.lim,λi c _ _=>h.old i c⟩
def isIn (V:List (List UInt8×Int))(s:List UInt8):Bool:=V.any λp=>p.1==s
mutual
def unE (V:List (List UInt8×Int)):Ex->Bool
 | .mk k n s a=>(decide (k=2) && !isIn V s)||unL V a
def unL (V:List (List UInt8×Int)):List Ex->Bool
 | []=>false
 | e::l=>unE V e||unL V l
end
theorem Oc (s:List UInt8):∀V:List (List UInt8×Int),(assoc (vmp V) s).isSome=isIn V s
 | []=>rfl
 | (x,n)::l=>by
  show (if s=x then some (d9.int .i64 n) else assoc (vmp l) s).isSome=(x==s||isIn l s)
  by_cases h:s=x;subst h;simp;have hx:(x==s)=false:=by simpa using (agn h)
  rw [if_neg h,Oc s l,hx,ae5]
structure Vi (V:List (List UInt8×Int))(p8 pm pc pu:Nat)(M:Mem)(c u:Bool):Prop where
 ok:M.Ok
 lc:M.lim<=pc
 lu:M.lim<=pu
 bc:pc<M.nx
 bu:pu<M.nx
 cu:pc≠pu
 n8:p8≠pc∧p8≠pu
 nm:pm≠pc∧pm≠pu
 b8:p8<M.nx
 bm:pm<M.nx
 g8:M.get p8=some (o7 [.map pm])
 gm:M.get pm=some (.map (aO (vmp V)))
 gc:M.get pc=some (o7 [.bool c])
 gu:M.get pu=some (o7 [.bool u])
theorem Vi.ext {V:List (List UInt8×Int)}{p8 d b e:Nat}{M a:Mem}{c u:Bool}(h:Vi V p8 d b e M c u)(E:Ext M a):Vi V p8 d b e a c u:=
 ⟨E.ok,by rw [E.lim];exact h.lc,by rw [E.lim];exact h.lu,gq h.bc E.nx,gq h.bu E.nx,h.cu,h.n8,h.nm,gq h.b8 E.nx,gq h.bm E.nx,(E.old _ h.b8).trans h.g8,(E.old _ h.bm).trans h.gm,(E.old _ h.bc).trans h.gc,(E.old _ h.bu).trans h.gu⟩
theorem afc {V:List (List UInt8×Int)}{p8 F d l:Nat}{M:Mem}{c u:Bool}(h:Vi V p8 F d l M c u)(k r:Int)(s:List UInt8)(v:d9)(K:Go.AM.w9 v=true)(J:v.cells=[v])(n fu:Nat):
  ∃M',j6 KW fu (n+1) (.func 35) [.agg (r4 k r s v),.ptr p8 0,.ptr d 0,.ptr l 0] M=some [⟨.tuple [],M'⟩]∧Ex2 d l M M'∧Vi V p8 F d l M' (c||decide (k=3)) (u||(decide (k=2) && !isIn V s)):=by
 have E0:=G7 h.ok [o7 (r4 k r s v)];have q:(ext M [o7 (r4 k r s v)]).get M.nx=some (o7 (r4 k r s v)):=by rw [A8 h.ok];rfl
 have a:=h.ext E0;have o:=Fx (iV 0) s (vmp V) (.inl a.gm);have b:=Oc s V;have p:=a.bc;have E:=a.bu;have L:(ext M [o7 (r4 k r s v)]).nx=M.nx+1:=by simp
 have H:=h.bc;have I:=h.bu;generalize hA:ext M [o7 (r4 k r s v)]=A at *;have t:=sB a.lc;have j:∀B,(A.set d B).Ok:=λB=>Mem.Ok.set a.ok p _;have z:∀B,(A.set d B).get d=some B:=λB=>J9 a.ok _ p rfl;have f:∀B,(A.set d B).get l=some (o7 [.bool u]):=λB=>(J6 a.ok _ p (agn h.cu)).trans a.gu;have e:∀B,(A.set d B).get M.nx=some (o7 (r4 k r s v)):=λB=>(J6 a.ok _ p (by omega)).trans q;have x:=λB (β:Type) off vs (k:Mem->Option β)=>iq (m:=A.set d B) (id:=l) a.lu off vs k;have g:∀B,l<(A.set d B).nx:=λB=>E;refine⟨(A.set d (o7 [.bool (c||decide (k=3))])).set l (o7 [.bool (u||(decide (k=2) && !isIn V s))]),?_,⟨Mem.Ok.set (j _) (g _) _,by show M.nx<=A.nx;omega,E0.lim,λi G C D=>?_⟩,?_⟩
 rw [enter (sf:=f35) rfl rfl];cases ha:assoc (vmp V) s with
 | none=>
  rw [ha] at o b;have b:isIn V s=false:=b.symm;by_cases k3:k=3;subst k3;cases c<;>cases u<;>simp [f35,H8,hA,q,e,a.g8,a.gc,f,ah,o,t,x,w9,b]
  by_cases k2:k=2;subst k2;cases c<;>cases u<;>simp [f35,H8,hA,q,e,a.g8,a.gc,f,ah,o,t,x,w9,b]
  cases c<;>cases u<;>simp [f35,H8,hA,q,e,a.g8,a.gc,f,ah,o,t,x,w9,b,k2,k3]
 | some w=>
  rw [ha] at o b;have b:isIn V s=true:=b.symm;by_cases k3:k=3;subst k3;cases c<;>cases u<;>simp [f35,H8,hA,q,e,a.g8,a.gc,f,ah,o,t,x,w9,b]
  by_cases k2:k=2;subst k2;cases c<;>cases u<;>simp [f35,H8,hA,q,e,a.g8,a.gc,f,ah,o,t,x,w9,b]
  cases c<;>cases u<;>simp [f35,H8,hA,q,e,a.g8,a.gc,f,ah,o,t,x,w9,b,k2,k3]
 rw [J6 (j _) _ (g _) D,J6 a.ok _ p C,E0.old i G];have y:∀i,i≠d->i≠l->((A.set d (o7 [.bool (c||decide (k=3))])).set l (o7 [.bool (u||(decide (k=2) && !isIn V s))])).get i=A.get i:=λi C D=>by rw [J6 (j _) _ (g _) D,J6 a.ok _ p C]
 exact⟨Mem.Ok.set (j _) (g _) _,a.lc,a.lu,p,E,h.cu,h.n8,h.nm,a.b8,a.bm,(y _ h.n8.1 h.n8.2).trans a.g8,(y _ h.nm.1 h.nm.2).trans a.gm,by rw [J6 (j _) _ (g _) h.cu];exact z _,J9 (j _) _ (g _) rfl⟩
def CVi (V:List (List UInt8×Int))(p8 pm pc pu n fu r:Nat):Prop:=∀(M:Mem) (S:Nat->Prop) (x:Ex) (row:List d9) (c u:Bool),Vi V p8 pm pc pu M c u->¬ S pc->¬ S pu->au M S x row->gQ x<=r->iJ x<=10000->
 ∃M',j6 KW fu n (.func 34) [.agg row,(.func (.func 35) [] [.ptr p8 0,.ptr pc 0,.ptr pu 0])] M=some [⟨.tuple [],M'⟩]∧Ex2 pc pu M M'∧Vi V p8 pm pc pu M' (c||OD x) (u||unE V x)
theorem abj {V:List (List UInt8×Int)}{p8 C f g n fu r:Nat}(U:CVi V p8 C f g n fu r){M:Mem}{S:Nat->Prop}(t:¬ S f)(x:¬ S g){v:d9}{rows:List (List d9)}(a:List Ex)(X:jf M S 4 v rows)(F:D9 M S a rows)(hL:U5 a<=r)(hP:R5 a<=10000)(row:List d9)(s:Nat):
  ∀(j i:Nat),i+j=a.length->∀(c5 x7:d9) (c u:Bool) (A:Mem) (N:Nat),Ex2 f g M A->Vi V p8 C f g A c u->j+1<=N->
  ∃c5' x7' M',I4 (λenv m k=>Nv (j6 KW fu n) fu none env m k) N (pJ (.agg row) (.func (.func 35) [] [.ptr p8 0,.ptr f 0,.ptr g 0]) (.ptr s 0) (iV (i:Int)) (iV (a.length:Int)) c5 v x7) A []=some [⟨.exit 0,(pJ (.agg row) (.func (.func 35) [] [.ptr p8 0,.ptr f 0,.ptr g 0]) (.ptr s 0) (iV (a.length:Int)) (iV (a.length:Int)) c5' v x7'),M',[],none⟩]∧Ex2 f g A M'∧Vi V p8 C f g M' (c||UN (a.drop i)) (u||unL V (a.drop i)):=by
 have hr:=D9.len F;have P:=Q8 a;intro j;induction j with
 | zero=>
  intro i h c5 x7 c u A N EA w O;obtain⟨N,rfl⟩:∃k,N=k+1:=⟨N-1,by omega⟩;obtain rfl:i=a.length:=by omega
  refine⟨.bool false,x7,A,?_,Ex2.refl w.ok,by rw [ac1,UN,unL,alq,alq];exact w⟩;rw [p9];simp [Nv]
 | succ j ihj=>
  intro i h c5 x7 c u A N EA w O;obtain⟨N,rfl⟩:∃k,N=k+1:=⟨N-1,by omega⟩;have d:i<a.length:=by omega
  have p:(i:Int)<(a.length:Int):=by omega
  have b:=X.mono (S':=S) EA.nx (λi h b=>EA.old i h (λe=>t (e▸b)) (λe=>x (e▸b))) (λi h b=>b);obtain⟨id,o,G,a2,a3,H,a5⟩:=b.slice.at (i:=i) (by omega);have E:=D9.get F i d (by omega);have q:=E.row;have l:=H 0 4 (by omega) (by omega);rw [U9,W9 (by omega),Y6] at l;have y:a.drop i=a[i]::a.drop (i+1):=Y8 d;have R:=mF a i d;have hp:=jh a i d;have E0:=G7 w.ok [o7 rows[i]];have Y:=w.ext E0;have L:(ext A [o7 rows[i]]).get A.nx=some (o7 rows[i]):=by rw [A8 w.ok];rfl
  have EE:=EA.trans E0.to2;have z:=au.mono (S':=S) EE.nx (λi h b=>EE.old i h (λe=>t (e▸b)) (λe=>x (e▸b))) (λi h b=>b) _ _ E;obtain⟨M1,J,E1,Z⟩:=U (ext A [o7 rows[i]]) S a[i] rows[i] c u Y t x z (by omega) (by omega);obtain⟨c5',x7',M',K,E2,w2⟩:=ihj (i+1) (by omega) tt (.ptr A.nx 0) _ _ M1 N (EE.trans E1) Z (by omega);refine⟨c5',x7',M',?_,(E0.to2.trans E1).trans E2,by rw [y,UN,unL,← ahZ,← ahZ];exact w2⟩;rw [p9,← K];have B:rows[i].length=4:=by omega
  have D:Go.AM.uW (some (o7 (r4 0 0 [] nS))) 0 rows[i]=some (o7 rows[i]):=by rw [Go.AM.gZ (by simp [B]) (by simp)];simp [B]
  have W:Go.AM.CY (some (o7 rows[i])) 0 4=some (.agg rows[i]):=by rw [fP (by omega) (by omega),U9,W9 (by omega)]
  have I:K5 rows[i]=true:=q.2;have T:=w.ok;have Q:A.lim<=A.nx:=by have:=w.lc;have:=w.bc;omega
  simp [Nv,aX T Q,w9,p,G,l,B,D,I,L,W,J,P9 (i:=i) (by omega)]
theorem afd {V:List (List UInt8×Int)}{p8 O j l:Nat}(fu:Nat)(K:20000<=fu):∀r n:Nat,r+3<=n->CVi V p8 O j l n fu r:=by
 intro r;induction r with
 | zero=>intro n L M S x o c u w z A C i B;cases x;rw [gQ] at i;omega
 | succ r ih=>
  intro n L M S x o c u w z A C i B;obtain⟨n,rfl⟩:∃k,n=k+1:=⟨n-1,by omega⟩;obtain⟨k,d,s,a⟩:=x;obtain⟨v,E,rfl,e,D⟩:=C;rw [gQ] at i;rw [iJ] at B;have J:=Q8 a;have E0:=G7 w.ok [o7 (r4 k d s v)];have P:=w.ext E0;have H:=e.slice.cells;have N:=e.slice.w9;have b:=e.slice.len;rw [D9.len D] at b;have y:(ext M [o7 (r4 k d s v)]).get M.nx=some (o7 (r4 k d s v)):=by rw [A8 w.ok];rfl
  obtain⟨M1,t,E1,Q⟩:=afc P k d s v N H (n-1) fu;rw [agB (by omega)] at t;have T:=w.bc;have U:=w.bu;have W:(ext M [o7 (r4 k d s v)]).nx=M.nx+1:=by simp
  have h:M1.get M.nx=some (o7 (r4 k d s v)):=(E1.old _ (by omega) (by omega) (by omega)).trans y;have EE:=(E0.to2 (p:=j) (q:=l)).trans E1;obtain⟨G,R,M',I,E2,F⟩:=abj (ih n (by omega)) z A a e D (by omega) (by omega) (r4 k d s v) M.nx a.length 0 (by omega) .undef .undef (_) _ M1 fu EE Q (by omega);rw [U9] at F;refine⟨M',?_,EE.trans E2,by rw [OD,unE,← ahZ,← ahZ];exact F⟩;have g:I4 (λf m k=>Nv (j6 KW fu n) fu none f m k) fu (pJ (.agg (r4 k d s v)) (.func (.func 35) [] [.ptr p8 0,.ptr j 0,.ptr l 0]) (.ptr M.nx 0) (iV 0) (iV (a.length:Int)) .undef v .undef) M1 []=_:=I;rw [enter (sf:=f34) rfl rfl];simp [f34,H8,y,h,t,b,g]
theorem abk (a:d9)(n fu:Nat)(b:20000<=fu)(m:Mem):j6 KW fu (n+1) (.func 68) [nS,a] m=some [⟨iV (-1),m⟩]:=by obtain⟨fu,rfl⟩:∃k,fu=k+1:=⟨fu-1,by omega⟩;rw [enter (sf:=f68) rfl rfl];simp [f68,acv,p9]
theorem abl (b:d9)(n fu:Nat)(a:20000<=fu)(m:Mem):j6 KW fu (n+2) (.func 30) [nS,b] m=some [⟨.bool false,m⟩]:=by have g:=abk b n fu a m;rw [enter (sf:=f30) rfl rfl];simp [f30,g]
theorem afe {m:Mem}(c:m.Ok)(b:m.lim<=m.nx)(v:d9)(d:Go.AM.w9 v=true)(a:v.cells=[v])(n fu:Nat):j6 KW fu (n+1) (.func 33) [v] m=some [⟨.func (.func 69) [] [.ptr m.nx 0],ext m [o7 [v]]⟩]:=by rw [enter (sf:=f33) rfl rfl];simp [f33,aX c b,w9,d,a]
theorem abm {m:Mem}{p:Nat}(h:m.get p=some (o7 [nS]))(y:d9)(n fu:Nat)(a:20000<=fu):j6 KW fu (n+1) (.func 69) [y,.ptr p 0] m=some [⟨.tuple [],m⟩]:=by obtain⟨fu,rfl⟩:∃k,fu=k+1:=⟨fu-1,by omega⟩;have w:Dn .i64 0 1=some (iV (-1)):=rfl;have b:mK (0-1)=-1:=rfl;have c:mK (-1)=-1:=rfl;rw [enter (sf:=f69) rfl rfl];simp [f69,acw,p9,h,w,b,c]
def apr (n fu r:Nat):Prop:=∀(m:Mem) (row:List d9) (e:Ex),m.Ok->m.lim<=m.nx->au m (λ_=>True) e row->iK e=true->OD e=false->unE [] e=false->iJ e<=500->gQ e<=r->
 ∃m',j6 KW fu n (.func 13) [.agg row,nS] m=some [⟨.tuple [.int .i64 (qm [] e).1,.int .i64 (qm [] e).2],m'⟩]∧Ext m m'
theorem abn (fu:Nat)(h:20000<=fu)(n r:Nat)(hr:r<=20)(hn:150<=n):apr n fu r:=by
 intro m row e hm hl hx hf hc hu hp hL;obtain⟨n,rfl⟩:∃k,n=k+3:=⟨n-3,by omega⟩;have q:=hx;have K:∀{M:Mem},Ext m M->au M (λ_=>True) e row:=λE=>Gs E q;obtain⟨k,f,s,a⟩:=e;obtain⟨v,a0,rfl,q1,q2⟩:=hx;have cv:=q1.slice.cells;have ov:=q1.slice.w9;have E0:=G7 hm [o7 (r4 k f s v)];have L:∀{M:Mem},Ext m M->M.lim<=M.nx:=λE=>by rw [E.lim];exact aP hl E.nx
 have D:(ext m [o7 (r4 k f s v)]).get m.nx=some (o7 (r4 k f s v)):=by rw [A8 hm];rfl
 have a2:(ext m [o7 (r4 k f s v)]).nx=m.nx+1:=by simp
 obtain⟨t,u,E1⟩:=Xt (n:=n) (d:=22) (by omega) h (Xu (n+1) fu 22 h (by omega) (by omega)) E0.ok (L E0) (K E0) (by omega);have hb:=(Rz (.mk k f s a) 22).1 (by omega);have ez:I7 (bE 22 (.mk k f s a))=[.int .i64 (iJ (.mk k f s a):Int),.int .i64 (gQ (.mk k f s a):Int)]:=by rw [hb];rfl
 rw [ez] at u;have w:j6 KW fu (n+2) (.func 28) [.agg (r4 k f s v),iV 22] (ext m [o7 (r4 k f s v)])=_:=u;have F1:=E0.trans E1;have F:t.get m.nx=some (o7 (r4 k f s v)):=(E1.old _ (by omega)).trans D;have E2:=G7 F1.ok [o7 [.int .i64 (iJ (.mk k f s a):Int),.int .i64 (gQ (.mk k f s a):Int)]];have F2:=F1.trans E2;have n1:=E1.nx;have H:(ext t [o7 [.int .i64 (iJ (.mk k f s a):Int),.int .i64 (gQ (.mk k f s a):Int)]]).get m.nx=some (o7 (r4 k f s v)):=(E2.old _ (by omega)).trans F;have W:(ext t [o7 [.int .i64 (iJ (.mk k f s a):Int),.int .i64 (gQ (.mk k f s a):Int)]]).get t.nx=some (o7 [.int .i64 (iJ (.mk k f s a):Int),.int .i64 (gQ (.mk k f s a):Int)]):=by rw [A8 F1.ok];rfl
 obtain⟨c,x,E3⟩:=RI fu h 20 (n+2) (by omega) _ (r4 k f s v) (.mk k f s a) F2.ok (L F2) (K F2) (by omega) (by omega);rw [hf] at x;have F3:=F2.trans E3;have n2:(ext t [o7 [.int .i64 (iJ (.mk k f s a):Int),.int .i64 (gQ (.mk k f s a):Int)]]).nx=t.nx+1:=by simp
 have n3:=E3.nx;have l:c.get m.nx=some (o7 (r4 k f s v)):=(E3.old _ (by omega)).trans H;have d1:decide ((500:Int)<(iJ (.mk k f s a):Int))=false:=decide_eq_false (by omega);have d2:decide ((20:Int)<(gQ (.mk k f s a):Int))=false:=decide_eq_false (by omega);have g:=F3.ok;have Z:=L F3;have O:∀M,j6 KW fu (n+2) (.func 30) [nS,.func (.func 31) [] []] M=some [⟨.bool false,M⟩]:=λM=>abl _ n fu h M;have X2:=G7 g [.map [],o7 [.map c.nx]];have A:=afe (m:=ext c [.map [],o7 [.map c.nx]]) X2.ok (by rw [X2.lim];exact aP Z X2.nx) nS rfl rfl (n+1) fu;rw [show (ext c [.map [],o7 [.map c.nx]]).nx=c.nx+2 from by simp,I8] at A;have B:j6 KW fu (n+2) (.func 33) [nS] (ext c [.map [],o7 [.map c.nx]])=some [⟨.func (.func 69) [] [.ptr (c.nx+2) 0],ext c [.map [],o7 [.map c.nx],o7 [nS]]⟩]:=A;have R:∀b y,j6 KW fu (n+2) (.func 69) [y,.ptr (c.nx+2) 0] (ext c [.map [],o7 [.map c.nx],o7 [nS],.deferred,b])=some [⟨.tuple [],ext c [.map [],o7 [.map c.nx],o7 [nS],.deferred,b]⟩]:=λb y=>abm (by rw [O4 g];rfl) y (n+1) fu h
 have X7:=G7 g [.map [],o7 [.map c.nx],o7 [nS],.deferred,.dead,o7 [.bool false],o7 [.bool false]];have a3:(ext c [.map [],o7 [.map c.nx],o7 [nS],.deferred,.dead,o7 [.bool false],o7 [.bool false]]).nx=c.nx+7:=by simp
 have vi:Vi [] (c.nx+1) c.nx (c.nx+5) (c.nx+6) (ext c [.map [],o7 [.map c.nx],o7 [nS],.deferred,.dead,o7 [.bool false],o7 [.bool false]]) false false:=
  ⟨X7.ok,by rw [X7.lim];omega,by rw [X7.lim];omega,by omega,by omega,by omega,⟨by omega,by omega⟩,⟨by omega,by omega⟩,by omega,by omega,by rw [O4 g];rfl,by rw [A8 g];rfl,by rw [O4 g];rfl,by rw [O4 g];rfl⟩
 have F7:=F3.trans X7;have U:(ext c [.map [],o7 [.map c.nx],o7 [nS],.deferred,.dead,o7 [.bool false],o7 [.bool false]]).get m.nx=some (o7 (r4 k f s v)):=(X7.old _ (by omega)).trans l;obtain⟨M8,P,E8,N⟩:=afd fu h 20 (n+2) (by omega) _ (λi=>i<m.nx) _ (r4 k f s v) _ _ vi (by omega) (by omega) (au.mono (S':=λi=>i<m.nx) F7.nx (λi j _=>F7.old i j) (λi j _=>j) _ _ q) (by omega) (by omega);rw [hc,hu] at N;have n8:=E8.nx;have I:M8.get m.nx=some (o7 (r4 k f s v)):=by rw [E8.old _ (by omega) (by omega) (by omega),X7.old _ (by omega)];exact l
 have T:M8.get (c.nx+3)=some .deferred:=by rw [E8.old _ (by omega) (by omega) (by omega),O4 g];rfl
 have F8:∀i,i<m.nx->M8.get i=m.get i:=λi j=>by rw [E8.old i (by omega) (by omega) (by omega),F7.old i j]
 have l8:M8.lim<=M8.nx:=by rw [E8.lim,X7.lim];omega
 have Y:=G7 E8.ok [o7 [iV 0],o7 [.func (.func 36) [] [.ptr (c.nx+1) 0],.nilFunc,.func (.func 37) [] [.ptr M8.nx 0]]];have yx:(ext M8 [o7 [iV 0],o7 [.func (.func 36) [] [.ptr (c.nx+1) 0],.nilFunc,.func (.func 37) [] [.ptr M8.nx 0]]]).nx=M8.nx+2:=by simp
 have wd:Wd [] M8.nx (c.nx+1) c.nx (ext M8 [o7 [iV 0],o7 [.func (.func 36) [] [.ptr (c.nx+1) 0],.nilFunc,.func (.func 37) [] [.ptr M8.nx 0]]]):=
  ⟨Y.ok,by rw [Y.lim];exact l8,by omega,by omega,by omega,by omega,by omega,(Y.old _ (by omega)).trans N.g8,(Y.old _ (by omega)).trans N.gm⟩
 obtain⟨M11,Q,E11,o⟩:=afb (V:=[]) (by intro p hp;cases hp) fu 20 (n+2) (by omega) _ (λi=>i<m.nx) 0 (.mk k f s a) (r4 k f s v) wd (by rw [A8 E8.ok];rfl) (by omega)
  (au.mono (S':=λi=>i<m.nx) (by rw [yx];omega) (λi j _=>by rw [Y.old i (by omega),F8 i j]) (λi j _=>j) _ _ q) hf hc (by omega)
 have a1:=E11.nx;have C:M11.get (c.nx+3)=some .deferred:=by rw [E11.old _ (by omega) (by omega),Y.old _ (by omega)];exact T
 have G:(ext M8 [o7 [iV 0],o7 [.func (.func 36) [] [.ptr (c.nx+1) 0],.nilFunc,.func (.func 37) [] [.ptr M8.nx 0]]]).get m.nx=some (o7 (r4 k f s v)):=(Y.old _ (by omega)).trans I;have J:(ext M8 [o7 [iV 0],o7 [.func (.func 36) [] [.ptr (c.nx+1) 0],.nilFunc,.func (.func 37) [] [.ptr M8.nx 0]]]).get (M8.nx+1)=some (o7 [.func (.func 36) [] [.ptr (c.nx+1) 0],.nilFunc,.func (.func 37) [] [.ptr M8.nx 0]]):=by rw [O4 E8.ok];rfl
 have o:M11.get M8.nx=some (o7 [.int .i64 (qm [] (.mk k f s a)).2]):=o;have b3:c.nx+3<M11.nx:=by omega
 refine⟨M11.set (c.nx+3) .dead,?_,⟨Mem.Ok.set E11.ok b3 _,by show m.nx<=M11.nx;omega,?_,λi j=>?_⟩⟩;rw [enter (sf:=f13) rfl rfl];generalize qm [] (.mk k f s a)=z at *;have S:=N.gc;have X:=N.gu;have lc:=ZR (sP KW (j6 KW fu (n+2)) fu);simp [f13,H8,I8,ov,cv,D,w,F,W,H,d1,d2,x,l,O,eZ,A8 g,O4 g,nV g Z,ig g Z,jL g,kI g,nV F1.ok (L F1),ig F1.ok (L F1),nV E8.ok l8,ig E8.ok l8,A8 E8.ok,O4 E8.ok,jL E8.ok,kI E8.ok,w9,B,R,U,P,I,S,X,G,J,Q,o,lc,C];show M11.lim=_;rw [E11.lim,Y.lim,E8.lim,F7.lim];rw [J6 E11.ok _ b3 (by omega),E11.old i (by omega) (by omega),Y.old i (by omega),F8 i j]
end Go.Proofs.YtfddpcckppibjaaGreatDoor.TT
