/- Values and operators, and the evaluation of an expression, walked; conditions: the memory holds what the arguments say. -/
import Derived.Test.YtcnimimffiiimaaGreatDoorPD4
set_option linter.all false
namespace Go.Proofs.YtcnimimffiiimaaGreatDoor.TT
open Go Go.AM
noncomputable section
def PZ (least:Int)(p:Int×List Tok):List Tok:=if VF p.1<least then (3,[40])::(p.2 ++ [(3,[41])]) else p.2
def aoZ (k:Int):Tok:=(ai5 (sgn k),sgn k)
def VI:List (List Tok)->List Tok
 | []=>[]
 | [a]=>a
 | a::b::l=>a++(3,[44])::VI (b::l)
def acQ (k n:Int)(s:By)(l:List (Int×List Tok)):List Tok:=
 if k=1 then [(2,Lib.itoa n)] else if k=2 then [(1,s)] else if k=3 then (1,s)::(3,[40])::(VI (l.map (·.2)) ++ [(3,[41])])
 else if k=4 then (3,[45])::PZ 6 (l.getD 0 (0,[])) else if k=5 then (1,[110,111,116])::PZ 2 (l.getD 0 (0,[]))
 else PZ (if VF k=3 then 4 else VF k) (l.getD 0 (0,[]))++(aoZ k::PZ (VF k+1) (l.getD 1 (0,[])))
mutual
def tkE:Ex->List Tok
 | .mk k n s a=>acQ k n s (tkL a)
def tkL:List Ex->List (Int×List Tok)
 | []=>[]
 | e::l=>(exK e,tkE e)::tkL l
end
end
noncomputable section
end
noncomputable section
theorem Qa {k n:Int}{s:By}{a:List Ex}(h:dw (.mk k n s a)=true)(f:6<=k)(g:k<=18):n=0∧s=[]∧∃x y,a=[x,y]∧dw x=true∧dw y=true:=by
 simp only [dw,gI,decide_eq_true_eq,aeE] at h;obtain⟨⟨⟨⟨l,b⟩,d⟩,e⟩,c⟩:=h;have j:U5 k=2:=by unfold U5;rw [if_neg (by omega),if_neg (by omega),if_neg (by omega),if_pos ⟨f,g⟩]
 rw [if_neg (by omega)] at d e;rw [j] at b;have i:a.length=2:=by rcases b with b | b<;>omega
 match a,i with
 | [x,y],_=>simp only [iC,gI] at c;exact⟨by simpa using d,by simpa using e,x,y,rfl,c.1,c.2.1⟩
theorem BL {k n:Int}{s:By}{a:List Ex}(h:dw (.mk k n s a)=true)(f:k=4∨k=5):n=0∧s=[]∧∃x,a=[x]∧dw x=true:=by
 simp only [dw,gI,decide_eq_true_eq,aeE] at h;obtain⟨⟨⟨⟨j,b⟩,c⟩,d⟩,e⟩:=h;have i:U5 k=1:=by unfold U5;rw [if_neg (by omega),if_neg (by omega),if_pos f]
 rw [if_neg (by omega)] at c d;rw [i] at b;have g:a.length=1:=by rcases b with b | b<;>omega
 match a,g with
 | [x],_=>simp only [iC,gI] at e;exact⟨by simpa using c,by simpa using d,x,rfl,e.1⟩
theorem LY {k n:Int}{s:By}{a:List Ex}(h:dw (.mk k n s a)=true):k=1∨k=2∨k=3∨k=4∨k=5∨(6<=k∧k<=18):=by simp only [dw,gI,decide_eq_true_eq,aeE] at h;obtain⟨⟨⟨⟨b,d⟩,e⟩,f⟩,g⟩:=h;unfold U5 at b;by_cases c:k=1∨k=2∨k=3∨k=4∨k=5∨(6<=k∧k<=18);exact c;rw [if_neg (by omega),if_neg (by omega),if_neg (by omega),if_neg (by omega)] at b;exact absurd rfl b
theorem LZ {k n:Int}{s:By}{a:List Ex}(h:dw (.mk k n s a)=true)(f:k=1∨k=2):a=[]∧(k=1->0<=n∧n<=9007199254740992∧s=[])∧(k=2->n=0∧EZ s=true):=by
 simp only [dw,gI,decide_eq_true_eq,aeE] at h;obtain⟨⟨⟨⟨i,e⟩,b⟩,d⟩,j⟩:=h;have g:U5 k=0:=by unfold U5;rw [if_neg (by omega),if_pos f]
 rw [g] at e;refine⟨?_,λc=>?_,λc=>?_⟩;rcases e with e | e;omega;exact aax.1 (by omega);rw [if_pos c] at b;rw [if_neg (by omega)] at d;simp only [gI,decide_eq_true_eq] at b d;exact⟨b.1,b.2,d⟩;rw [if_neg (by omega)] at b;rw [if_pos (.inl c)] at d;exact⟨by simpa using b,d⟩
end
def dI (n:Int):Bool:=decide (-9007199254740992<=n)&&decide (n<=9007199254740992)
def nN (b:Bool):Int:=if b then 1 else 0
def Gx (n:Int):Int×Int:=if dI n=true then (n,0) else (0,3)
def aL (x:Int):Int:=max x (-x)
def DZ (x y:Int):Int×Int:=if 9007199254740992<aL x*aL y then (0,3) else (x*y,0)
def dvB (x y:Int):Int×Int:=if y=0 then (0,5) else (x.tdiv y,0)
def mdB (x y:Int):Int×Int:=if y=0 then (0,5) else (x.tmod y,0)
def Bo (k a b:Int):Bool:=if k=11 then decide (a<b) else if k=12 then decide (a<=b) else if k=13 then decide (b<a) else if k=14 then decide (b<=a) else if k=15 then decide (a=b) else !decide (a=b)
def zO (k a b:Int):Int×Int:=
 if k=6 then DZ a b else if k=7 then dvB a b else if k=8 then mdB a b else if k=9 then Gx (a+b) else if k=10 then Gx (a-b) else (nN (Bo k a b),0)
def kT (a b:Int):Int:=if a=0 then b else a
def Jj (k:Int)(a b:Int×Int):Int×Int:=
 if k=4 then (-a.1,a.2) else if k=5 then (nN (decide (a.1=0)),a.2)
 else if k=17∨k=18 then (if (!decide (a.1=0))=decide (k=18) then (nN (!decide (a.1=0)),a.2) else (nN (!decide (b.1=0)),kT a.2 b.2))
 else ((zO k a.1 b.1).1,kT (kT a.2 b.2) (zO k a.1 b.1).2)
def AJ:List (List UInt8×Int)->List UInt8->Int
 | [],_=>0
 | (x,n)::l,s=>if x=s then n else AJ l s
section
variable (V:List (List UInt8×Int))
mutual
def fB:Ex->Int×Int
 | .mk k n s a=>if k=1 then (n,0) else if k=2 then (AJ V s,0) else Jj k ((SL a).getD 0 (0,0)) ((SL a).getD 1 (0,0))
def SL:List Ex->List (Int×Int)
 | []=>[]
 | e::l=>fB e::SL l
end
end
theorem oJ {x:Int}(h:dI x=true):aL x<=9007199254740992:=by simp only [dI,gI,decide_eq_true_eq] at h;unfold aL;omega
theorem Jk (x y:Int):aL (x*y)=aL x*aL y:=by
 have e:∀z:Int,aL z=(z.natAbs:Int):=λz=>by unfold aL;omega
 rw [e,e,e,Int.natAbs_mul];simp
theorem Ea {x:Int}(h:aL x<=9007199254740992):dI x=true:=by unfold aL at h;simp only [dI,gI,decide_eq_true_eq];omega
theorem Jl (b:Bool):dI (nN b)=true:=by cases b<;>decide
theorem Eb (a b:Int)(h:b≠0):aL (a.tdiv b)<=aL a:=by
 have e:∀z:Int,aL z=(z.natAbs:Int):=λz=>by unfold aL;omega
 rw [e,e,Int.natAbs_tdiv];exact Int.ofNat_le.2 (Nat.div_le_self _ _)
theorem Ma (a b:Int):aL (a.tmod b)<=aL a:=by
 have e:∀z:Int,aL z=(z.natAbs:Int):=λz=>by unfold aL;omega
 rw [e,e,Int.natAbs_tmod];exact Int.ofNat_le.2 (Nat.mod_le _ _)
theorem acR (k:Int){a b:Int}(e:dI a=true)(hb:dI b=true):dI (zO k a b).1=true:=by
 have c:=oJ e;have d:∀n,dI (Gx n).1=true:=λn=>by unfold Gx;split<;>first | assumption | decide
 unfold zO;split;unfold DZ;split;decide;rename_i h;exact Ea (by rw [Jk];omega);split;unfold dvB;split;decide;rename_i h;exact Ea (ajF (Eb a b h) c);split;unfold mdB;split;decide;exact Ea (ajF (Ma a b) c);split;exact d _;split;exact d _;exact Jl _
theorem acS (k:Int){a b:Int×Int}(c:dI a.1=true)(hb:dI b.1=true):dI (Jj k a b).1=true:=by
 unfold Jj;split;simp only [dI,gI,decide_eq_true_eq] at *;omega;split;exact Jl _;split;split<;>exact Jl _
 exact acR k c hb
theorem acT {V:List (List UInt8×Int)}(h:∀p∈V,dI p.2=true)(s:List UInt8):dI (AJ V s)=true:=by
 induction V with
 | nil=>rw [AJ];decide
 | cons p l ih=>obtain⟨x,n⟩:=p;rw [AJ];split;exact h (x,n) (by simp);exact ih λq a=>h q (by simp [a])
def VJ:Ex->Prop
 | .mk k n s a=>(k=1->dI n=true)∧nuL a
where nuL:List Ex->Prop
 | []=>True
 | e::l=>VJ e∧nuL l
mutual
theorem Oo {V:List (List UInt8×Int)}(hV:∀p∈V,dI p.2=true):∀e:Ex,VJ e->dI (fB V e).1=true
 | .mk k n s a,h=>by
  rw [VJ] at h;rw [fB];split;rename_i hk;exact h.1 hk;split;exact acT hV s;have hl:=VK hV a h.2;have hg:∀i,dI ((SL V a).getD i (0,0)).1=true:=λi=>by
   rw [X6];cases hx:(SL V a)[i]? with
   | none=>decide
   | some x=>exact hl x (U9 hx)
  exact acS k (hg 0) (hg 1)
theorem VK {V:List (List UInt8×Int)}(hV:∀p∈V,dI p.2=true):∀l:List Ex,VJ.nuL l->∀x∈SL V l,dI x.1=true
 | [],_,x,hx=>by rw [SL] at hx;cases hx
 | e::l,h,x,hx=>by rw [VJ.nuL] at h;rw [SL,X4] at hx;rcases hx with rfl | hx;exact Oo hV e h.1;exact VK hV l h.2 x hx
end
set_option maxRecDepth 100000
set_option maxHeartbeats 8000000
theorem VL (x:Int)(n fu:Nat)(m:Mem):l9 KW fu (n+1) (.func 32) [iV x] m=some [⟨.bool (dI x),m⟩]:=by rw [enter (sf:=f32) rfl rfl];by_cases h:-9007199254740992<=x<;>simp [f32,dI,h]
theorem Oq (b:Bool)(n fu:Nat)(m:Mem):l9 KW fu (n+1) (.func 70) [.bool b] m=some [⟨iV (nN b),m⟩]:=by rw [enter (sf:=f70) rfl rfl];cases b<;>simp [f70,nN]
theorem Qb (x:Int)(n fu:Nat)(m:Mem):l9 KW fu (n+2) (.func 120) [iV x] m=some [⟨.tuple [.int .i64 (Gx x).1,.int .i64 (Gx x).2],m⟩]:=by have g:=VL x n fu m;rw [enter (sf:=f120) rfl rfl];unfold Gx;cases h:dI x;rw [h] at g;simp [f120,g];rw [h] at g;simp [f120,g]
theorem Qc {b:Int}(h:b≠0)(r:Option d9):Qq b r=r:=by
 match b,h with
 | .ofNat 0,h=>exact absurd rfl h
 | .ofNat (n+1),_=>rfl
 | .negSucc n,_=>rfl
theorem Jm {a b:Int}(h:b≠0)(e:dI a=true):Er .i64 a b=some (iV (a.tdiv b)):=by have c:=Eb a b h;have d:=oJ e;unfold aL at c d;show Qq b (some (.int .i64 (tX (a.tdiv b))))=_;rw [Qc h,U8 (by omega) (by omega)]
theorem VN {a b:Int}(h:b≠0):Qr .i64 a b=some (iV (a.tmod b)):=by show Qq b (some (iV (a.tmod b)))=_;rw [Qc h]
theorem Qd (x:Int):mm2 true (iV x) (iV (-x))=some (iV (aL x)):=by show some (d9.int .i64 (bi true (bi (nP x (-x)) (-x) x) (bi (nP (-x) x) (-x) x)))=_;rw [U0,gF];unfold aL;by_cases h:x < -x;rw [decide_eq_true h,U0];congr 2;omega;rw [decide_eq_false h,O6];congr 2;omega
theorem Qe {y:Int}(h:0<y):Int.tdiv 9007199254740992 y=9007199254740992 / y:=Int.tdiv_eq_ediv_of_nonneg (by omega)
theorem Jo {x y:Int}(h:0<y):(9007199254740992 / y<x)↔9007199254740992<x*y:=by rw [Int.ediv_lt_iff_lt_mul h]
theorem Zg {a b:Int}(g:dI a=true)(hb:dI b=true)(n fu:Nat)(m:Mem):l9 KW fu (n+1) (.func 116) [iV a,iV b] m=some [⟨.tuple [.int .i64 (DZ a b).1,.int .i64 (DZ a b).2],m⟩]:=by
 rw [enter (sf:=f116) rfl rfl];have o:=oJ g;have p:=oJ hb;simp only [dI,gI,decide_eq_true_eq] at g hb;by_cases h1:a=0;subst h1;have e:DZ 0 b=(0,0):=by unfold DZ aL;simp
 rw [e];simp [f116];by_cases h2:b=0;subst h2;have e:DZ a 0=(0,0):=by unfold DZ aL;simp
 rw [e];simp [f116,h1];have j:kV .i64 (-a)=-a:=U8 (n:=-a) (by omega) (by omega);have k:kV .i64 (-b)=-b:=U8 (n:=-b) (by omega) (by omega);have h:=Qd a;have i:=Qd b;have c:0<aL b:=by unfold aL;omega
 have q:Er .i64 9007199254740992 (aL b)=some (iV (9007199254740992 / aL b)):=by rw [Jm (by omega) (by decide),Qe c]
 by_cases h3:9007199254740992<aL a*aL b;have e:DZ a b=(0,3):=by unfold DZ;rw [if_pos h3]
 have d:decide (9007199254740992 / aL b<aL a)=true:=decide_eq_true ((Jo c).2 h3);rw [e];simp [f116,h1,h2,Sv,wY,j,k,h,i,q,d,yN];have e:DZ a b=(a*b,0):=by unfold DZ;rw [if_neg h3]
 have d:decide (9007199254740992 / aL b<aL a)=false:=decide_eq_false λx=>h3 ((Jo c).1 x);have f:=Jk a b;have l:JC .i64 a b=some (iV (a*b)):=by show some (d9.int .i64 (tX (a*b)))=_;rw [U8 (by unfold aL at f h3;omega) (by unfold aL at f h3;omega)]
 rw [e];simp [f116,h1,h2,Sv,wY,j,k,h,i,q,d,yN,l]
theorem Zh {a b:Int}(h:b≠0)(c:dI a=true)(n fu:Nat)(m:Mem):l9 KW fu (n+1) (.func 117) [iV a,iV b] m=some [⟨iV (a.tdiv b),m⟩]:=by have q:=Jm h c;rw [enter (sf:=f117) rfl rfl];simp [f117,q]
theorem Zi {a b:Int}(h:b≠0)(n fu:Nat)(m:Mem):l9 KW fu (n+1) (.func 118) [iV a,iV b] m=some [⟨iV (a.tmod b),m⟩]:=by have q:=VN (a:=a) h;rw [enter (sf:=f118) rfl rfl];simp [f118,q]
theorem Zj {a b:Int}(c:dI a=true)(hb:dI b=true)(n fu:Nat)(m:Mem):l9 KW fu (n+3) (.func 119) [iV a,iV b] m=some [⟨.tuple [.int .i64 (Gx (a+b)).1,.int .i64 (Gx (a+b)).2],m⟩]:=by simp only [dI,gI,decide_eq_true_eq] at c hb;have w:tX (a+b)=a+b:=U8 (by omega) (by omega);have g:=Qb (a+b) n fu m;rw [enter (sf:=f119) rfl rfl];simp [f119,w,g]
theorem Zk {a b:Int}(c:dI a=true)(hb:dI b=true)(n fu:Nat)(m:Mem):l9 KW fu (n+3) (.func 121) [iV a,iV b] m=some [⟨.tuple [.int .i64 (Gx (a-b)).1,.int .i64 (Gx (a-b)).2],m⟩]:=by
 simp only [dI,gI,decide_eq_true_eq] at c hb;have w:qZ .i64 a b=some (iV (a-b)):=by show some (d9.int .i64 (tX (a-b)))=_;rw [U8 (by omega) (by omega)]
 have d:tX (a-b)=a-b:=U8 (by omega) (by omega);have g:=Qb (a-b) n fu m;rw [enter (sf:=f121) rfl rfl];simp [f121,w,d,g]
theorem Zl (a b:Int)(n fu:Nat)(m:Mem):l9 KW fu (n+1) (.func 122) [iV a,iV b] m=some [⟨.bool (Bo 11 a b),m⟩]:=by rw [enter (sf:=f122) rfl rfl];simp [f122,Bo]
theorem Zm (a b:Int)(n fu:Nat)(m:Mem):l9 KW fu (n+1) (.func 123) [iV a,iV b] m=some [⟨.bool (Bo 12 a b),m⟩]:=by rw [enter (sf:=f123) rfl rfl];simp [f123,Bo]
theorem Zn (a b:Int)(n fu:Nat)(m:Mem):l9 KW fu (n+1) (.func 124) [iV a,iV b] m=some [⟨.bool (Bo 13 a b),m⟩]:=by rw [enter (sf:=f124) rfl rfl];simp [f124,Bo]
theorem Zo (a b:Int)(n fu:Nat)(m:Mem):l9 KW fu (n+1) (.func 125) [iV a,iV b] m=some [⟨.bool (Bo 14 a b),m⟩]:=by rw [enter (sf:=f125) rfl rfl];simp [f125,Bo]
theorem Zp (a b:Int)(n fu:Nat)(m:Mem):l9 KW fu (n+1) (.func 126) [iV a,iV b] m=some [⟨.bool (Bo 15 a b),m⟩]:=by rw [enter (sf:=f126) rfl rfl];simp [f126,Bo]
theorem Zq (a b:Int)(n fu:Nat)(m:Mem):l9 KW fu (n+1) (.func 127) [iV a,iV b] m=some [⟨.bool (Bo 16 a b),m⟩]:=by rw [enter (sf:=f127) rfl rfl];simp [f127,Bo]
theorem uH {m:Mem}{p g:Nat}{a b:Int}{r:Bool}(e:m.get p=some (r9 [.func (.func g) [] []])){n fu:Nat}(d:l9 KW fu (n+1) (.func g) [iV a,iV b] m=some [⟨.bool r,m⟩]):
  l9 KW fu (n+2) (.func 113) [iV a,iV b,.ptr p 0] m=some [⟨.tuple [iV (nN r),iV 0],m⟩]:=by
 have c:=Oq r n fu m;rw [enter (sf:=f113) rfl rfl];simp [f113,e,d,c]
theorem Qf {m:Mem}{p g:Nat}{a b:Int}{r:Int}(d:m.get p=some (r9 [.func (.func g) [] []])){n fu:Nat}(c:b≠0->l9 KW fu (n+1) (.func g) [iV a,iV b] m=some [⟨iV r,m⟩]):
  l9 KW fu (n+2) (.func 115) [iV a,iV b,.ptr p 0] m=some [⟨.tuple [iV (if b=0 then 0 else r),iV (if b=0 then 5 else 0)],m⟩]:=by
 rw [enter (sf:=f115) rfl rfl];by_cases h:b=0;simp [f115,h];have c:=c h;simp [f115,h,d,c]
theorem uI {m:Mem}(b:m.Ok)(a:m.lim<=m.nx)(g:Nat)(n fu:Nat):l9 KW fu (n+1) (.func 112) [.func (.func g) [] []] m=some [⟨.func (.func 113) [] [.ptr m.nx 0],ext m [r9 [.func (.func g) [] []]]⟩]:=by rw [enter (sf:=f112) rfl rfl];simp [f112,lU b a,G9]
theorem Qg {m:Mem}(b:m.Ok)(a:m.lim<=m.nx)(g:Nat)(n fu:Nat):l9 KW fu (n+1) (.func 114) [.func (.func g) [] []] m=some [⟨.func (.func 115) [] [.ptr m.nx 0],ext m [r9 [.func (.func g) [] []]]⟩]:=by rw [enter (sf:=f114) rfl rfl];simp [f114,lU b a,G9]
def WX:List (Int×d9)->Int->Option d9
 | [],_=>none
 | p::l,k=>if k=p.1 then some p.2 else WX l k
noncomputable def kU (L:List (Int×d9)):List (d9×d9):=L.map λp=>(.int .i64 p.1,p.2)
theorem yJ (a b:Int):K3 (iV a) (iV b)=some (decide (a=b)):=by show some (aX a b)=_;rw [dW];congr 1
theorem Mc (z:d9)(k:Int):∀(L:List (Int×d9)) (i:Nat),ob (findKey K3 (iV k) (kU L) i) (λr=>found false z r)=some ((WX L k).getD z)
 | [],i=>rfl
 | p::L,i=>by show ob (ob (K3 (iV k) (.int .i64 p.1)) λb=>bi b (some (some (i,p.2))) (findKey K3 (iV k) (kU L) (i+1))) (λr=>found false z r)=_;rw [yJ,K5,WX];by_cases h:k=p.1;rw [if_pos h,decide_eq_true h];rfl;rw [if_neg h,decide_eq_false h,O6,Mc z k L (i+1)]
theorem VO (z:d9)(k:Int)(L:List (Int×d9)){b:Option N7}(hb:b=some (.map (kU L))):PX b K3 1 z false (iV k)=some ((WX L k).getD z):=by
 subst hb;cases L with
 | nil=>show ob (ob (K3 (iV k) (iV k)) λ_=>some none) (λr=>found false z r)=_;rw [yJ];rfl
 | cons p L=>exact Mc z k (p::L) 0
theorem Ec (s:Int):∀(L:List (Int×d9)) (i:Nat),WX L s=none->findKey K3 (iV s) (kU L) i=some none
 | [],i,_=>rfl
 | p::L,i,h=>by rw [WX] at h;by_cases hs:s=p.1;rw [if_pos hs] at h;cases h;rw [if_neg hs] at h;show ob (K3 (iV s) (.int .i64 p.1)) (λb=>bi b (some (some (i,p.2))) (findKey K3 (iV s) (kU L) (i+1)))=_;rw [yJ,K5,decide_eq_false hs,O6,Ec s L (i+1) h]
theorem acU {M:Mem}{q:Nat}{L:List (Int×d9)}(j:M.lim<=q)(g:M.get q=some (.map (kU L))){s:Int}(hs:WX L s=none)(v:d9)(mp k x:OF)(cf:D7)(ls:List d9)(env:T d9)(a:mp ls env=.map q)(c:k ls env=.int .i64 s)(d:x ls env=v):
  E9 K3 1 mp k x cf ls env M=some [⟨.undef,M.set q (.map (kU (L ++ [(s,v)])))⟩]:=by
 rw [qM,a,c,d];have f:Nat.blt q M.lim=false:=by
  cases h:Nat.blt q M.lim with
  | false=>rfl
  | true=>have:=Xb.mp h;omega
 have i:O5 K3 1 (iV s) (kU L)=some none:=by
  cases L with
  | nil=>show ob (K3 (iV s) (iV s)) (λ_=>some none)=_;rw [yJ];rfl
  | cons p L=>exact Ec s (p::L) 0 hs
 have e:kU (L ++ [(s,v)])=kU L ++ [(iV s,v)]:=by simp [kU]
 show bi (Nat.blt q M.lim) none (ob (msB (M.get q) K3 1 (iV s) v) λb=>some [(⟨.undef,M.set q b⟩:VM)])=_;rw [f,g,Pk,i,e];rfl
theorem acV {m:Mem}(a:m.Ok)(e:m.lim<=m.nx)(L:List (Int×d9))(R:List N7)(s:Int)(v:d9)(hs:WX L s=none)(mp k x:OF)(cf:D7)(ls:List d9)(env:T d9)(b:mp ls env=.map m.nx)(c:k ls env=.int .i64 s)(d:x ls env=v):
  E9 K3 1 mp k x cf ls env (ext m (.map (kU L)::R))=some [⟨.undef,ext m (.map (kU (L ++ [(s,v)]))::R)⟩]:=by
 have E:=J5 a (.map (kU L)::R);rw [acU (M:=ext m (.map (kU L)::R)) (q:=m.nx) (L:=L) (by rw [E.lim];exact e) (by rw [D6 a];rfl) hs v mp k x cf ls env b c d,H8 a _ _ (by simp)];rfl
def OpF (M:Mem)(k:Int)(fv:d9):Prop:=∀(a b:Int),dI a=true->dI b=true->∀n fu:Nat,JJ (l9 KW fu (n+3)) M [iV a,iV b] fv=some [⟨.tuple [.int .i64 (zO k a b).1,.int .i64 (zO k a b).2],M⟩]
noncomputable def Ot (m:Mem):List (Int×d9):=[(6,.func (.func 116) [] []),(7,.func (.func 115) [] [.ptr (m.nx+1) 0]),(8,.func (.func 115) [] [.ptr (m.nx+2) 0]),(9,.func (.func 119) [] []),(10,.func (.func 121) [] []),(11,.func (.func 113) [] [.ptr (m.nx+3) 0]),(12,.func (.func 113) [] [.ptr (m.nx+4) 0]),(13,.func (.func 113) [] [.ptr (m.nx+5) 0]),(14,.func (.func 113) [] [.ptr (m.nx+6) 0]),(15,.func (.func 113) [] [.ptr (m.nx+7) 0]),(16,.func (.func 113) [] [.ptr (m.nx+8) 0])]
noncomputable def RZ:List N7:=[r9 [.func (.func 117) [] []],r9 [.func (.func 118) [] []],r9 [.func (.func 122) [] []],r9 [.func (.func 123) [] []],r9 [.func (.func 124) [] []],r9 [.func (.func 125) [] []],r9 [.func (.func 126) [] []],r9 [.func (.func 127) [] []]]
noncomputable def Ou (m:Mem)(i j:Nat):Mem:=ext m (.map (kU ((Ot m).take i))::RZ.take j)
theorem jq {m:Mem}(f:m.Ok)(e:m.lim<=m.nx)(i j:Nat){s:Int}{v:d9}(hs:WX ((Ot m).take i) s=none)(d:(Ot m).take i ++ [(s,v)]=(Ot m).take (i+1))(mp k x:OF)(cf:D7)(ls:List d9)(env:T d9)(a:mp ls env=.map m.nx)(b:k ls env=.int .i64 s)(c:x ls env=v):
  E9 K3 1 mp k x cf ls env (Ou m i j)=some [⟨.undef,Ou m (i+1) j⟩]:=by
 rw [Ou,acV f e _ _ s v hs mp k x cf ls env a b c,d];rfl
theorem dx {m:Mem}(a:m.Ok)(i j:Nat){b:N7}(hb:RZ.take j ++ [b]=RZ.take (j+1)):(Ou m i j).Ok∧ext (Ou m i j) [b]=Ou m i (j+1):=
 ⟨(J5 a _).ok,by rw [Ou,I8,Ou,← hb];rfl⟩
theorem kK (m:Mem)(i j:Nat)(a:j<=RZ.length):(Ou m i j).nx=m.nx+(j+1):=by rw [Ou];simp;omega
theorem acW {m:Mem}(a:m.Ok)(c:m.lim<=m.nx)(n fu:Nat):l9 KW fu (n+2) (.func 72) [] m=some [⟨.map m.nx,ext m (.map (kU (Ot m))::RZ)⟩]:=by
 have d:∀i j,(Ou m i j).lim<=(Ou m i j).nx:=λi j=>by rw [Ou,(J5 a _).lim];exact J2 c (J5 a _).nx
 have u:=jq a c 0 0 (s:=6) (v:=.func (.func 116) [] []) rfl rfl;have g:=Qg (dx a 1 0 (b:=r9 [.func (.func 117) [] []]) rfl).1 (d _ _) 117 n fu;rw [(dx a 1 0 rfl).2,kK m 1 0 (by decide)] at g;have w:=jq a c 1 1 (s:=7) (v:=.func (.func 115) [] [.ptr (m.nx+1) 0]) rfl rfl;have h:=Qg (dx a 2 1 (b:=r9 [.func (.func 118) [] []]) rfl).1 (d _ _) 118 n fu;rw [(dx a 2 1 rfl).2,kK m 2 1 (by decide)] at h;have x:=jq a c 2 2 (s:=8) (v:=.func (.func 115) [] [.ptr (m.nx+2) 0]) rfl rfl;have y:=jq a c 3 2 (s:=9) (v:=.func (.func 119) [] []) rfl rfl;have z:=jq a c 4 2 (s:=10) (v:=.func (.func 121) [] []) rfl rfl;have k:=uI (dx a 5 2 (b:=r9 [.func (.func 122) [] []]) rfl).1 (d _ _) 122 n fu;rw [(dx a 5 2 rfl).2,kK m 5 2 (by decide)] at k;have A:=jq a c 5 3 (s:=11) (v:=.func (.func 113) [] [.ptr (m.nx+3) 0]) rfl rfl;have l:=uI (dx a 6 3 (b:=r9 [.func (.func 123) [] []]) rfl).1 (d _ _) 123 n fu;rw [(dx a 6 3 rfl).2,kK m 6 3 (by decide)] at l;have B:=jq a c 6 4 (s:=12) (v:=.func (.func 113) [] [.ptr (m.nx+4) 0]) rfl rfl;have o:=uI (dx a 7 4 (b:=r9 [.func (.func 124) [] []]) rfl).1 (d _ _) 124 n fu;rw [(dx a 7 4 rfl).2,kK m 7 4 (by decide)] at o;have C:=jq a c 7 5 (s:=13) (v:=.func (.func 113) [] [.ptr (m.nx+5) 0]) rfl rfl;have p:=uI (dx a 8 5 (b:=r9 [.func (.func 125) [] []]) rfl).1 (d _ _) 125 n fu;rw [(dx a 8 5 rfl).2,kK m 8 5 (by decide)] at p;have D:=jq a c 8 6 (s:=14) (v:=.func (.func 113) [] [.ptr (m.nx+6) 0]) rfl rfl;have q:=uI (dx a 9 6 (b:=r9 [.func (.func 126) [] []]) rfl).1 (d _ _) 126 n fu;rw [(dx a 9 6 rfl).2,kK m 9 6 (by decide)] at q;have E:=jq a c 9 7 (s:=15) (v:=.func (.func 113) [] [.ptr (m.nx+7) 0]) rfl rfl;have e:=uI (dx a 10 7 (b:=r9 [.func (.func 127) [] []]) rfl).1 (d _ _) 127 n fu;rw [(dx a 10 7 rfl).2,kK m 10 7 (by decide)] at e
 have f:=jq a c 10 8 (s:=16) (v:=.func (.func 113) [] [.ptr (m.nx+8) 0]) rfl rfl;have r:ext m [.map []]=Ou m 0 0:=rfl;have t:Ou m 11 8=ext m (.map (kU (Ot m))::RZ):=rfl;rw [enter (sf:=f72) rfl rfl,← t];simp [f72,G7,fM,r,u,g,w,h,x,y,z,k,A,l,B,o,C,p,D,q,E,e,f]
theorem acX {m:Mem}(i:m.Ok)(k:Int)(j:6<=k)(l:k<=16):∃fv,WX (Ot m) k=some fv∧OpF (ext m (.map (kU (Ot m))::RZ)) k fv:=by
 have g:∀c,(ext m (.map (kU (Ot m))::RZ)).get (m.nx+c)=(N7.map (kU (Ot m))::RZ)[c]?:=λc=>G6 i _ _;generalize ext m (.map (kU (Ot m))::RZ)=M at *;obtain rfl | rfl | rfl | rfl | rfl | rfl | rfl | rfl | rfl | rfl | rfl:k=6∨k=7∨k=8∨k=9∨k=10∨k=11∨k=12∨k=13∨k=14∨k=15∨k=16:=by omega
 exact⟨_,rfl,λa b d f n fu=>by rw [bf];exact Zg d f (n+2) fu M⟩;refine⟨_,rfl,λa b d f n fu=>?_⟩;rw [bf];have:=Qf (n:=n+1) (fu:=fu) (a:=a) (b:=b) (g 1) (λh=>Zh h d (n+1) fu M);have e:zO 7 a b=dvB a b:=rfl;rw [e,dvB];by_cases h:b=0;rw [if_pos h] at this ⊢;simpa [h] using this;rw [if_neg h] at this ⊢;simpa [h] using this;refine⟨_,rfl,λa b d f n fu=>?_⟩;rw [bf];have:=Qf (n:=n+1) (fu:=fu) (a:=a) (b:=b) (g 2) (λh=>Zi h (n+1) fu M);have e:zO 8 a b=mdB a b:=rfl;rw [e,mdB];by_cases h:b=0;rw [if_pos h] at this ⊢;simpa [h] using this;rw [if_neg h] at this ⊢;simpa [h] using this;exact⟨_,rfl,λa b d f n fu=>by rw [bf];exact Zj d f n fu M⟩;exact⟨_,rfl,λa b d f n fu=>by rw [bf];exact Zk d f n fu M⟩;exact⟨_,rfl,λa b d f n fu=>by rw [bf];exact uH (n:=n+1) (fu:=fu) (g 3) (Zl a b (n+1) fu M)⟩;exact⟨_,rfl,λa b d f n fu=>by rw [bf];exact uH (n:=n+1) (fu:=fu) (g 4) (Zm a b (n+1) fu M)⟩;exact⟨_,rfl,λa b d f n fu=>by rw [bf];exact uH (n:=n+1) (fu:=fu) (g 5) (Zn a b (n+1) fu M)⟩;exact⟨_,rfl,λa b d f n fu=>by rw [bf];exact uH (n:=n+1) (fu:=fu) (g 6) (Zo a b (n+1) fu M)⟩;exact⟨_,rfl,λa b d f n fu=>by rw [bf];exact uH (n:=n+1) (fu:=fu) (g 7) (Zp a b (n+1) fu M)⟩;exact⟨_,rfl,λa b d f n fu=>by rw [bf];exact uH (n:=n+1) (fu:=fu) (g 8) (Zq a b (n+1) fu M)⟩
set_option maxHeartbeats 16000000
mutual
def Bp:Ex->Bool
 | .mk k n s a=>decide (k=3)||Qh a
def Qh:List Ex->Bool
 | []=>false
 | e::l=>Bp e||Qh l
end
theorem wN (a b c:Int):kT (kT a b) c=kT a (kT b c):=by unfold kT;by_cases h:a=0<;>simp [h]
theorem zP (a:Int):kT a 0=a:=by unfold kT;split<;>omega
noncomputable def vK (V:List (List UInt8×Int)):List (List UInt8×d9):=V.map λp=>(p.1,.int .i64 p.2)
theorem Gy (s:List UInt8):∀V:List (List UInt8×Int),(assoc (vK V) s).getD (iV 0)=.int .i64 (AJ V s)
 | []=>rfl
 | (x,n)::l=>by show (if s=x then some (d9.int .i64 n) else assoc (vK l) s).getD _=_;rw [AJ];by_cases h:s=x;rw [if_pos h,if_pos h.symm];rfl;rw [if_neg h,if_neg (af4 h)];exact Gy s l
structure Wd (V:List (List UInt8×Int))(q p8 pm:Nat)(M:Mem):Prop where
 ok:M.Ok
 lim:M.lim<=q
 lq:q<M.nx
 n8:p8≠q
 nm:pm≠q
 l8:p8<M.nx
 lm:pm<M.nx
 g8:M.get p8=some (r9 [.map pm])
 gm:M.get pm=some (.map (bC (vK V)))
theorem Wd.ext {V:List (List UInt8×Int)}{q p8 a:Nat}{M M':Mem}(h:Wd V q p8 a M)(E:nL q M M'):Wd V q p8 a M':=
 ⟨E.ok,by rw [E.lim];exact h.lim,q9 h.lq E.nx,h.n8,h.nm,q9 h.l8 E.nx,q9 h.lm E.nx,(E.old _ h.l8 h.n8).trans h.g8,(E.old _ h.lm h.nm).trans h.gm⟩
theorem Wd.lm' {V:List (List UInt8×Int)}{q p8 a:Nat}{M:Mem}(h:Wd V q p8 a M):M.lim<=M.nx:=by have:=h.lim;have:=h.lq;omega
theorem Sb (z:d9)(s:List UInt8)(L:List (List UInt8×d9)){b:Option N7}(hb:b=some (.map (bC L))):PX b eqStr 1 z false (.str s)=some ((assoc L s).getD z):=by
 subst hb;have a:∀(L:List (List UInt8×d9)) (i:Nat),ob (findKey eqStr (.str s) (bC L) i) (λr=>found false z r)=some ((assoc L s).getD z):=by
  intro L;induction L with
  | nil=>intro i;rfl
  | cons p L ih=>intro i;show ob (ob (eqStr (.str s) (.str p.1)) λb=>bi b (some (some (i,p.2))) (findKey eqStr (.str s) (bC L) (i+1))) (λr=>found false z r)=_;rw [qb,K5,assoc];by_cases h:s=p.1;rw [if_pos h,decide_eq_true h];rfl;rw [if_neg h,decide_eq_false h,O6,ih (i+1)]
 cases L with
 | nil=>show ob (ob (eqStr (.str s) (.str s)) λ_=>some none) (λr=>found false z r)=_;rw [qb];rfl
 | cons p L=>exact a (p::L) 0
theorem acY {V:List (List UInt8×Int)}{q p8 a:Nat}{M:Mem}(h:Wd V q p8 a M)(s:List UInt8)(n fu:Nat):l9 KW fu (n+1) (.func 36) [.str s,.ptr p8 0] M=some [⟨iV (AJ V s),M⟩]:=by have g:=Sb (iV 0) s (vK V) h.gm;rw [Gy] at g;rw [enter (sf:=f36) rfl rfl];simp [f36,h.g8,kJ,g]
theorem acZ {q:Nat}{M:Mem}{b:Int}(a:M.Ok)(d:M.lim<=q)(c:q<M.nx)(g:M.get q=some (r9 [iV b]))(e:Int)(n fu:Nat):
  ∃M',l9 KW fu (n+1) (.func 37) [iV e,.ptr q 0] M=some [⟨.tuple [],M'⟩]∧nL q M M'∧M'.get q=some (r9 [iV (kT b e)]):=by
 unfold kT;by_cases h:b=0;refine⟨M.set q (r9 [iV e]),?_,⟨Mem.Ok.set a c _,lM _,rfl,λi k f=>K6 a _ c f⟩,by rw [if_pos h];exact R3 a _ c rfl⟩;have j:=sB d;rw [enter (sf:=f37) rfl rfl];simp [f37,g,h,j,G9];refine⟨M,?_,nL.refl a,by rw [if_neg h];exact g⟩;rw [enter (sf:=f37) rfl rfl];simp [f37,g,h]
theorem ad1 {q p8:Nat}{M:Mem}{a:Int}(c:M.Ok)(k:M.lim<=q)(d:q<M.nx)(g:M.get q=some (r9 [iV a]))(v e:Int)(n fu:Nat):
  ∃M',l9 KW fu (n+2) (.func 71) [.agg [.func (.func 36) [] [.ptr p8 0],.nilFunc,.func (.func 37) [] [.ptr q 0]],iV v,iV e] M=some [⟨iV v,M'⟩]∧nL q M M'∧M'.get q=some (r9 [iV (kT a e)]):=by
 have E0:=J5 c [r9 [.func (.func 36) [] [.ptr p8 0],.nilFunc,.func (.func 37) [] [.ptr q 0]]];have b:(ext M [r9 [.func (.func 36) [] [.ptr p8 0],.nilFunc,.func (.func 37) [] [.ptr q 0]]]).get q=some (r9 [iV a]):=(E0.old _ d).trans g;have j:(ext M [r9 [.func (.func 36) [] [.ptr p8 0],.nilFunc,.func (.func 37) [] [.ptr q 0]]]).get M.nx=some (r9 [.func (.func 36) [] [.ptr p8 0],.nilFunc,.func (.func 37) [] [.ptr q 0]]):=by rw [D6 c];rfl
 by_cases h:e=0;refine⟨_,?_,E0.toB,by rw [h,zP];exact b⟩;rw [enter (sf:=f71) rfl rfl];simp [f71,G7,I8,h];obtain⟨M',f,E1,i⟩:=acZ E0.ok (by rw [E0.lim];exact k) (q9 d E0.nx) b e n fu;refine⟨M',?_,E0.toB.trans E1,i⟩;rw [enter (sf:=f71) rfl rfl];simp [f71,G7,I8,h,j,f]
theorem VP:∀e:Ex,dw e=true->VJ e
 | .mk k n s a,h=>by rw [VJ];refine⟨λhk=>?_,nuL_of a ?_⟩;subst hk;obtain⟨_,h1,_⟩:=LZ h (.inl rfl);have:=h1 rfl;simp only [dI,gI,decide_eq_true_eq];omega;rw [dw] at h;exact ((gI _ _).mp h).2
where nuL_of:∀l:List Ex,iC l=true->VJ.nuL l
 | [],_=>trivial
 | e::l,h=>by rw [iC,gI] at h;exact⟨VP e h.1,nuL_of l h.2⟩
theorem AL {V:List (List UInt8×Int)}(a:∀p∈V,dI p.2=true){x:Ex}(h:dw x=true):dI (fB V x).1=true:=Oo a x (VP x h)
def CEv (V:List (List UInt8×Int))(q p8 pm n fu r:Nat):Prop:=∀(M:Mem) (S:Nat->Prop) (e0:Int) (x:Ex) (row:List d9),Wd V q p8 pm M->M.get q=some (r9 [iV e0])->¬ S q->bU M S x row->dw x=true->Bp x=false->fA x<=r->
 ∃M',l9 KW fu n (.func 38) [.agg [.func (.func 36) [] [.ptr p8 0],.nilFunc,.func (.func 37) [] [.ptr q 0]],.agg row] M=some [⟨.int .i64 (fB V x).1,M'⟩]∧nL q M M'∧M'.get q=some (r9 [.int .i64 (kT e0 (fB V x).2)])
theorem aaP {M:Mem}{S:Nat->Prop}{rs:Nat}{v:d9}{rows:List (List d9)}(h:oW M S rs v rows){i id o:Nat}(b:i<rows.length)
  (a:qj v none (λid off len _=>idx len (d9.int .i64 i) λk=>some (d9.ptr id (off+k*rs))) (λid off len _=>idx len (d9.int .i64 i) λk=>some (d9.ptr id (off+k*rs)))=some (.ptr id o)):S id∧id<M.nx:=by
 rcases h with⟨_,rfl⟩ | ⟨id0,o0,s0,hv,lt,_⟩;simp at b;rcases hv with⟨c,rfl,_⟩ | rfl;rw [uq,ow _ _ _ b] at a;cases a;exact⟨s0,lt⟩;rw [qL,ow _ _ _ b] at a;cases a;exact⟨s0,lt⟩
theorem Jp {V:List (List UInt8×Int)}{q p8 F n fu r:Nat}(z:CEv V q p8 F n fu r){M:Mem}{S:Nat->Prop}{v:d9}{rows:List (List d9)}{a:List Ex}(p:¬ S q)(G:oW M S 4 v rows)(H:G8 M S a rows)(t:Qh a=false)(N:aj a<=r)
  {i:Nat} (b:i<a.length) (P:dw a[i]=true) {A:Mem} (m:nL q M A) (w:Wd V q p8 F A) {s:Int} (g:A.get q=some (r9 [iV s])):
  ∃id o row M',qj v none (λid off len _=>idx len (iV i) λk=>some (d9.ptr id (off+k*4))) (λid off len _=>idx len (iV i) λk=>some (d9.ptr id (off+k*4)))=some (.ptr id o)∧MG (A.get id) o 4=some (.agg row)∧
   l9 KW fu n (.func 38) [.agg [.func (.func 36) [] [.ptr p8 0],.nilFunc,.func (.func 37) [] [.ptr q 0]],.agg row] A=some [⟨.int .i64 (fB V a[i]).1,M'⟩]∧nL q A M'∧M'.get q=some (r9 [.int .i64 (kT s (fB V a[i]).2)])∧id<M.nx∧id≠q:=by
 have W:=G8.len H;have L:=G.mono (S':=S) m.nx (λi b d=>m.old i b (λe=>p (e▸d))) (λi b d=>d);obtain⟨id,o,D,R,T,I,U⟩:=L.slice.at (i:=i) (by omega);obtain⟨C,B⟩:=aaP G (by omega) D;have c:=G8.get H i b (by omega);have E:=c.row;have f:=I 0 4 (by omega) (by omega);rw [J4,Y7 (by omega),Y5] at f;have u:id≠q:=λe=>p (e▸C);have j:a[i]∈a:=aaA b;have O:Bp a[i]=false:=by
  have:∀l:List Ex,Qh l=false->∀x∈l,Bp x=false:=by
   intro l;induction l with
   | nil=>intro _ x c;cases c
   | cons y l z=>intro h x c;rw [Qh,adG] at h;rcases X4.1 c with rfl | c;exact h.1;exact z h.2 x c
  exact this a t _ j
 have Q:fA a[i]<=r:=J2 (kI a i b) N;obtain⟨M',J,E1,K⟩:=z A S s a[i] rows[i] w g p (bU.mono m.nx (λi b d=>m.old i b (λe=>p (e▸d))) (λi b d=>d) _ _ c) P O Q;exact⟨id,o,rows[i],M',D,f,J,E1,K,B,u⟩
theorem VQ (n p:Nat):dz (n+1) (.ptr p 0) (.ptr p 0)=true:=by show bi (Nat.beq p p) (Nat.beq 0 0) false=true;rw [show Nat.beq p p=true from aat p];rfl
theorem Me (n f p:Nat):dz (n+2) (.func (.func f) [] [.ptr p 0]) (.func (.func f) [] [.ptr p 0])=true:=by show bi (Nat.beq f f) (bi (rz (dz (n+1)) [] []) (rz (dz (n+1)) [.ptr p 0] [.ptr p 0]) false) false=true;rw [show Nat.beq f f=true from aat f,Dl,uy,VQ,Dl];rfl
theorem Zr (p8 q:Nat):dz 100 (.agg [.func (.func 36) [] [.ptr p8 0],.nilFunc,.func (.func 37) [] [.ptr q 0]]) (.agg [.func (.func 36) [] [.ptr p8 0],.nilFunc,.func (.func 37) [] [.ptr q 0]])=true:=by rw [Rt,uy,Me 97,uy,show dz 99 .nilFunc .nilFunc=true from rfl,uy,Me 97,Dl];rfl
theorem Jq (a b:Bool):mE (.bool a) (.bool b)=some (decide (a=b)):=by cases a<;>cases b<;>rfl
theorem ad2 {V:List (List UInt8×Int)}(hV:∀p∈V,dI p.2=true){q p8 pm:Nat}(fu:Nat):∀r n:Nat,r+8<=n->CEv V q p8 pm n fu r:=by
 intro r;induction r with
 | zero=>intro n hn M S e0 x D w g R hx T u P;cases x;rw [fA] at P;omega
 | succ r ih=>
  intro n hn M S e0 x D w g R hx T u P;obtain⟨n,rfl⟩:∃k,n=k+1:=⟨n-1,by omega⟩;obtain⟨k,H,s,a⟩:=x;obtain⟨v,ac,rfl,q1,q2⟩:=hx;have hm:=w.ok;have hl:=w.lm';have E0:=J5 hm [r9 [.func (.func 36) [] [.ptr p8 0],.nilFunc,.func (.func 37) [] [.ptr q 0]],r9 (r4 k H s v)];have t:(ext M [r9 [.func (.func 36) [] [.ptr p8 0],.nilFunc,.func (.func 37) [] [.ptr q 0]],r9 (r4 k H s v)]).get M.nx=some (r9 [.func (.func 36) [] [.ptr p8 0],.nilFunc,.func (.func 37) [] [.ptr q 0]]):=by rw [D6 hm];rfl
  have m:(ext M [r9 [.func (.func 36) [] [.ptr p8 0],.nilFunc,.func (.func 37) [] [.ptr q 0]],r9 (r4 k H s v)]).get (M.nx+1)=some (r9 (r4 k H s v)):=by rw [G6 hm];rfl
  have O:(ext M [r9 [.func (.func 36) [] [.ptr p8 0],.nilFunc,.func (.func 37) [] [.ptr q 0]],r9 (r4 k H s v)]).get q=some (r9 [iV e0]):=(E0.old _ w.lq).trans g;have W:=w.ext (E0.toB (id:=q));have ah:(ext M [r9 [.func (.func 36) [] [.ptr p8 0],.nilFunc,.func (.func 37) [] [.ptr q 0]],r9 (r4 k H s v)]).nx=M.nx+2:=by simp
  have wq:=w.lq;rcases LY T with rfl | rfl | rfl | rfl | rfl | ⟨k1,k2⟩;refine⟨_,?_,E0.toB,by rw [fB,if_pos rfl,zP];exact O⟩;rw [enter (sf:=f38) rfl rfl,fB,if_pos rfl];simp [f38,G7,I8,t,m];have gv:=acY W s (n-1) fu;rw [abV (by omega)] at gv;refine⟨_,?_,E0.toB,by rw [fB,if_neg (by decide),if_pos rfl,zP];exact O⟩;rw [enter (sf:=f38) rfl rfl,fB,if_neg (by decide),if_pos rfl];simp [f38,G7,I8,t,m,gv];rw [Bp] at u;simp at u;obtain⟨rfl,rfl,y,rfl,G⟩:=BL T (.inl rfl);rw [Bp,decide_eq_false (by omega),aaO] at u;obtain⟨id,o,D,M1,f,h,I,E1,B,l,U⟩:=Jp (ih n (by omega)) R q1 q2 u (by rw [fA] at P;omega) (i:=0) (by simp) (by simpa using G) E0.toB W O;simp at f;have C:=AL hV G;simp only [abZ] at I B;have j:(ext M [r9 [.func (.func 36) [] [.ptr p8 0],.nilFunc,.func (.func 37) [] [.ptr q 0]],r9 (r4 4 0 [] v)]).get id=M.get id:=E0.old _ l;rw [j] at h;refine⟨M1,?_,E0.toB.trans E1,by rw [fB,if_neg (by decide),if_neg (by decide),Jj,if_pos rfl];exact B⟩;have nv:kV .i64 (-(fB V y).1)=-(fB V y).1:=by simp only [dI,gI,decide_eq_true_eq] at C;exact U8 (n:=-(fB V y).1) (by omega) (by omega)
  have e:(fB V (.mk 4 0 [] [y])).1=-(fB V y).1:=by rw [fB,if_neg (by decide),if_neg (by decide),Jj,if_pos rfl];rfl
  rw [enter (sf:=f38) rfl rfl,e];generalize (fB V y).1=z at *;simp [f38,G7,I8,t,m,f,h,j,I,nv];obtain⟨rfl,rfl,y,rfl,G⟩:=BL T (.inr rfl);rw [Bp,decide_eq_false (by omega),aaO] at u;obtain⟨id,o,D,M1,f,h,I,E1,B,l,U⟩:=Jp (ih n (by omega)) R q1 q2 u (by rw [fA] at P;omega) (i:=0) (by simp) (by simpa using G) E0.toB W O;simp at f;have C:=AL hV G;simp only [abZ] at I B;have j:(ext M [r9 [.func (.func 36) [] [.ptr p8 0],.nilFunc,.func (.func 37) [] [.ptr q 0]],r9 (r4 5 0 [] v)]).get id=M.get id:=E0.old _ l;rw [j] at h;refine⟨M1,?_,E0.toB.trans E1,by rw [fB,if_neg (by decide),if_neg (by decide),Jj,if_neg (by decide),if_pos rfl];exact B⟩;have e:(fB V (.mk 5 0 [] [y])).1=nN (decide ((fB V y).1=0)):=by rw [fB,if_neg (by decide),if_neg (by decide),Jj,if_neg (by decide),if_pos rfl];rfl
  rw [enter (sf:=f38) rfl rfl,e];generalize (fB V y).1=z at *;have c:=λb=>Oq b (n-1) fu M1;rw [abV (by omega)] at c;simp [f38,G7,I8,t,m,f,h,j,I,c];obtain⟨rfl,rfl,y,z,rfl,G,hz⟩:=Qa T k1 k2;rw [Bp,decide_eq_false (by omega),aaO] at u;have Q:aj [y,z]<=r:=by rw [fA] at P;omega
  obtain⟨id,o,D,M1,f,h,F,E1,B,l,U⟩:=Jp (ih n (by omega)) R q1 q2 u Q (i:=0) (by simp) (by simpa using G) E0.toB W O;have w1:=W.ext E1;have EE1:nL q M M1:=E0.toB.trans E1;obtain⟨ag,o2,ab,M2,X,c4,Z,E2,h2,a9,aa⟩:=Jp (ih n (by omega)) R q1 q2 u Q (i:=1) (by simp) (by simpa using hz) EE1 w1 B;have EE2:=EE1.trans E2;simp at f X;have C:=AL hV G;have a5:=AL hV hz;simp only [abZ,aeM] at F B Z h2;have ad:=E1.nx;have ae:=E2.nx;have j:(ext M [r9 [.func (.func 36) [] [.ptr p8 0],.nilFunc,.func (.func 37) [] [.ptr q 0]],r9 (r4 k 0 [] v)]).get id=M.get id:=E0.old _ l;rw [j] at h;have A:M1.get M.nx=some (r9 [.func (.func 36) [] [.ptr p8 0],.nilFunc,.func (.func 37) [] [.ptr q 0]]):=(E1.old _ (by omega) (by omega)).trans t;have d:M1.get (M.nx+1)=some (r9 (r4 k 0 [] v)):=(E1.old _ (by omega) (by omega)).trans m;have K:M2.get M.nx=some (r9 [.func (.func 36) [] [.ptr p8 0],.nilFunc,.func (.func 37) [] [.ptr q 0]]):=(E2.old _ (by omega) (by omega)).trans A;have J:M2.get (M.nx+1)=some (r9 (r4 k 0 [] v)):=(E2.old _ (by omega) (by omega)).trans d;have e:fB V (.mk k 0 [] [y,z])=Jj k (fB V y) (fB V z):=by rw [fB,if_neg (by omega),if_neg (by omega)];rfl
  have n1:¬ k=1:=by omega
  have n2:¬ k=2:=by omega
  have n3:¬ k=3:=by omega
  have n4:¬ k=4:=by omega
  have n5:¬ k=5:=by omega
  rw [e];generalize fB V y=Y at *;generalize fB V z=Z' at *;by_cases ho:k=17∨k=18;have c:=λb M=>Oq b (n-1) fu M;rw [abV (by omega)] at c;have e2:Jj k Y Z'=if (!decide (Y.1=0))=decide (k=18) then (nN (!decide (Y.1=0)),Y.2) else (nN (!decide (Z'.1=0)),kT Y.2 Z'.2):=by rw [Jj,if_neg (by omega),if_neg (by omega),if_pos ho]
  rw [e2];by_cases hs:(!decide (Y.1=0))=decide (k=18);rw [if_pos hs];refine⟨M1,?_,EE1,B⟩;rw [enter (sf:=f38) rfl rfl];rcases ho with rfl | rfl;have E:Y.1=0:=by simpa using hs
  rw [E] at F;simp [f38,G7,I8,t,m,f,h,j,F,d,c,E,Jq];have E:¬ Y.1=0:=by simpa using hs
  simp [f38,G7,I8,t,m,f,h,j,F,d,c,E,Jq];rw [if_neg hs];refine⟨M2,?_,EE2,by rw [← wN];exact h2⟩;rw [enter (sf:=f38) rfl rfl];rcases ho with rfl | rfl;have E:¬ Y.1=0:=by simpa using hs
  simp [f38,G7,I8,t,m,f,h,j,F,d,A,X,c4,Z,c,E,Jq];have E:Y.1=0:=by simpa using hs
  rw [E] at F;simp [f38,G7,I8,t,m,f,h,j,F,d,A,X,c4,Z,c,E,Jq];have k3:k<=16:=by omega
  have a7:¬ k=17:=by omega
  have a8:¬ k=18:=by omega
  have a6:M2.lim<=M2.nx:=(w1.ext E2).lm';have E3:=J5 E2.ok (.map (kU (Ot M2))::RZ);obtain⟨fv,a3,hO⟩:=acX E2.ok k k1 k3;have lk:=VO .nilFunc k (Ot M2) (b:=(ext M2 (.map (kU (Ot M2))::RZ)).get M2.nx) (by rw [D6 E2.ok];rfl);rw [a3] at lk;have N:=acW E2.ok a6 (n-2) fu;rw [show n-2+2=n from by omega] at N;have hO:=hO Y.1 Z'.1 C a5 (n-3) fu;rw [show n-3+3=n from by omega] at hO;generalize hM3:ext M2 (.map (kU (Ot M2))::RZ)=M3 at *;have h3:M3.get q=some (r9 [.int .i64 (kT (kT e0 Y.2) Z'.2)]):=(E3.old _ (by omega)).trans h2;have a2:M3.get M.nx=some (r9 [.func (.func 36) [] [.ptr p8 0],.nilFunc,.func (.func 37) [] [.ptr q 0]]):=(E3.old _ (by omega)).trans K;have a0:M3.get (M.nx+1)=some (r9 (r4 k 0 [] v)):=(E3.old _ (by omega)).trans J;have af:=E3.nx;obtain⟨M4,L,E4,h4⟩:=ad1 (p8:=p8) E3.ok (by rw [E3.lim,EE2.lim];exact w.lim) (by omega) h3 (zO k Y.1 Z'.1).1 (zO k Y.1 Z'.1).2 (n-2) fu;rw [show n-2+2=n from by omega] at L;have e2:Jj k Y Z'=((zO k Y.1 Z'.1).1,kT (kT Y.2 Z'.2) (zO k Y.1 Z'.1).2):=by rw [Jj,if_neg (by omega),if_neg (by omega),if_neg ho]
  rw [e2];refine⟨M4,?_,(EE2.trans E3.toB).trans E4,by rw [← wN,← wN];exact h4⟩;rw [enter (sf:=f38) rfl rfl];simp [f38,G7,I8,t,m,f,h,j,F,d,A,X,c4,Z,N,K,J,a2,a0,kJ,lk,hO,L,Zr,Rs,n1,n2,n3,n4,n5,a7,a8]
structure Ex2 (p q:Nat)(m m':Mem):Prop where
 ok:m'.Ok
 nx:m.nx<=m'.nx
 lim:m'.lim=m.lim
 old:∀i,i<m.nx->i≠p->i≠q->m'.get i=m.get i
theorem Ex2.refl {p q:Nat}{m:Mem}(h:m.Ok):Ex2 p q m m:=⟨h,lM _,rfl,λ_ _ _ _=>rfl⟩
theorem Ex2.trans {p q:Nat}{a b c:Mem}(h:Ex2 p q a b)(k:Ex2 p q b c):Ex2 p q a c:=
 ⟨k.ok,J2 h.nx k.nx,k.lim.trans h.lim,λi f d e=>(k.old i (q9 f h.nx) d e).trans (h.old i f d e)⟩
theorem _root_.Go.AM.Ext.to2 {p q:Nat}{a b:Mem}(h:Ext a b):Ex2 p q a b:=⟨h.ok,h.nx,h.lim,λi c _ _=>h.old i c⟩
def isIn (V:List (List UInt8×Int))(s:List UInt8):Bool:=V.any λp=>p.1==s
mutual
def MN (V:List (List UInt8×Int)):Ex->Bool
 | .mk k n s a=>(decide (k=2) && !isIn V s)||SN V a
def SN (V:List (List UInt8×Int)):List Ex->Bool
 | []=>false
 | e::l=>MN V e||SN V l
end
theorem Mf (s:List UInt8):∀V:List (List UInt8×Int),(assoc (vK V) s).isSome=isIn V s
 | []=>rfl
 | (x,n)::l=>by
  show (if s=x then some (d9.int .i64 n) else assoc (vK l) s).isSome=(x==s||isIn l s)
  by_cases h:s=x;subst h;simp;have hx:(x==s)=false:=by simpa using (af4 h)
  rw [if_neg h,Mf s l,hx,aaO]
structure Vi (V:List (List UInt8×Int))(p8 pm pc pu:Nat)(M:Mem)(c u:Bool):Prop where
 ok:M.Ok
 lc:M.lim<=pc
 lu:M.lim<=pu
 bc:pc<M.nx
 bu:pu<M.nx
 cu:pc≠pu
 n8:p8≠pc∧p8≠pu
 nm:pm≠pc∧pm≠pu
 b8:p8<M.nx
 bm:pm<M.nx
 g8:M.get p8=some (r9 [.map pm])
 gm:M.get pm=some (.map (bC (vK V)))
 gc:M.get pc=some (r9 [.bool c])
 gu:M.get pu=some (r9 [.bool u])
theorem Vi.ext {V:List (List UInt8×Int)}{p8 d b e:Nat}{M a:Mem}{c u:Bool}(h:Vi V p8 d b e M c u)(E:Ext M a):Vi V p8 d b e a c u:=
 ⟨E.ok,by rw [E.lim];exact h.lc,by rw [E.lim];exact h.lu,q9 h.bc E.nx,q9 h.bu E.nx,h.cu,h.n8,h.nm,q9 h.b8 E.nx,q9 h.bm E.nx,(E.old _ h.b8).trans h.g8,(E.old _ h.bm).trans h.gm,(E.old _ h.bc).trans h.gc,(E.old _ h.bu).trans h.gu⟩
theorem ad3 {V:List (List UInt8×Int)}{p8 E d l:Nat}{M:Mem}{c u:Bool}(h:Vi V p8 E d l M c u)(k n0:Int)(s:List UInt8)(v:d9)(J:Go.AM.G9 v=true)(I:v.cells=[v])(n fu:Nat):
  ∃M',l9 KW fu (n+1) (.func 35) [.agg (r4 k n0 s v),.ptr p8 0,.ptr d 0,.ptr l 0] M=some [⟨.tuple [],M'⟩]∧Ex2 d l M M'∧Vi V p8 E d l M' (c||decide (k=3)) (u||(decide (k=2) && !isIn V s)):=by
 have E0:=J5 h.ok [r9 (r4 k n0 s v)];have q:(ext M [r9 (r4 k n0 s v)]).get M.nx=some (r9 (r4 k n0 s v)):=by rw [D6 h.ok];rfl
 have a:=h.ext E0;have o:=VH (iV 0) s (vK V) (.inl a.gm);have b:=Mf s V;have p:=a.bc;have D:=a.bu;have K:(ext M [r9 (r4 k n0 s v)]).nx=M.nx+1:=by simp
 have G:=h.bc;have H:=h.bu;generalize hA:ext M [r9 (r4 k n0 s v)]=A at *;have r:=sB a.lc;have j:∀B,(A.set d B).Ok:=λB=>Mem.Ok.set a.ok p _;have y:∀B,(A.set d B).get d=some B:=λB=>R3 a.ok _ p rfl;have f:∀B,(A.set d B).get l=some (r9 [.bool u]):=λB=>(K6 a.ok _ p (af4 h.cu)).trans a.gu;have e:∀B,(A.set d B).get M.nx=some (r9 (r4 k n0 s v)):=λB=>(K6 a.ok _ p (by omega)).trans q;have t:=λB (β:Type) off vs (k:Mem->Option β)=>wH (m:=A.set d B) (id:=l) a.lu off vs k;have g:∀B,l<(A.set d B).nx:=λB=>D;refine⟨(A.set d (r9 [.bool (c||decide (k=3))])).set l (r9 [.bool (u||(decide (k=2) && !isIn V s))]),?_,⟨Mem.Ok.set (j _) (g _) _,by show M.nx<=A.nx;omega,E0.lim,λi F z C=>?_⟩,?_⟩
 rw [enter (sf:=f35) rfl rfl];cases ha:assoc (vK V) s with
 | none=>
  rw [ha] at o b;have b:isIn V s=false:=b.symm;by_cases k3:k=3;subst k3;cases c<;>cases u<;>simp [f35,G7,hA,q,e,a.g8,a.gc,f,kJ,o,r,t,G9,b]
  by_cases k2:k=2;subst k2;cases c<;>cases u<;>simp [f35,G7,hA,q,e,a.g8,a.gc,f,kJ,o,r,t,G9,b]
  cases c<;>cases u<;>simp [f35,G7,hA,q,e,a.g8,a.gc,f,kJ,o,r,t,G9,b,k2,k3]
 | some w=>
  rw [ha] at o b;have b:isIn V s=true:=b.symm;by_cases k3:k=3;subst k3;cases c<;>cases u<;>simp [f35,G7,hA,q,e,a.g8,a.gc,f,kJ,o,r,t,G9,b]
  by_cases k2:k=2;subst k2;cases c<;>cases u<;>simp [f35,G7,hA,q,e,a.g8,a.gc,f,kJ,o,r,t,G9,b]
  cases c<;>cases u<;>simp [f35,G7,hA,q,e,a.g8,a.gc,f,kJ,o,r,t,G9,b,k2,k3]
 rw [K6 (j _) _ (g _) C,K6 a.ok _ p z,E0.old i F];have x:∀i,i≠d->i≠l->((A.set d (r9 [.bool (c||decide (k=3))])).set l (r9 [.bool (u||(decide (k=2) && !isIn V s))])).get i=A.get i:=λi z C=>by rw [K6 (j _) _ (g _) C,K6 a.ok _ p z]
 exact⟨Mem.Ok.set (j _) (g _) _,a.lc,a.lu,p,D,h.cu,h.n8,h.nm,a.b8,a.bm,(x _ h.n8.1 h.n8.2).trans a.g8,(x _ h.nm.1 h.nm.2).trans a.gm,by rw [K6 (j _) _ (g _) h.cu];exact y _,R3 (j _) _ (g _) rfl⟩
def CVi (V:List (List UInt8×Int))(p8 pm pc pu n fu r:Nat):Prop:=∀(M:Mem) (S:Nat->Prop) (x:Ex) (row:List d9) (c u:Bool),Vi V p8 pm pc pu M c u->¬ S pc->¬ S pu->bU M S x row->fA x<=r->gQ x<=10000->
 ∃M',l9 KW fu n (.func 34) [.agg row,(.func (.func 35) [] [.ptr p8 0,.ptr pc 0,.ptr pu 0])] M=some [⟨.tuple [],M'⟩]∧Ex2 pc pu M M'∧Vi V p8 pm pc pu M' (c||Bp x) (u||MN V x)
theorem Zt {V:List (List UInt8×Int)}{p8 C f g n fu r:Nat}(U:CVi V p8 C f g n fu r){M:Mem}{S:Nat->Prop}(t:¬ S f)(x:¬ S g){v:d9}{rows:List (List d9)}(a:List Ex)(X:oW M S 4 v rows)(F:G8 M S a rows)(hL:aj a<=r)(hP:Z0 a<=10000)(row:List d9)(s:Nat):
  ∀(j i:Nat),i+j=a.length->∀(c5 x7:d9) (c u:Bool) (A:Mem) (N:Nat),Ex2 f g M A->Vi V p8 C f g A c u->j+1<=N->
  ∃c5' x7' M',H7 (λenv m k=>LC (l9 KW fu n) fu none env m k) N (yL (.agg row) (.func (.func 35) [] [.ptr p8 0,.ptr f 0,.ptr g 0]) (.ptr s 0) (iV (i:Int)) (iV (a.length:Int)) c5 v x7) A []=some [⟨.exit 0,(yL (.agg row) (.func (.func 35) [] [.ptr p8 0,.ptr f 0,.ptr g 0]) (.ptr s 0) (iV (a.length:Int)) (iV (a.length:Int)) c5' v x7'),M',[],none⟩]∧Ex2 f g A M'∧Vi V p8 C f g M' (c||Qh (a.drop i)) (u||SN V (a.drop i)):=by
 have hr:=G8.len F;have P:=V3 a;intro j;induction j with
 | zero=>
  intro i h c5 x7 c u A N EA w O;obtain⟨N,rfl⟩:∃k,N=k+1:=⟨N-1,by omega⟩;obtain rfl:i=a.length:=by omega
  refine⟨.bool false,x7,A,?_,Ex2.refl w.ok,by rw [aaC,Qh,SN,agf,agf];exact w⟩;rw [A9];simp [LC]
 | succ j ihj=>
  intro i h c5 x7 c u A N EA w O;obtain⟨N,rfl⟩:∃k,N=k+1:=⟨N-1,by omega⟩;have d:i<a.length:=by omega
  have p:(i:Int)<(a.length:Int):=by omega
  have b:=X.mono (S':=S) EA.nx (λi h b=>EA.old i h (λe=>t (e▸b)) (λe=>x (e▸b))) (λi h b=>b);obtain⟨id,o,G,a2,a3,H,a5⟩:=b.slice.at (i:=i) (by omega);have E:=G8.get F i d (by omega);have q:=E.row;have l:=H 0 4 (by omega) (by omega);rw [J4,Y7 (by omega),Y5] at l;have y:a.drop i=a[i]::a.drop (i+1):=Xd d;have R:=kI a i d;have hp:=jo a i d;have E0:=J5 w.ok [r9 rows[i]];have Y:=w.ext E0;have L:(ext A [r9 rows[i]]).get A.nx=some (r9 rows[i]):=by rw [D6 w.ok];rfl
  have EE:=EA.trans E0.to2;have z:=bU.mono (S':=S) EE.nx (λi h b=>EE.old i h (λe=>t (e▸b)) (λe=>x (e▸b))) (λi h b=>b) _ _ E;obtain⟨M1,J,E1,Z⟩:=U (ext A [r9 rows[i]]) S a[i] rows[i] c u Y t x z (by omega) (by omega);obtain⟨c5',x7',M',K,E2,w2⟩:=ihj (i+1) (by omega) tt (.ptr A.nx 0) _ _ M1 N (EE.trans E1) Z (by omega);refine⟨c5',x7',M',?_,(E0.to2.trans E1).trans E2,by rw [y,Qh,SN,← aeT,← aeT];exact w2⟩;rw [A9,← K];have B:rows[i].length=4:=by omega
  have D:Go.AM.Ga (some (r9 (r4 0 0 [] nS))) 0 rows[i]=some (r9 rows[i]):=by rw [Go.AM.tC (by simp [B]) (by simp)];simp [B]
  have W:Go.AM.MG (some (r9 rows[i])) 0 4=some (.agg rows[i]):=by rw [tu (by omega) (by omega),J4,Y7 (by omega)]
  have I:K4 rows[i]=true:=q.2;have T:=w.ok;have Q:A.lim<=A.nx:=by have:=w.lc;have:=w.bc;omega
  simp [LC,lU T Q,G9,p,G,l,B,D,I,L,W,J,T9 (i:=i) (by omega)]
theorem ad4 {V:List (List UInt8×Int)}{p8 O j l:Nat}(fu:Nat)(K:20000<=fu):∀r n:Nat,r+3<=n->CVi V p8 O j l n fu r:=by
 intro r;induction r with
 | zero=>intro n L M S x o c u w z A C i B;cases x;rw [fA] at i;omega
 | succ r ih=>
  intro n L M S x o c u w z A C i B;obtain⟨n,rfl⟩:∃k,n=k+1:=⟨n-1,by omega⟩;obtain⟨k,d,s,a⟩:=x;obtain⟨v,E,rfl,e,D⟩:=C;rw [fA] at i;rw [gQ] at B;have J:=V3 a;have E0:=J5 w.ok [r9 (r4 k d s v)];have P:=w.ext E0;have H:=e.slice.cells;have N:=e.slice.G9;have b:=e.slice.len;rw [G8.len D] at b;have y:(ext M [r9 (r4 k d s v)]).get M.nx=some (r9 (r4 k d s v)):=by rw [D6 w.ok];rfl
  obtain⟨M1,t,E1,Q⟩:=ad3 P k d s v N H (n-1) fu;rw [abV (by omega)] at t;have T:=w.bc;have U:=w.bu;have W:(ext M [r9 (r4 k d s v)]).nx=M.nx+1:=by simp
  have h:M1.get M.nx=some (r9 (r4 k d s v)):=(E1.old _ (by omega) (by omega) (by omega)).trans y;have EE:=(E0.to2 (p:=j) (q:=l)).trans E1;obtain⟨G,R,M',I,E2,F⟩:=Zt (ih n (by omega)) z A a e D (by omega) (by omega) (r4 k d s v) M.nx a.length 0 (by omega) .undef .undef (_) _ M1 fu EE Q (by omega);rw [J4] at F;refine⟨M',?_,EE.trans E2,by rw [Bp,MN,← aeT,← aeT];exact F⟩;have g:H7 (λf m k=>LC (l9 KW fu n) fu none f m k) fu (yL (.agg (r4 k d s v)) (.func (.func 35) [] [.ptr p8 0,.ptr j 0,.ptr l 0]) (.ptr M.nx 0) (iV 0) (iV (a.length:Int)) .undef v .undef) M1 []=_:=I;rw [enter (sf:=f34) rfl rfl];simp [f34,G7,y,h,t,b,g]
theorem ad5 {m:Mem}(c:m.Ok)(b:m.lim<=m.nx)(v:d9)(d:Go.AM.G9 v=true)(a:v.cells=[v])(n fu:Nat):l9 KW fu (n+1) (.func 33) [v] m=some [⟨.func (.func 69) [] [.ptr m.nx 0],ext m [r9 [v]]⟩]:=by rw [enter (sf:=f33) rfl rfl];simp [f33,lU c b,G9,d,a]
end Go.Proofs.YtcnimimffiiimaaGreatDoor.TT
