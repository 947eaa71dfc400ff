/- A printed text is read back, as a plain law; conditions: the memory holds what the arguments say. -/
import Derived.Test.YteecnooaopfkeaaGreatDoorPD5
set_option linter.all false
namespace Go.Proofs.YteecnooaopfkeaaGreatDoor.TT
open Go Go.AM
theorem Ns (f:Nat):(∀lv t r,aj f lv t=some r->aj (f+1) lv t=some r)∧(∀lv x t r,bK f lv x t=some r->bK (f+1) lv x t=some r)∧(∀t r,iw f t=some r->iw (f+1) t=some r)∧
  (∀t r,gF f t=some r->gF (f+1) t=some r)∧(∀l t r,fZ f l t=some r->fZ (f+1) l t=some r):=by
 induction f with
 | zero=>exact⟨by intro _ _ _ h;simp [aj] at h,by intro _ _ _ _ h;simp [bK] at h,by intro _ _ h;simp [iw] at h,by intro _ _ h;simp [gF] at h,by intro _ _ _ h;simp [fZ] at h⟩
 | succ f ih=>
  obtain⟨a,b,e,g,d⟩:=ih;refine⟨λlv t r h=>?_,λlv x t r h=>?_,λt r h=>?_,λt r h=>?_,λl t r h=>?_⟩;rw [aj] at h ⊢;by_cases c1:lv=2;rw [if_pos c1] at h ⊢;by_cases c2:bC [110,111,116] t=true;rw [if_pos c2] at h ⊢;cases he:aj f 2 (t.drop 1) with
  | none=>rw [he] at h;cases h
  | some y=>rw [he] at h;rw [a _ _ _ he];exact h
  rw [if_neg c2] at h ⊢;exact a _ _ _ h;rw [if_neg c1] at h ⊢;by_cases c1:lv=6;rw [if_pos c1] at h ⊢;by_cases c2:bC [45] t=true;rw [if_pos c2] at h ⊢;cases he:aj f 6 (t.drop 1) with
  | none=>rw [he] at h;cases h
  | some y=>rw [he] at h;rw [a _ _ _ he];exact h
  rw [if_neg c2] at h ⊢;exact e _ _ h;rw [if_neg c1] at h ⊢;cases he:aj f (lv+1) t with
  | none=>rw [he] at h;cases h
  | some y=>rw [he] at h;rw [a _ _ _ he];exact b _ _ _ _ h
  rw [bK] at h ⊢;cases ho:Zp (lv:Int) t with
  | none=>rw [ho] at h;exact h
  | some k=>
   rw [ho] at h;dsimp only at h ⊢;cases he:aj f (lv+1) (t.drop 1) with
   | none=>rw [he] at h;cases h
   | some y=>rw [he] at h;rw [a _ _ _ he];dsimp only at h ⊢;by_cases c:lv=3;rw [if_pos c] at h ⊢;exact h;rw [if_neg c] at h ⊢;exact b _ _ _ _ h
  rw [iw] at h ⊢;by_cases c1:HY t=true;rw [if_pos c1] at h ⊢;exact h;rw [if_neg c1] at h ⊢;by_cases c2:bC [40] t=true;rw [if_pos c2] at h ⊢;cases he:aj f 0 (t.drop 1) with
  | none=>rw [he] at h;cases h
  | some y=>rw [he] at h;rw [a _ _ _ he];exact h
  rw [if_neg c2] at h ⊢;by_cases c3:fV t=true;rw [if_pos c3] at h ⊢;by_cases c4:bC [40] (t.drop 1)=true;rw [if_pos c4] at h ⊢;by_cases c5:bC [41] (t.drop 2)=true;rw [if_pos c5] at h ⊢;exact h;rw [if_neg c5] at h ⊢;cases he:gF f (t.drop 2) with
  | none=>rw [he] at h;cases h
  | some y=>rw [he] at h;rw [g _ _ he];exact h
  rw [if_neg c4] at h ⊢;exact h;rw [if_neg c3] at h;cases h;rw [gF] at h ⊢;cases he:aj f 0 t with
  | none=>rw [he] at h;cases h
  | some y=>rw [he] at h;rw [a _ _ _ he];exact d _ _ _ h
  rw [fZ] at h ⊢;by_cases c1:bC [44] t=true;rw [if_pos c1] at h ⊢;cases he:aj f 0 (t.drop 1) with
  | none=>rw [he] at h;cases h
  | some y=>rw [he] at h;rw [a _ _ _ he];exact d _ _ _ h
  rw [if_neg c1] at h ⊢;exact h
theorem acM {f g lv:Nat}{t:List Tok}{r:Ex×List Tok}(h:aj f lv t=some r)(a:f<=g):aj g lv t=some r:=by
 induction a with
 | refl=>exact h
 | step _ ih=>exact (Ns _).1 _ _ _ ih
theorem Ig {f g lv:Nat}{x:Ex}{t:List Tok}{r:Ex×List Tok}(h:bK f lv x t=some r)(a:f<=g):bK g lv x t=some r:=by
 induction a with
 | refl=>exact h
 | step _ ih=>exact (Ns _).2.1 _ _ _ _ ih
noncomputable section
def V3 (least:Int)(p:Int×List Tok):List Tok:=if bI p.1<least then (3,[40])::(p.2 ++ [(3,[41])]) else p.2
def uz (k:Int):Tok:=(zJ (SQ k),SQ k)
def ru:List (List Tok)->List Tok
 | []=>[]
 | [a]=>a
 | a::b::l=>a++(3,[44])::ru (b::l)
def wZ (k n:Int)(s:By)(l:List (Int×List Tok)):List Tok:=
 if k=1 then [(2,Lib.itoa n)] else if k=2 then [(1,s)] else if k=3 then (1,s)::(3,[40])::(ru (l.map (·.2)) ++ [(3,[41])])
 else if k=4 then (3,[45])::V3 6 (l.getD 0 (0,[])) else if k=5 then (1,[110,111,116])::V3 2 (l.getD 0 (0,[]))
 else V3 (if bI k=3 then 4 else bI k) (l.getD 0 (0,[]))++(uz k::V3 (bI k+1) (l.getD 1 (0,[])))
mutual
def ah:Ex->List Tok
 | .mk k n s a=>wZ k n s (tkL a)
def tkL:List Ex->List (Int×List Tok)
 | []=>[]
 | e::l=>(bL e,ah e)::tkL l
end
def qw (lv:Nat)(t:List Tok):Prop:=∀l:Nat,lv<=l->l<=7->Zp (l:Int) t=none
theorem qw.up {a b:Nat}{t:List Tok}(h:qw a t)(d:a<=b):qw b t:=λl e c=>h l (by omega) c
def pX (f lv:Nat)(t:List Tok):Option (Ex×List Tok):=if lv=7 then iw f t else aj f lv t
theorem aej {f g lv:Nat}{t:List Tok}{r:Ex×List Tok}(h:pX f lv t=some r)(a:f<=g):pX g lv t=some r:=by
 unfold pX at h ⊢;split at h;rename_i c;rw [if_pos c];induction a with
 | refl=>exact h
 | step _ ih=>exact (Ns _).2.2.1 _ _ ih
 rename_i c;rw [if_neg c];exact acM h a
theorem nu {f lv:Nat}{t:List Tok}(h:lv<7):pX f lv t=aj f lv t:=if_neg (by omega)
theorem agl {f lv:Nat}{t:List Tok}{y:Ex×List Tok}(h:pX f lv t=some y):∃g,f=g+1:=by
 cases f with
 | zero=>unfold pX at h;split at h;rw [iw] at h;cases h;rw [aj] at h;cases h
 | succ f=>exact⟨f,rfl⟩
theorem acN {f lv:Nat}{t:List Tok}{x:Ex}{r:List Tok}(a:lv<7)(h:pX f (lv+1) t=some (x,r))(d:lv=2->bC [110,111,116] t=false)(b:lv=6->bC [45] t=false)(e:Zp (lv:Int) r=none):
  pX (f+1) lv t=some (x,r):=by
 rw [nu a,aj];by_cases c:lv=2;subst c;rw [if_pos rfl,if_neg (by simp [d rfl])]
 rwa [nu (by omega)] at h
 rw [if_neg c];by_cases c:lv=6;subst c;rw [if_pos rfl,if_neg (by simp [b rfl])]
 rwa [show pX f 7 t=iw f t from if_pos rfl] at h
 rw [if_neg c];obtain⟨g,rfl⟩:=agl h;rw [nu (by omega)] at h;rw [h];show bK (g+1) lv x r=_;rw [bK,e]
theorem Nt {t:List Tok}{x:Ex}{r:List Tok}:∀(k:Nat) {f lv a:Nat},a=lv+k->a<=7->(lv<=2->2<a->bC [110,111,116] t=false)->(lv<=6->6<a->bC [45] t=false)->pX f a t=some (x,r)->qw lv r->pX (f+k) lv t=some (x,r)
 | 0,f,lv,a,h,_,_,_,hp,_=>by obtain rfl:a=lv:=h;exact hp
 | k+1,f,lv,a,h,ha,hn,hm,hp,ho=>by have:=Nt k (f:=f) (lv:=lv+1) (a:=a) (by omega) ha (λh1 h2=>hn (by omega) h2) (λh1 h2=>hm (by omega) h2) hp (ho.up (by omega));exact acN (by omega) this (λc=>hn (by omega) (by omega)) (λc=>hm (by omega) (by omega)) (ho lv (aP _) (by omega))
theorem acO:∀j,j<13->∀lv,lv<8->nH ((lv:Nat):Int) ((uz ((6+j:Nat):Int)).1:Int) (uz ((6+j:Nat):Int)).2=if ((lv:Nat):Int)=bI ((6+j:Nat):Int) then some ((6+j:Nat):Int) else none:=by decide +kernel
theorem Nu {k:Int}(a:6<=k)(b:k<=18){lv:Nat}(c:lv<=7)(t:List Tok):Zp (lv:Int) (uz k::t)=if (lv:Int)=bI k then some k else none:=by have:=acO (k.toNat-6) (by omega) lv (by omega);rw [show ((6+(k.toNat-6):Nat):Int)=k from by omega] at this;exact this
theorem xX:∀s∈([[41],[44],[59],[123],[61]]:List By),∀lv,lv<8->nH ((lv:Nat):Int) 3 s=none:=by decide +kernel
theorem Ih (t:List Tok):qw 0 ((3,[41])::t):=λl _ h=>xX [41] (by decide) l (by omega)
theorem Tc (t:List Tok):qw 0 ((3,[44])::t):=λl _ h=>xX [44] (by decide) l (by omega)
theorem Uw {k:Int}(a:6<=k)(b:k<=18){lv:Nat}(e:bI k<(lv:Int))(t:List Tok):qw lv (uz k::t):=λl d c=>by rw [Nu a b c,if_neg (by omega)]
theorem ZT {k:Int}(a:6<=k)(b:k<=18):bI k=0∨bI k=1∨bI k=3∨bI k=4∨bI k=5:=by
 have:∀j,j<13->bI ((6+j:Nat):Int)=0∨bI ((6+j:Nat):Int)=1∨bI ((6+j:Nat):Int)=3∨bI ((6+j:Nat):Int)=4∨bI ((6+j:Nat):Int)=5:=by decide +kernel
 have:=this (k.toNat-6) (by omega)
 rwa [show ((6+(k.toNat-6):Nat):Int)=k from by omega] at this
theorem QC {k:Int}(a:6<=k)(b:k<=18)(t:List Tok):bC [40] (uz k::t)=false:=by
 have:∀j,j<13->decide (uz ((6+j:Nat):Int)=(zJ [40],[40]))=false:=by decide +kernel
 have:=this (k.toNat-6) (by omega)
 rwa [show ((6+(k.toNat-6):Nat):Int)=k from by omega] at this
end
noncomputable section
def Tt (e:Ex):Prop:=∀lv:Nat,lv<=7->(lv:Int)<=bI (bL e)->∀rest,qw lv rest->bC [40] rest=false->∀F,10*(ah e).length+9<=F+lv->pX F lv (ah e++rest)=some (e,rest)
def Ss (e:Ex):Prop:=∀lv:Nat,(lv=0∨lv=1∨lv=4∨lv=5)->(lv:Int)<=bI (bL e)->∀rest,qw (lv+1) rest->bC [40] rest=false->∀G r,bK G lv e rest=some r->
 aj (G+10*(ah e).length+8-lv) lv (ah e++rest)=some r
theorem Db (k:Int):0<=bI k∧bI k<=7:=by
 unfold bI;repeat' split
 all_goals omega
theorem H9 (s:By)(a:Tok)(t:List Tok):bC s (a::t)=decide (a=(zJ s,s)):=rfl
theorem QD {x:Ex}(h:Tt x){lv:Nat}(j:lv<=7)(b:List Tok)(d:qw lv b){F:Nat}(i:10*(ah x).length+17<=F+lv):pX F lv ((3,[40])::(ah x ++ [(3,[41])])++b)=some (x,b):=by
 have e:(3,[40])::(ah x ++ [(3,[41])])++b=(3,[40])::(ah x++(3,[41])::b):=by simp
 rw [e];have g:pX (10*(ah x).length+10) 7 ((3,[40])::(ah x++(3,[41])::b))=some (x,b):=by rw [show pX (10*(ah x).length+10) 7 ((3,[40])::(ah x++(3,[41])::b))=iw (10*(ah x).length+9+1) ((3,[40])::(ah x++(3,[41])::b)) from if_pos rfl,iw];have c:=h 0 (by omega) (by have:=(Db (bL x)).1;omega) ((3,[41])::b) (Ih b) (by rw [H9];decide) (10*(ah x).length+9) (by omega);rw [nu (by omega)] at c;rw [if_neg (by simp [HY]),if_pos (by rw [H9];decide),ac2,abG,c];show (if bC [41] ((3,[41])::b)=true then _ else _)=_;rw [if_pos (by rw [H9];decide)];rfl
 have:=Nt (7-lv) (f:=10*(ah x).length+10) (lv:=lv) (a:=7) (by omega) (aP _) (λ_ _=>by rw [H9];decide) (λ_ _=>by rw [H9];decide) g d;exact aej this (by omega)
theorem QE {x:Ex}(f:Tt x){least:Int}{lv:Nat}(d:lv<=7)(g:(lv:Int)<=least)(a:List Tok)(e:qw lv a)(hp:bC [40] a=false){F:Nat}(b:10*(V3 least (bL x,ah x)).length+9<=F+lv):
  pX F lv (V3 least (bL x,ah x)++a)=some (x,a):=by
 unfold V3 at b ⊢;by_cases c:bI (bL x)<least;rw [if_pos c] at b ⊢;simp only [J6,J9,aay] at b;exact QD f d a e (by omega);rw [if_neg c] at b ⊢;exact f lv d (by show (lv:Int)<=bI (bL x);have c:¬ bI (bL x)<least:=c;omega) a e hp F b
theorem ake {x:Ex}(f:Tt x)(hs:Ss x){lv:Nat}(e:lv=0∨lv=1∨lv=4∨lv=5)(a:List Tok)(d:qw (lv+1) a)(hp:bC [40] a=false){G:Nat}{r:Ex×List Tok}(b:bK G lv x a=some r):
  aj (G+10*(V3 (lv:Int) (bL x,ah x)).length+8-lv) lv (V3 (lv:Int) (bL x,ah x)++a)=some r:=by
 unfold V3;by_cases c:bI (bL x)<(lv:Int);rw [if_pos c];simp only [J6,J9,aay];have h:=QD f (lv:=lv+1) (by omega) a d (F:=G+10*((ah x).length+(0+1)+1)+7-lv) (by omega);rw [nu (by omega)] at h;rw [show G+10*((ah x).length+(0+1)+1)+8-lv=(G+10*((ah x).length+(0+1)+1)+7-lv)+1 from by omega,aj,if_neg (by omega),if_neg (by omega),h];exact Ig b (by omega);rw [if_neg c];exact hs lv e (by show (lv:Int)<=bI (bL x);have c:¬ bI (bL x)<(lv:Int):=c;omega) a d hp G r b
theorem aek {k n:Int}{s:By}{x y:Ex}(c:6<=k)(d:k<=18)(j:Tt x)(hs:Ss x)(l:Tt y){lv:Nat}(h:lv=0∨lv=1∨lv=4∨lv=5)(g:bI k=(lv:Int))(a:List Tok)(i:qw (lv+1) a)(hp:bC [40] a=false)
  {G:Nat} {r:Ex×List Tok} (e:bK G lv (.mk k 0 [] [x,y]) a=some r):
  aj (G+10*(V3 (lv:Int) (bL x,ah x)++(uz k::V3 ((lv:Int)+1) (bL y,ah y))).length+8-lv) lv (V3 (lv:Int) (bL x,ah x)++(uz k::V3 ((lv:Int)+1) (bL y,ah y))++a)=some r:=by
 have b:=QE l (least:=(lv:Int)+1) (lv:=lv+1) (by omega) (by omega) a i hp (F:=G+10*(V3 ((lv:Int)+1) (bL y,ah y)).length+9) (by omega);rw [nu (by omega)] at b;have f:bK (G+10*(V3 ((lv:Int)+1) (bL y,ah y)).length+9+1) lv x (uz k::(V3 ((lv:Int)+1) (bL y,ah y)++a))=some r:=by
  rw [bK,Nu c d (by omega),if_pos g.symm];show (match aj _ (lv+1) (V3 ((lv:Int)+1) (bL y,ah y)++a) with | none=>none | some (y,r)=>_)=_
  rw [b];show (if lv=3 then _ else bK _ lv (.mk k 0 [] [x,y]) a)=_;rw [if_neg (by omega)];exact Ig e (by omega)
 have:=ake j hs h (uz k::(V3 ((lv:Int)+1) (bL y,ah y)++a)) (Uw c d (by omega) _) (QC c d _) f;rw [aao,aat];rw [J9,J6];rw [show G+10*((V3 (lv:Int) (bL x,ah x)).length+((V3 ((lv:Int)+1) (bL y,ah y)).length+1))+8-lv=G+10*(V3 ((lv:Int)+1) (bL y,ah y)).length+9+1+10*(V3 (lv:Int) (bL x,ah x)).length+8-lv from by omega];exact this
theorem akf {k:Int}{x y:Ex}(d:6<=k)(e:k<=18)(j:Tt x)(l:Tt y)(h:bI k=3)(a:List Tok)(i:qw 3 a)(hp:bC [40] a=false){F:Nat}
  (f:10*(V3 4 (bL x,ah x)++(uz k::V3 4 (bL y,ah y))).length+6<=F):aj F 3 (V3 4 (bL x,ah x)++(uz k::V3 4 (bL y,ah y))++a)=some (.mk k 0 [] [x,y],a):=by
 rw [J9,J6] at f;obtain⟨g,rfl⟩:∃g,F=g+2:=⟨F-2,by omega⟩;have c:=QE l (least:=4) (lv:=4) (by omega) (by omega) a (i.up (by omega)) hp (F:=g) (by omega);have b:=QE j (least:=4) (lv:=4) (by omega) (by omega) (uz k::(V3 4 (bL y,ah y)++a)) (Uw d e (by omega) _) (QC d e _) (F:=g+1) (by omega);rw [nu (by omega)] at c b;rw [aao,aat,aj,if_neg (by omega),if_neg (by omega),b];show bK (g+1) 3 x (uz k::(V3 4 (bL y,ah y)++a))=_;rw [bK,Nu d e (by omega),if_pos (show ((3:Nat):Int)=bI k from h.symm)];show (match aj g 4 (V3 4 (bL y,ah y)++a) with | none=>none | some (y,r)=>_)=_
 rw [c];rfl
end
noncomputable section
theorem Bz {k n:Int}{s:By}{a:List Ex}(h:je (.mk k n s a)=true)(f:6<=k)(g:k<=18):n=0∧s=[]∧∃x y,a=[x,y]∧je x=true∧je y=true:=by
 simp only [je,l9,decide_eq_true_eq,aa2] at h;obtain⟨⟨⟨⟨l,b⟩,d⟩,e⟩,c⟩:=h;have j:cB k=2:=by unfold cB;rw [if_neg (by omega),if_neg (by omega),if_neg (by omega),if_pos ⟨f,g⟩]
 rw [if_neg (by omega)] at d e;rw [j] at b;have i:a.length=2:=by rcases b with b | b<;>omega
 match a,i with
 | [x,y],_=>simp only [X0,l9] at c;exact⟨by simpa using d,by simpa using e,x,y,rfl,c.1,c.2.1⟩
theorem Fb {k n:Int}{s:By}{a:List Ex}(h:je (.mk k n s a)=true)(f:k=4∨k=5):n=0∧s=[]∧∃x,a=[x]∧je x=true:=by
 simp only [je,l9,decide_eq_true_eq,aa2] at h;obtain⟨⟨⟨⟨j,b⟩,c⟩,d⟩,e⟩:=h;have i:cB k=1:=by unfold cB;rw [if_neg (by omega),if_neg (by omega),if_pos f]
 rw [if_neg (by omega)] at c d;rw [i] at b;have g:a.length=1:=by rcases b with b | b<;>omega
 match a,g with
 | [x],_=>simp only [X0,l9] at e;exact⟨by simpa using c,by simpa using d,x,rfl,e.1⟩
theorem xg {k n:Int}{s:By}{a:List Ex}(h:je (.mk k n s a)=true):k=1∨k=2∨k=3∨k=4∨k=5∨(6<=k∧k<=18):=by simp only [je,l9,decide_eq_true_eq,aa2] at h;obtain⟨⟨⟨⟨b,d⟩,e⟩,f⟩,g⟩:=h;unfold cB at b;by_cases c:k=1∨k=2∨k=3∨k=4∨k=5∨(6<=k∧k<=18);exact c;rw [if_neg (by omega),if_neg (by omega),if_neg (by omega),if_neg (by omega)] at b;exact absurd rfl b
theorem qb {k n:Int}{s:By}{a:List Ex}(h:je (.mk k n s a)=true)(f:k=1∨k=2):a=[]∧(k=1->0<=n∧n<=9007199254740992∧s=[])∧(k=2->n=0∧uQ s=true):=by
 simp only [je,l9,decide_eq_true_eq,aa2] at h;obtain⟨⟨⟨⟨i,e⟩,b⟩,d⟩,j⟩:=h;have g:cB k=0:=by unfold cB;rw [if_neg (by omega),if_pos f]
 rw [g] at e;refine⟨?_,λc=>?_,λc=>?_⟩;rcases e with e | e;omega;exact Z8.1 (by omega);rw [if_pos c] at b;rw [if_neg (by omega)] at d;simp only [l9,decide_eq_true_eq] at b d;exact⟨b.1,b.2,d⟩;rw [if_neg (by omega)] at b;rw [if_pos (.inl c)] at d;exact⟨by simpa using b,d⟩
theorem sO {n:Int}{s:By}{a:List Ex}(h:je (.mk 3 n s a)=true):n=0∧uQ s=true∧X0 a=true:=by simp only [je,l9,decide_eq_true_eq,aa2] at h;obtain⟨⟨⟨⟨e,f⟩,b⟩,c⟩,d⟩:=h;exact⟨by simpa using b,by simpa using c,d⟩
theorem qN {s:By}(h:uQ s=true):HV s=false:=by simp only [uQ,l9] at h;simpa using h.2
theorem Dc (w:By)(hw:w=[41]∨w=[123]∨w=[110,111,116]):∀(e:Ex) (rest:List Tok),je e=true->(w=[110,111,116]->3<=bI (bL e))->bC w (ah e++rest)=false
 | .mk k n s a,rest,h,hl=>by
  have hn:∀t:List Tok,uQ s=true->bC w ((1,s)::t)=false:=λt hs=>by have:=qN hs;rw [H9];rcases hw with rfl | rfl | rfl;exact decide_eq_false (by intro q;cases q);exact decide_eq_false (by intro q;cases q);refine decide_eq_false λq=>?_;cases q;revert this;decide
  have hp:∀t:List Tok,bC w ((3,[40])::t)=false:=λt=>by rw [H9];rcases hw with rfl | rfl | rfl<;>decide
  have hm:∀t:List Tok,bC w ((3,[45])::t)=false:=λt=>by rw [H9];rcases hw with rfl | rfl | rfl<;>decide
  rw [ah];unfold wZ;rcases xg h with rfl | rfl | rfl | rfl | rfl | ⟨h1,h2⟩;show bC w ((2,Lib.itoa n)::rest)=false;rw [H9];rcases hw with rfl | rfl | rfl<;>exact decide_eq_false (by intro q;cases q)
  show bC w ((1,s)::rest)=false;exact hn _ ((qb h (.inr rfl)).2.2 rfl).2;exact hn _ (sO h).2.1;exact hm _;have:w≠[110,111,116]:=λq=>by have q5:(3:Int)<=bI 5:=hl q;revert q5;decide
  show bC w ((1,[110,111,116]) :: _)=false;rw [H9];rcases hw with rfl | rfl | rfl;decide;decide;exact absurd rfl this;obtain⟨rfl,rfl,x,y,rfl,hx,hy⟩:=Bz h h1 h2;rw [if_neg (by omega),if_neg (by omega),if_neg (by omega),if_neg (by omega),if_neg (by omega)];have hle:w=[110,111,116]->3<=(if bI k=3 then (4:Int) else bI k):=λq=>by have q3:(3:Int)<=bI k:=hl q;split<;>omega
  show bC w (V3 (if bI k=3 then 4 else bI k) (bL x,ah x) ++ _++rest)=false;generalize (if bI k=3 then (4:Int) else bI k)=least at hle ⊢;rw [aao];by_cases c:bI (bL x)<least;rw [show V3 least (bL x,ah x)=(3,[40])::(ah x ++ [(3,[41])]) from if_pos c];exact hp _;rw [show V3 least (bL x,ah x)=ah x from if_neg c];exact Dc w hw x _ hx λq=>by have:=hle q;omega
end
noncomputable section
theorem QF:∀u:Nat,nX (Lib.decDigits u)=u:=by
 intro u;induction u using Nat.strongRecOn with
 | _ u ih=>rw [Lib.decDigits];split;show 10*0+((UInt8.ofNat (48+u)).toNat-48)=u;rw [ahC];omega;rw [Wn,ih (u / 10) (by omega),ahC];omega
theorem WJ {n:Int}(h:0<=n):((nX (Lib.itoa n):Nat):Int)=n:=by rw [Lib.itoa,if_neg (by omega),QF];omega
def V7:List Ex->List Tok
 | []=>[]
 | e::l=>(3,[44])::(ah e++V7 l)
theorem xY:∀(l:List Ex) (e:Ex),ru ((tkL (e::l)).map (·.2))=ah e++V7 l
 | [],e=>by show ah e=_;rw [V7,abI]
 | y::l,e=>by have:=xY l y;show ah e++(3,[44])::ru ((tkL (y::l)).map (·.2))=_;rw [this,V7]
theorem KM {t:List Tok}(hn:qw 0 t)(hp:bC [40] t=false):∀l:List Ex,qw 0 (V7 l++t)∧bC [40] (V7 l++t)=false
 | []=>⟨hn,hp⟩
 | e::l=>⟨Tc _,by rw [V7,aat,H9];decide⟩
theorem KN {t:List Tok}(hn:qw 0 t)(hp:bC [40] t=false)(h44:bC [44] t=false):∀(l:List Ex),(∀x∈l,Tt x)->∀(acc:List Ex) (G:Nat),10*(V7 l).length+1<=G->fZ G acc (V7 l++t)=some (acc++l,t)
 | [],_,acc,G,hG=>by obtain⟨g,rfl⟩:∃g,G=g+1:=⟨G-1,by omega⟩;rw [V7,abX,fZ,if_neg (by rw [h44];decide),abI]
 | e::l,hl,acc,G,hG=>by obtain⟨g,rfl⟩:∃g,G=g+1:=⟨G-1,by omega⟩;rw [V7,J6,J9] at hG;obtain⟨m1,m2⟩:=KM hn hp l;have h1:=hl e (by simp) 0 (by omega) (Db _).1 (V7 l++t) m1 m2 g (by omega);rw [nu (by omega)] at h1;rw [V7,aat,fZ,if_pos (by rw [H9];decide),ac2,abG,aao,h1];show fZ g (acc ++ [e]) (V7 l++t)=_;rw [KN hn hp h44 l (λx hx=>hl x (by simp [hx])) (acc ++ [e]) g (by omega),aao];rfl
theorem KO {t:List Tok}(d:qw 0 t)(hp:bC [40] t=false)(a:bC [44] t=false)(e:Ex)(l:List Ex)(c:∀x∈e::l,Tt x){G:Nat}(j:10*((ah e).length+(V7 l).length)+10<=G):
  gF G (ah e++(V7 l++t))=some (e::l,t):=by
 obtain⟨g,rfl⟩:∃g,G=g+1:=⟨G-1,by omega⟩;obtain⟨h,i⟩:=KM d hp l;have b:=c e (by simp) 0 (by omega) (Db _).1 (V7 l++t) h i g (by omega);rw [nu (by omega)] at b;rw [gF,b];show fZ g [e] (V7 l++t)=_;rw [KN d hp a l (λx f=>c x (by simp [f])) [e] g (by omega)];rfl
theorem agm {k:Int}(h:bI k=0∨bI k=1∨bI k=4∨bI k=5):6<=k∧k<=18:=by
 unfold bI at h;repeat' split at h
 all_goals omega
theorem akg {k n:Int}{s:By}{a:List Ex}(h:je (.mk k n s a)=true)(f:∀x∈a,Tt x∧Ss x)(b:List Tok){lv:Nat}(o:bI k=(lv:Int))(g:qw lv b)(hp:bC [40] b=false):
  pX (10*(ah (.mk k n s a)).length+9-lv) lv (ah (.mk k n s a)++b)=some (.mk k n s a,b):=by
 have B:=Db k;rcases xg h with rfl | rfl | rfl | rfl | rfl | ⟨h1,h2⟩;obtain⟨rfl,q,_⟩:=qb h (.inl rfl);obtain⟨C,i,rfl⟩:=q rfl
 obtain rfl:lv=7:=by have:bI 1=7:=by decide
                     omega
 show iw (11+1) ((2,Lib.itoa n)::b)=_;rw [iw,if_pos (by simp [HY])];show some ((Ex.mk 1 ((nX (Lib.itoa n):Nat):Int) [] [],b))=_;rw [WJ C];obtain⟨rfl,_,q⟩:=qb h (.inr rfl);obtain⟨rfl,i⟩:=q rfl
 obtain rfl:lv=7:=by have:bI 2=7:=by decide
                     omega
 show iw (11+1) ((1,s)::b)=_;rw [iw,if_neg (by simp [HY]),if_neg (by rw [H9];exact λq=>by cases of_decide_eq_true q),if_pos (by simp [fV,qN i]),ac2,abG,if_neg (by rw [hp];decide)];rfl;obtain⟨rfl,i,v⟩:=sO h
 obtain rfl:lv=7:=by have:bI 3=7:=by decide
                     omega
 have e:ah (.mk 3 0 s a)=(1,s)::(3,[40])::(ru ((tkL a).map (·.2)) ++ [(3,[41])]):=rfl;rw [e];show iw _ _=_;cases a with
 | nil=>show iw (31+1) ((1,s)::(3,[40])::(3,[41])::b)=_;rw [iw,if_neg (by simp [HY]),if_neg (by rw [H9];exact λq=>by cases of_decide_eq_true q),if_pos (by simp [fV,qN i])];show (if bC [40] ((3,[40])::(3,[41])::b)=true then (if bC [41] ((3,[41])::b)=true then _ else _) else _)=_;rw [if_pos (by rw [H9];decide),if_pos (by rw [H9];decide)];rfl
 | cons x l=>
  rw [X0,l9] at v;rw [xY];simp only [J6,J9,aay];rw [show 10*((ah x).length+(V7 l).length+(0+1)+1+1)+9-7=(10*((ah x).length+(V7 l).length)+31)+1 from by omega];have m:=KO (t:=(3,[41])::b) (Ih b) (by rw [H9];decide) (by rw [H9];decide) x l (λy u=>(f y u).1) (G:=10*((ah x).length+(V7 l).length)+31) (by omega);have w:(1,s)::(3,[40])::(ah x++V7 l ++ [(3,[41])])++b=(1,s)::(3,[40])::(ah x++(V7 l++(3,[41])::b)):=by simp
  rw [w,iw,if_neg (by simp [HY]),if_neg (by rw [H9];exact λq=>by cases of_decide_eq_true q),if_pos (by simp [fV,qN i])];show (if bC [40] ((3,[40])::(ah x++(V7 l++(3,[41])::b)))=true then (if bC [41] (ah x++(V7 l++(3,[41])::b))=true then _ else (match gF (10*((ah x).length+(V7 l).length)+31) (ah x++(V7 l++(3,[41])::b)) with | none=>none | some (l,r)=>_)) else _)=_
  rw [if_pos (by rw [H9];decide),if_neg (by rw [Dc [41] (.inl rfl) x _ v.1 (λq=>by cases q)];decide),m];show (if bC [41] ((3,[41])::b)=true then _ else _)=_;rw [if_pos (by rw [H9];decide)];rfl
 obtain⟨rfl,rfl,x,rfl,p⟩:=Fb h (.inl rfl)
 obtain rfl:lv=6:=by have:bI 4=6:=by decide
                     omega
 have j:=(f x (by simp)).1;have d:=QE j (least:=6) (lv:=6) (by omega) (by omega) b g hp (F:=10*(V3 6 (bL x,ah x)).length+12) (by omega);rw [nu (by omega)] at d;have e:ah (.mk 4 0 [] [x])=(3,[45])::V3 6 (bL x,ah x):=rfl;rw [e,nu (by omega),J6,aat,show 10*((V3 6 (bL x,ah x)).length+1)+9-6=10*(V3 6 (bL x,ah x)).length+12+1 from by omega,aj,if_neg (by omega),if_pos rfl,if_pos (by rw [H9];decide),ac2,abG,d];obtain⟨rfl,rfl,x,rfl,p⟩:=Fb h (.inr rfl)
 obtain rfl:lv=2:=by have:bI 5=2:=by decide
                     omega
 have j:=(f x (by simp)).1;have d:=QE j (least:=2) (lv:=2) (by omega) (by omega) b g hp (F:=10*(V3 2 (bL x,ah x)).length+16) (by omega);rw [nu (by omega)] at d;have e:ah (.mk 5 0 [] [x])=(1,[110,111,116])::V3 2 (bL x,ah x):=rfl;rw [e,nu (by omega),J6,aat,show 10*((V3 2 (bL x,ah x)).length+1)+9-2=10*(V3 2 (bL x,ah x)).length+16+1 from by omega,aj,if_pos rfl,if_pos (by rw [H9];decide),ac2,abG,d];obtain⟨rfl,rfl,x,y,rfl,p,u⟩:=Bz h h1 h2;have e:ah (.mk k 0 [] [x,y])=V3 (if bI k=3 then 4 else bI k) (bL x,ah x)++(uz k::V3 (bI k+1) (bL y,ah y)):=by show wZ k 0 [] _=_;unfold wZ;rw [if_neg (by omega),if_neg (by omega),if_neg (by omega),if_neg (by omega),if_neg (by omega)];rfl
 obtain⟨X1,X2⟩:=f x (by simp);obtain⟨Y1,Y2⟩:=f y (by simp);rw [e];by_cases c:lv=3;subst c;rw [if_pos (show bI k=3 by omega),show bI k+1=4 by omega,nu (by omega)];exact akf h1 h2 X1 Y1 (by omega) b g hp (by omega);have A:lv=0∨lv=1∨lv=4∨lv=5:=by rcases ZT h1 h2 with q | q | q | q | q<;>omega
 rw [if_neg (by omega),o,nu (by omega)];have z:bK 1 lv (.mk k 0 [] [x,y]) b=some (.mk k 0 [] [x,y],b):=by rw [bK,g lv (aP _) (by omega)]
 have:=aek (n:=0) (s:=[]) h1 h2 X1 X2 Y1 A o b (g.up (by omega)) hp z;rw [show ∀q:Nat,10*q+9-lv=1+10*q+8-lv from λq=>by omega];exact this
theorem ZU {k n:Int}{s:By}{a:List Ex}(h:je (.mk k n s a)=true)(o:∀x∈a,Tt x∧Ss x):Tt (.mk k n s a)∧Ss (.mk k n s a):=by
 have z:=Db k;have T:Tt (.mk k n s a):=λlv u d b j p F C=>by
  have d:(lv:Int)<=bI k:=d;have w:=akg h o b (lv:=(bI k).toNat) (by omega) (j.up (by omega)) p;refine aej (Nt ((bI k).toNat-lv) (f:=10*(ah (.mk k n s a)).length+9-(bI k).toNat) (lv:=lv) (a:=(bI k).toNat) (by omega) (by omega) (λA B=>?_) (λA B=>?_) w j) (by omega);exact Dc _ (.inr (.inr rfl)) _ b h λ_=>by show 3<=bI k;omega
  have t:bI k=7:=by omega
  rcases xg h with rfl | rfl | rfl | rfl | rfl | ⟨i,l⟩;show bC [45] ((2,Lib.itoa n)::b)=false;rw [H9];exact decide_eq_false (by intro q;cases q);show bC [45] ((1,s)::b)=false;rw [H9];exact decide_eq_false (by intro q;cases q);show bC [45] ((1,s) :: _)=false;rw [H9];exact decide_eq_false (by intro q;cases q);exact absurd t (by decide);exact absurd t (by decide);rcases ZT i l with q | q | q | q | q<;>omega
 refine⟨T,λlv u d b j p G r m=>?_⟩;have d:(lv:Int)<=bI k:=d;have v:1<=G:=by
  cases G with
  | zero=>rw [bK] at m;cases m
  | succ g=>omega
 by_cases c:bI k=(lv:Int);obtain⟨i,l⟩:=agm (k:=k) (by omega);obtain⟨rfl,rfl,x,y,rfl,D,E⟩:=Bz h i l;have e:ah (.mk k 0 [] [x,y])=V3 (lv:Int) (bL x,ah x)++(uz k::V3 ((lv:Int)+1) (bL y,ah y)):=by show wZ k 0 [] _=_;unfold wZ;rw [if_neg (by omega),if_neg (by omega),if_neg (by omega),if_neg (by omega),if_neg (by omega),if_neg (by omega),c];rfl
 rw [e];exact aek (n:=0) (s:=[]) i l (o x (by simp)).1 (o x (by simp)).2 (o y (by simp)).1 u c b j p m;have i:=T (lv+1) (by omega) (by show ((lv+1:Nat):Int)<=bI k;omega) b j p (G+10*(ah (.mk k n s a)).length+7-lv) (by omega);rw [nu (by omega)] at i;rw [show G+10*(ah (.mk k n s a)).length+8-lv=(G+10*(ah (.mk k n s a)).length+7-lv)+1 from by omega,aj,if_neg (by omega),if_neg (by omega),i];exact Ig m (by omega)
mutual
theorem Nv:∀e:Ex,je e=true->Tt e∧Ss e
 | .mk k n s a,h=>ZU h (Ii a (by
   simp only [je,l9] at h;exact h.2))
theorem Ii:∀l:List Ex,X0 l=true->∀x∈l,Tt x∧Ss x
 | [],_,x,hx=>by cases hx
 | e::l,h,x,hx=>by rw [X0,l9] at h;rcases Y4.1 hx with hx | hx;rw [hx];exact Nv e h.1;exact Ii l h.2 x hx
end
end
noncomputable section
def Xg (l:List Ex):List Tok:=ru ((tkL l).map (·.2))
theorem BA (e:Ex)(l:List Ex):Xg (e::l)=ah e++V7 l:=xY l e
mutual
def IC:V4->List Tok
 | .mk k s e t f=>
  if k=1 then (1,[108,101,116])::(1,s)::(3,[61])::(Xg e ++ [(3,[59])])
  else if k=2 then (1,s)::(3,[61])::(Xg e ++ [(3,[59])])
  else if k=5 then (1,[112,114,105,110,116])::(Xg e ++ [(3,[59])])
  else if k=6 then Xg e ++ [(3,[59])]
  else if k=4 then (1,[119,104,105,108,101])::(Xg e++(3,[123])::(dL t ++ [(3,[125])]))
  else (1,[105,102])::(Xg e++(3,[123])::(dL t++((if 0<f.length then (3,[125])::(1,[101,108,115,101])::(3,[123])::dL f else []) ++ [(3,[125])])))
def dL:List V4->List Tok
 | []=>[]
 | s::l=>IC s++dL l
end
def SOk (s:V4):Prop:=∀rest,bC [101,108,115,101] rest=false->∀F,10*(IC s).length+10<=F->kY F (IC s++rest)=some (s,rest)
theorem Ij (t:List Tok):qw 0 ((3,[59])::t)∧bC [40] ((3,[59])::t)=false∧bC [44] ((3,[59])::t)=false:=⟨λl _ h=>xX [59] (by decide) l (by omega),by rw [H9];decide,by rw [H9];decide⟩
theorem Df (t:List Tok):qw 0 ((3,[123])::t)∧bC [40] ((3,[123])::t)=false:=⟨λl _ h=>xX [123] (by decide) l (by omega),by rw [H9];decide⟩
theorem BD {x:Ex}(h:je x=true)(a:List Tok)(b:qw 0 a)(hp:bC [40] a=false){F:Nat}(c:10*(ah x).length+9<=F):aj F 0 (ah x++a)=some (x,a):=by
 have:=(Nv x h).1 0 (by omega) (Db _).1 a b hp F (by omega)
 rwa [nu (by omega)] at this
structure FmS (k:Int)(s:By)(e:List Ex)(t f:List V4):Prop where
 k1:1<=k
 k6:k<=6
 nm:(if k=1∨k=2 then uQ s else decide (s=[]))=true
 e0:e.length≠0
 e1:e.length<=1∨k=5
 t0:t.length=0∨k=3∨k=4
 f0:f.length=0∨k=3
 c6:k≠6∨(e.map bL).head?=some 3
 fe:X0 e=true
 ft:ay t=true
 ff':ay f=true
theorem uD {k:Int}{s:By}{e:List Ex}{t f:List V4}(h:rF (.mk k s e t f)=true):FmS k s e t f:=by simp only [rF,l9,decide_eq_true_eq,aa2] at h;obtain⟨⟨⟨⟨⟨⟨⟨⟨⟨⟨a,b⟩,c⟩,d⟩,g⟩,i⟩,j⟩,l⟩,m⟩,n⟩,o⟩:=h;exact⟨a,b,c,d,g,i.elim (λq=>q.elim .inl λq=>.inr (.inl q)) λq=>.inr (.inr q),j,l,m,n,o⟩
theorem BF (w:By)(hw:w=[125]∨w=[101,108,115,101]):∀(s:V4) (rest:List Tok),rF s=true->bC w (IC s++rest)=false
 | .mk k s e t f,rest,h=>by
  have H:=uD h;have hn:∀(s:By) (t:List Tok),uQ s=true->bC w ((1,s)::t)=false:=λs t hs=>by have:=qN hs;rw [H9];rcases hw with rfl | rfl;exact decide_eq_false (by intro q;cases q);refine decide_eq_false λq=>?_;cases q;revert this;decide
  have hk:k=1∨k=2∨k=3∨k=4∨k=5∨k=6:=by have:=H.k1;have:=H.k6;omega
  rw [IC];rcases hk with rfl | rfl | rfl | rfl | rfl | rfl;show bC w ((1,[108,101,116]) :: _)=false;rw [H9];rcases hw with rfl | rfl<;>decide
  show bC w ((1,s) :: _)=false;exact hn _ _ (by simpa using H.nm);show bC w ((1,[105,102]) :: _)=false;rw [H9];rcases hw with rfl | rfl<;>decide
  show bC w ((1,[119,104,105,108,101]) :: _)=false;rw [H9];rcases hw with rfl | rfl<;>decide
  show bC w ((1,[112,114,105,110,116]) :: _)=false;rw [H9];rcases hw with rfl | rfl<;>decide
  have c6:=H.c6;have fe:=H.fe;match e,c6,fe with
  | [],c6,_=>simp at c6
  | .mk k' n' s' a'::l,c6,fe=>
   have hk':k'=3:=by simpa [bL] using c6
   subst hk';rw [X0,l9] at fe;show bC w (Xg (.mk 3 n' s' a'::l) ++ _++rest)=false;rw [BA];exact hn _ _ (sO fe.1).2.1
theorem Ux:∀s:V4,1<=(IC s).length
 | .mk k s e t f=>by
  rw [IC];repeat' split
  all_goals simp only [J6,J9,aay]
  all_goals omega
theorem QG {rest:List Tok}:∀(l:List V4),ay l=true->(∀s∈l,SOk s)->∀(acc:List V4) (F:Nat),10*(dL l).length+11<=F->qp F acc (dL l++(3,[125])::rest)=some (acc++l,rest)
 | [],_,_,acc,F,hF=>by obtain⟨g,rfl⟩:∃g,F=g+1:=⟨F-1,by omega⟩;rw [dL,abX,qp,if_pos (by rw [H9];decide),abI];rfl
 | s::l,h,hl,acc,F,hF=>by
  obtain⟨g,rfl⟩:∃g,F=g+1:=⟨F-1,by omega⟩;rw [ay,l9] at h;rw [dL,J9] at hF;have hpos:=Ux s;have hne:bC [101,108,115,101] (dL l++(3,[125])::rest)=false:=by
   cases l with
   | nil=>rw [dL,abX,H9];decide
   | cons s' l'=>have h2:=h.2;rw [ay,l9] at h2;rw [dL,aao];exact BF _ (.inr rfl) s' _ h2.1
  rw [dL,aao,qp,if_neg (by rw [BF [125] (.inl rfl) s _ h.1];decide),hl s (by simp) _ hne g (by omega)];show qp g (acc ++ [s]) (dL l++(3,[125])::rest)=_;rw [QG l h.2 (λx hx=>hl x (by simp [hx])) (acc ++ [s]) g (by omega),aao];rfl
theorem QH:∀(l:List V4),ay l=true->(∀s∈l,SOk s)->∀(acc:List V4) (F:Nat),10*(dL l).length+12<=F->sI F acc (dL l)=some (acc++l)
 | [],_,_,acc,F,hF=>by obtain⟨g,rfl⟩:∃g,F=g+1:=⟨F-1,by omega⟩;rw [dL,sI,if_pos rfl,abI]
 | s::l,h,hl,acc,F,hF=>by
  obtain⟨g,rfl⟩:∃g,F=g+1:=⟨F-1,by omega⟩;rw [ay,l9] at h;rw [dL,J9] at hF;have hpos:=Ux s;have hne:bC [101,108,115,101] (dL l)=false:=by
   cases l with
   | nil=>rw [dL];rfl
   | cons s' l'=>have h2:=h.2;rw [ay,l9] at h2;rw [dL];exact BF _ (.inr rfl) s' _ h2.1
  have hs:=hl s (by simp) _ hne g (by omega);rw [dL,sI,if_neg (λq=>by rw [q] at hs;cases g with
   | zero=>rw [kY] at hs;cases hs
   | succ g=>
    have:=congrArg List.length q;have h0:=BF [125] (.inl rfl) s (dL l) h.1;rw [J9,aay] at this;have e0:IC s=[]:=Z8.1 (by omega);have e1:dL l=[]:=Z8.1 (by omega);rw [kY] at hs;simp [bC,wW,pR,zK,fV] at hs),hs]
  show sI g (acc ++ [s]) (dL l)=_;rw [QH l h.2 (λx hx=>hl x (by simp [hx])) (acc ++ [s]) g (by omega),aao];rfl
end
noncomputable section
theorem Ik {k:Int}{s:By}{e:List Ex}{t f:List V4}(H:FmS k s e t f)(d:k≠5):∃x,e=[x]∧je x=true∧Xg e=ah x:=by
 have b:=H.e0;have c:=H.e1;have a:=H.fe
 match e,b,c,a with
 | [x],_,_,a=>rw [X0,l9] at a;exact⟨x,rfl,a.1,by rw [BA,V7,abI]⟩
 | [],b,_,_=>simp at b
 | x::y::l,_,c,_=>simp at c;omega
theorem QI {s:By}(hs:uQ s=true){x:Ex}(c:je x=true)(k:Int)(a:List Tok){F:Nat}(b:10*(ah x).length+9<=F):zK F k ((1,s)::(3,[61])::(ah x++(3,[59])::a))=some (.mk k s [x] [] [],(3,[59])::a):=by obtain⟨d,e,_⟩:=Ij a;rw [zK,if_pos (by simp [fV,qN hs])];show (if bC [61] ((3,[61])::(ah x++(3,[59])::a))=true then (match aj F 0 (ah x++(3,[59])::a) with | none=>none | some (x,r)=>some (V4.mk k s [x] [] [],r)) else none)=_;rw [if_pos (by rw [H9];decide),BD c _ d e b]
theorem BG {l:List V4}(h:ay l=true)(b:∀s∈l,SOk s)(a:List Tok){F:Nat}(c:10*(dL l).length+12<=F):pU F ((3,[123])::(dL l++(3,[125])::a))=some (l,a):=by obtain⟨g,rfl⟩:∃g,F=g+1:=⟨F-1,by omega⟩;rw [pU,if_pos (by rw [H9];decide),ac2,abG,QG l h b [] g (by omega)];rfl
theorem QJ {s:By}(hs:uQ s=true)(w:By)(a:HV w=true∨zJ w=3)(t:List Tok):bC w ((1,s)::t)=false:=by have:=qN hs;rw [H9];refine decide_eq_false λq=>?_;rcases a with a | a;have b:s=w:=(Prod.mk.inj q).2;rw [b,a] at this;cases this;have c:1=zJ w:=(Prod.mk.inj q).1;omega
theorem akh {k:Int}{s:By}{e:List Ex}{t f:List V4}(h:rF (.mk k s e t f)=true)(J:∀x∈t,SOk x)(M:∀x∈f,SOk x):SOk (.mk k s e t f):=by
 have H:=uD h;intro d O F i;obtain⟨g,rfl⟩:∃g,F=g+1:=⟨F-1,by omega⟩;have N:k=1∨k=2∨k=3∨k=4∨k=5∨k=6:=by have:=H.k1;have:=H.k6;omega
 have r:k≠1->k≠2->s=[]:=λa b=>by have:=H.nm;rw [if_neg (by omega)] at this;simpa using this
 have u:k≠3->k≠4->t=[]:=λa b=>Z8.1 (by rcases H.t0 with q | q | q<;>omega)
 have m:k≠3->f=[]:=λa=>Z8.1 (by rcases H.f0 with q | q<;>omega)
 rcases N with rfl | rfl | rfl | rfl | rfl | rfl;obtain⟨x,rfl,n,p⟩:=Ik H (by decide);obtain rfl:=u (by decide) (by decide);obtain rfl:=m (by decide);have o:uQ s=true:=by simpa using H.nm
 have e:IC (.mk 1 s [x] [] [])=(1,[108,101,116])::(1,s)::(3,[61])::(ah x ++ [(3,[59])]):=by rw [IC,if_pos rfl,p]
 rw [e] at i ⊢;simp only [J6,J9,aay] at i;have j:(1,[108,101,116])::(1,s)::(3,[61])::(ah x ++ [(3,[59])])++d=(1,[108,101,116])::(1,s)::(3,[61])::(ah x++(3,[59])::d):=by simp
 rw [j,kY,if_neg (by rw [H9];decide),if_neg (by rw [H9];decide),wW,if_neg (by rw [H9];decide),if_pos (by rw [H9];decide),ac2,abG,QI o n 1 d (by omega)];show (if bC [59] ((3,[59])::d)=true then _ else _)=_;rw [if_pos (by rw [H9];decide)];rfl;obtain⟨x,rfl,n,p⟩:=Ik H (by decide);obtain rfl:=u (by decide) (by decide);obtain rfl:=m (by decide);have o:uQ s=true:=by simpa using H.nm
 have e:IC (.mk 2 s [x] [] [])=(1,s)::(3,[61])::(ah x ++ [(3,[59])]):=by rw [IC,if_neg (by decide),if_pos rfl,p]
 rw [e] at i ⊢;simp only [J6,J9,aay] at i;have j:(1,s)::(3,[61])::(ah x ++ [(3,[59])])++d=(1,s)::(3,[61])::(ah x++(3,[59])::d):=by simp
 have G:pR ((1,s)::(3,[61])::(ah x++(3,[59])::d))=false:=by show (bC [40] ((3,[61])::(ah x++(3,[59])::d)) && _)=false;rw [H9];rfl
 rw [j,kY,if_neg (by rw [QJ o _ (.inl (by decide))];decide),if_neg (by rw [QJ o _ (.inl (by decide))];decide),wW,if_neg (by rw [QJ o _ (.inl (by decide))];decide),if_neg (by rw [QJ o _ (.inl (by decide))];decide),if_neg (by rw [G];decide),QI o n 2 d (by omega)];show (if bC [59] ((3,[59])::d)=true then _ else _)=_;rw [if_pos (by rw [H9];decide)];rfl;obtain⟨x,rfl,n,p⟩:=Ik H (by decide);obtain rfl:=r (by decide) (by decide);have e:IC (.mk 3 [] [x] t f)=(1,[105,102])::(ah x++(3,[123])::(dL t++((if 0<f.length then (3,[125])::(1,[101,108,115,101])::(3,[123])::dL f else []) ++ [(3,[125])]))):=by rw [IC,if_neg (by decide),if_neg (by decide),if_neg (by decide),if_neg (by decide),if_neg (by decide),p]
 rw [e] at i ⊢;by_cases c:0<f.length;rw [if_pos c] at i ⊢;simp only [J6,J9,aay] at i;have j:(1,[105,102])::(ah x++(3,[123])::(dL t++((3,[125])::(1,[101,108,115,101])::(3,[123])::dL f ++ [(3,[125])])))++d=(1,[105,102])::(ah x++(3,[123])::(dL t++(3,[125])::(1,[101,108,115,101])::(3,[123])::(dL f++(3,[125])::d))):=by simp
 obtain⟨v,z⟩:=Df (dL t++(3,[125])::(1,[101,108,115,101])::(3,[123])::(dL f++(3,[125])::d));rw [j,kY,if_pos (by rw [H9];decide),ac2,abG,BD n _ v z (by omega)];dsimp only;rw [BG H.ft J _ (by omega)];dsimp only;rw [if_pos (by rw [H9];decide),ac2,abG,BG H.ff' M _ (by omega)];rw [if_neg c] at i ⊢;obtain rfl:f=[]:=Z8.1 (by omega);simp only [J6,J9,aay] at i;have j:(1,[105,102])::(ah x++(3,[123])::(dL t++([] ++ [(3,[125])])))++d=(1,[105,102])::(ah x++(3,[123])::(dL t++(3,[125])::d)):=by simp
 obtain⟨v,z⟩:=Df (dL t++(3,[125])::d);rw [j,kY,if_pos (by rw [H9];decide),ac2,abG,BD n _ v z (by omega)];dsimp only;rw [BG H.ft J _ (by omega)];dsimp only;rw [if_neg (by rw [O];decide)];obtain⟨x,rfl,n,p⟩:=Ik H (by decide);obtain rfl:=r (by decide) (by decide);obtain rfl:=m (by decide);have e:IC (.mk 4 [] [x] t [])=(1,[119,104,105,108,101])::(ah x++(3,[123])::(dL t ++ [(3,[125])])):=by rw [IC,if_neg (by decide),if_neg (by decide),if_neg (by decide),if_neg (by decide),if_pos rfl,p]
 rw [e] at i ⊢;simp only [J6,J9,aay] at i;have j:(1,[119,104,105,108,101])::(ah x++(3,[123])::(dL t ++ [(3,[125])]))++d=(1,[119,104,105,108,101])::(ah x++(3,[123])::(dL t++(3,[125])::d)):=by simp
 obtain⟨v,z⟩:=Df (dL t++(3,[125])::d);rw [j,kY,if_neg (by rw [H9];decide),if_pos (by rw [H9];decide),ac2,abG,BD n _ v z (by omega)];dsimp only;rw [BG H.ft J _ (by omega)];obtain rfl:=r (by decide) (by decide);obtain rfl:=u (by decide) (by decide);obtain rfl:=m (by decide);have E:=H.e0;have D:=H.fe
 match e,E,D with
 | [],E,_=>simp at E
 | x::l,_,D=>
  have e:IC (.mk 5 [] (x::l) [] [])=(1,[112,114,105,110,116])::((ah x++V7 l) ++ [(3,[59])]):=by rw [IC,if_neg (by decide),if_neg (by decide),if_pos rfl,BA]
  rw [e] at i ⊢;simp only [J6,J9,aay] at i;have j:(1,[112,114,105,110,116])::((ah x++V7 l) ++ [(3,[59])])++d=(1,[112,114,105,110,116])::(ah x++(V7 l++(3,[59])::d)):=by simp
  obtain⟨v,z,S⟩:=Ij d;rw [j,kY,if_neg (by rw [H9];decide),if_neg (by rw [H9];decide),wW,if_pos (by rw [H9];decide),ac2,abG,KO v z S x l (λy Q=>(Ii _ D y Q).1) (by omega)];dsimp only;rw [if_pos (by rw [H9];decide)];rfl
 obtain⟨x,rfl,n,p⟩:=Ik H (by decide);obtain rfl:=r (by decide) (by decide);obtain rfl:=u (by decide) (by decide);obtain rfl:=m (by decide);obtain⟨R,T,A,B⟩:=x;have I:R=3:=by have:=H.c6;simpa [bL] using this
 subst I;obtain⟨rfl,o,_⟩:=sO n;have e:IC (.mk 6 [] [.mk 3 0 A B] [] [])=ah (.mk 3 0 A B) ++ [(3,[59])]:=by rw [IC,if_neg (by decide),if_neg (by decide),if_neg (by decide),if_pos rfl,p]
 rw [e] at i ⊢;simp only [J6,J9,aay] at i;obtain⟨v,z,_⟩:=Ij d;have L:=(Nv _ n).1 7 (by omega) (by show ((7:Nat):Int)<=bI 3;decide) ((3,[59])::d) (v.up (by omega)) z g (by omega);rw [show pX g 7 (ah (.mk 3 0 A B)++(3,[59])::d)=iw g (ah (.mk 3 0 A B)++(3,[59])::d) from if_pos rfl] at L;rw [aao,List.singleton_append];have K:ah (.mk 3 0 A B)++(3,[59])::d=(1,A)::(3,[40])::(ru ((tkL B).map (·.2)) ++ [(3,[41])]++(3,[59])::d):=rfl;have G:pR (ah (.mk 3 0 A B)++(3,[59])::d)=true:=by rw [K];show (bC [40] ((3,[40]) :: _)&&fV ((1,A) :: _))=true;rw [H9];simp [fV,qN o];decide
 have C:∀w,HV w=true->bC w (ah (.mk 3 0 A B)++(3,[59])::d)=false:=λw P=>by rw [K];exact QJ o w (.inl P) _
 rw [kY,if_neg (by rw [C _ (by decide)];decide),if_neg (by rw [C _ (by decide)];decide),wW,if_neg (by rw [C _ (by decide)];decide),if_neg (by rw [C _ (by decide)];decide),if_pos G,L];dsimp only;rw [if_pos (by rw [H9];decide)];rfl
mutual
theorem aki:∀s:V4,rF s=true->SOk s
 | .mk k s e t f,h=>akh h (Nw t (uD h).ft) (Nw f (uD h).ff')
theorem Nw:∀l:List V4,ay l=true->∀s∈l,SOk s
 | [],_,x,hx=>by cases hx
 | s::l,h,x,hx=>by rw [ay,l9] at h;rcases Y4.1 hx with hx | hx;rw [hx];exact aki s h.1;exact Nw l h.2 x hx
end
theorem Ed {l:List V4}(h:ay l=true):sI (10*(dL l).length+13) [] (dL l)=some l:=QH l h (Nw l h) [] _ (by omega)
end
def Lx (s:By)(ts:List Tok):Prop:=∀i n,s.length<=n->pO n i s=.inr ts
theorem Lx.nil:Lx [] []:=λi n _=>by cases n<;>rfl
theorem Lx.blank {s:By}{ts:List Tok}(h:Lx s ts)(b:UInt8)(hb:b=32∨b=10):Lx (b::s) ts:=λi n a=>by obtain⟨m,rfl⟩:∃m,n=m+1:=⟨n-1,by rw [J6] at a;omega⟩;rw [pO,if_pos hb];exact h _ _ (by rw [J6] at a;omega)
theorem Lx.blanks {s:By}{ts:List Tok}(h:Lx s ts):∀n,Lx (List.replicate n 32++s) ts
 | 0=>h
 | n+1=>by rw [List.replicate_succ,aat];exact (Lx.blanks h n).blank 32 (.inl rfl)
theorem Lx.tok {s:By}{ts:List Tok}(h:Lx s ts){w:By}{k:Nat}{b:UInt8}{t:By}(g:w=b::t)(hb:¬ (b=32∨b=10))(f:b≠35)(c:kX (w++s)=some (k,w.length)):Lx (w++s) ((k,w)::ts):=λi n a=>by
 subst g;obtain⟨m,rfl⟩:∃m,n=m+1:=⟨n-1,by rw [aat,J6] at a;omega⟩;rw [aat] at c a ⊢;rw [pO,if_neg hb,if_neg f,c];have d:(b::(t++s)).drop (b::t).length=s:=by rw [← aat];simp
 have e:(b::(t++s)).take (b::t).length=b::t:=by rw [← aat];simp
 dsimp only;rw [d,e,h _ m (by rw [J6,J9] at a;omega)]
theorem Il {p:UInt8->Bool}{s:By}(hs:∀b t,s=b::t->p b=false):∀w:By,w.all p=true->Q7 p (w++s)=w.length
 | [],_=>by
  cases s with
  | nil=>rfl
  | cons b t=>rw [abX,Q7,if_neg (by simp [hs b t rfl])];rfl
 | c::w,h=>by rw [afv,l9] at h;rw [aat,Q7,if_pos h.1,Il hs w h.2,J6]
theorem Uy {w s:By}{b:UInt8}{t:By}(e:w=b::t)(hb:jq b=true)(c:w.all uN=true)(d:w.length<=16)(hs:∀b t,s=b::t->uN b=false):kX (w++s)=some (1,w.length):=by have a:=Il hs w c;subst e;rw [aat] at a ⊢;rw [kX,if_pos hb,a,if_pos d]
theorem agn {w s:By}{b:UInt8}{t:By}(f:w=b::t)(hb:bD b=true)(d:w.all bD=true)(h0:b=48->w.length=1)(g:nX w<=9007199254740992)(hs:∀b t,s=b::t->bD b=false):kX (w++s)=some (2,w.length):=by
 have a:=Il hs w d;have e:jq b=false:=by simp only [bD,jq,l9,decide_eq_true_eq] at hb ⊢;rw [afo];left;exact decide_eq_false (by omega)
 have c:(w++s).take w.length=w:=by simp
 subst f;rw [aat] at a c ⊢;rw [kX,if_neg (by simp [e]),if_pos hb,a,c,if_neg];rintro (⟨q1,q2⟩ | q);have:=h0 q1;omega;omega
theorem Ny:∀b∈ones,jq b=false∧bD b=false∧¬ (b=32∨b=10)∧b≠35:=by decide
theorem agp {b:UInt8}{s:By}(hb:b∈ones)(hs:∀t,s≠61::t):kX (b::s)=some (3,1):=by
 obtain⟨a,d,_,_⟩:=Ny b hb;have e:uO ((b::s).take 2)=false:=by
  cases s with
  | nil=>simp [uO]
  | cons c t=>have f:c≠61:=λq=>hs t (by rw [q]);simp [uO,f]
 rw [kX,if_neg (by simp [a]),if_neg (by simp [d]),if_neg (by rw [e];decide),if_pos (by simpa using hb)]
theorem Lx.one {s:By}{ts:List Tok}(h:Lx s ts){b:UInt8}(hb:b∈ones)(hs:∀t,s≠61::t):Lx (b::s) ((3,[b])::ts):=
 h.tok (w:=[b]) (k:=3) rfl (Ny b hb).2.2.1 (Ny b hb).2.2.2 (agp hb hs)
def MF:List By:=[[60,61],[62,61],[61,61],[33,61]]
theorem agq {w s:By}(a:w∈MF):kX (w++s)=some (3,2):=by simp only [MF,Y4,ae1,or_false] at a;rcases a with rfl | rfl | rfl | rfl<;>simp [kX,jq,bD,uO]
theorem Lx.two {s:By}{ts:List Tok}(h:Lx s ts){w:By}(a:w∈MF):Lx (w++s) ((3,w)::ts):=by have b:=agq (s:=s) a;simp only [MF,Y4,ae1,or_false] at a;rcases a with rfl | rfl | rfl | rfl<;>exact h.tok rfl (by decide) (by decide) b
def Sep (s:By):Prop:=∀b t,s=b::t->uN b=false∧b≠61
theorem Sep.one {s:By}(h:Sep s)(t:By):s≠61::t:=λq=>(h _ _ q).2 rfl
theorem jM {b:UInt8}{t:By}(a:uN b=false)(d:b≠61):Sep (b::t):=λc e q=>by cases q;exact⟨a,d⟩
theorem Nz:∀b:UInt8,jq b=true->¬ (b=32∨b=10)∧b≠35:=λb h=>by
 simp only [jq,l9,decide_eq_true_eq] at h;refine⟨?_,?_⟩;rintro (rfl | rfl)<;>revert h<;>decide
 rintro rfl;revert h;decide
theorem ZV:∀b:UInt8,bD b=true->¬ (b=32∨b=10)∧b≠35:=λb h=>by
 simp only [bD,l9,decide_eq_true_eq] at h;refine⟨?_,?_⟩;rintro (rfl | rfl)<;>revert h<;>decide
 rintro rfl;revert h;decide
theorem Lx.name {s:By}{ts:List Tok}(h:Lx s ts){w:By}(f:uQ w=true)(hs:Sep s):Lx (w++s) ((1,w)::ts):=by
 simp only [uQ,l9,decide_eq_true_eq] at f;obtain⟨⟨⟨⟨g,d⟩,a⟩,e⟩,_⟩:=f;match w,g,d,a,e with
 | b::t,_,d,a,e=>have a:jq b=true:=a;exact h.tok rfl (Nz b a).1 (Nz b a).2 (Uy rfl a e d λc i q=>(hs c i q).1)
theorem Lx.word {s:By}{ts:List Tok}(h:Lx s ts){w:By}(f:∃b t,w=b::t∧jq b=true)(d:w.all uN=true)(e:w.length<=16)(hs:Sep s):Lx (w++s) ((1,w)::ts):=by obtain⟨b,t,rfl,a⟩:=f;exact h.tok rfl (Nz b a).1 (Nz b a).2 (Uy rfl a d e λc g q=>(hs c g q).1)
theorem Uz:∀u:Nat,(Lib.decDigits u).all bD=true∧(∃b t,Lib.decDigits u=b::t∧bD b=true∧(b=48->(Lib.decDigits u).length=1∧u=0)):=by
 intro u;induction u using Nat.strongRecOn with
 | _ u ih=>
  have a:∀v:Nat,v<10->bD (UInt8.ofNat (48+v))=true:=λv i=>by simp only [bD,l9,decide_eq_true_eq,ahC];omega
  rw [Lib.decDigits];split;rename_i h;refine⟨by rw [afv,a u h];rfl,_,[],rfl,a u h,λq=>⟨rfl,?_⟩⟩;have:=congrArg UInt8.toNat q;rw [ahC] at this;have e:(48:UInt8).toNat=48:=rfl;rw [e] at this;omega;rename_i h;obtain⟨c,b,t,d,f,g⟩:=ih (u / 10) (by omega);refine⟨by rw [List.all_append,c,afv,a (u%10) (by omega)];rfl,b,t ++ [UInt8.ofNat (48+u%10)],by rw [d];rfl,f,λq=>?_⟩;have:=(g q).2;omega
theorem Lx.num {s:By}{ts:List Tok}(h:Lx s ts){n:Int}(h0:0<=n)(j:n<=9007199254740992)(hs:Sep s):Lx (Lib.itoa n++s) ((2,Lib.itoa n)::ts):=by
 have e:Lib.itoa n=Lib.decDigits n.toNat:=by rw [Lib.itoa,if_neg (by omega)]
 rw [e];obtain⟨f,b,t,d,a,g⟩:=Uz n.toNat;exact h.tok d (ZV b a).1 (ZV b a).2 (agn d a f (λq=>(g q).1) (by rw [QF];omega) λc i q=>by
  have:=(hs c i q).1;simp only [uN,afs] at this;exact this.2)
def LxE (e:Ex):Prop:=∀s ts,Sep s->Lx s ts->Lx (fF e++s) (ah e++ts)
theorem xk:∀(e:Ex) (s:By),je e=true->∀t,fF e++s≠61::t
 | .mk k n s a,r,h,t=>by
  have hn:∀l:By,uQ s=true->s++l≠61::t:=λl hs q=>by
   simp only [uQ,l9,decide_eq_true_eq] at hs;match s,hs with
   | b::s',hs=>have h1:jq b=true:=hs.1.1.2;rw [aat] at q;cases q;revert h1;decide
  rw [fF];unfold sN;rcases xg h with rfl | rfl | rfl | rfl | rfl | ⟨h1,h2⟩;obtain⟨_,q,_⟩:=qb h (.inl rfl);obtain⟨q1,_,_⟩:=q rfl;show Lib.itoa n++r≠61::t;rw [Lib.itoa,if_neg (by omega)];obtain⟨_,b,t',e1,e2,_⟩:=Uz n.toNat;rw [e1];intro q;cases q;revert e2;decide;exact hn r ((qb h (.inr rfl)).2.2 rfl).2;show s++(40 :: _)++r≠61::t;rw [aao];exact hn _ (sO h).2.1;intro q;cases q;intro q;cases q;obtain⟨rfl,rfl,x,y,rfl,hx,hy⟩:=Bz h h1 h2;rw [if_neg (by omega),if_neg (by omega),if_neg (by omega),if_neg (by omega),if_neg (by omega)];show gu (if bI k=3 then 4 else bI k) (bL x,fF x) ++ _++r≠61::t;generalize (if bI k=3 then (4:Int) else bI k)=least;rw [aao];by_cases c:bI (bL x)<least;rw [show gu least (bL x,fF x)=40::(fF x ++ [41]) from if_pos c];intro q;cases q;rw [show gu least (bL x,fF x)=fF x from if_neg c];exact xk x _ hx t
theorem first_par {x:Ex}(a:je x=true)(least:Int)(s t:By):gu least (bL x,fF x)++s≠61::t:=by by_cases c:bI (bL x)<least;rw [show gu least (bL x,fF x)=40::(fF x ++ [41]) from if_pos c];intro q;cases q;rw [show gu least (bL x,fF x)=fF x from if_neg c];exact xk x _ a t
theorem NA {x:Ex}(f:je x=true)(h:LxE x)(least:Int){s:By}{ts:List Tok}(hs:Sep s)(a:Lx s ts):Lx (gu least (bL x,fF x)++s) (V3 least (bL x,ah x)++ts):=by
 by_cases c:bI (bL x)<least;rw [show gu least (bL x,fF x)=40::(fF x ++ [41]) from if_pos c,show V3 least (bL x,ah x)=(3,[40])::(ah x ++ [(3,[41])]) from if_pos c];have d:40::(fF x ++ [41])++s=40::(fF x++(41::s)):=by simp
 have e:(3,[40])::(ah x ++ [(3,[41])])++ts=(3,[40])::(ah x++((3,[41])::ts)):=by simp
 rw [d,e];exact (h _ _ (jM (by decide) (by decide)) (a.one (b:=41) (by decide) hs.one)).one (b:=40) (by decide) (xk x _ f);rw [show gu least (bL x,fF x)=fF x from if_neg c,show V3 least (bL x,ah x)=ah x from if_neg c];exact h s ts hs a
theorem agr {k:Int}(e:6<=k)(f:k<=18){s:By}{ts:List Tok}(h:Lx s ts):Lx (SQ k++(32::s)) (uz k::ts):=by
 have a:=h.blank 32 (.inl rfl);have b:k=6∨k=7∨k=8∨k=9∨k=10∨k=11∨k=12∨k=13∨k=14∨k=15∨k=16∨k=17∨k=18:=by omega
 have c:∀t,(32::s)≠61::t:=λt q=>by cases q
 have d:Sep (32::s):=jM (by decide) (by decide);rcases b with rfl | rfl | rfl | rfl | rfl | rfl | rfl | rfl | rfl | rfl | rfl | rfl | rfl;all_goals first
  | exact a.one (by decide) c
  | exact a.two (by decide)
  | exact a.word ⟨_,_,rfl,by decide⟩ (by decide) (by decide) d
theorem NC {s:By}{ts:List Tok}(hs:Sep s)(hl:Lx s ts):∀(l:List Ex) (e:Ex),(∀x∈e::l,LxE x)->Lx (aI [44,32] ((sQ (e::l)).map (·.2))++s) (ah e++(V7 l++ts))
 | [],e,h=>h e (by simp) s ts hs hl
 | y::l,e,h=>by
  have h1:=NC hs hl l y (λx hx=>h x (Z4 _ hx));have e1:aI [44,32] ((sQ (e::y::l)).map (·.2))++s=fF e++(44::32::(aI [44,32] ((sQ (y::l)).map (·.2))++s)):=by show aJ (fF e) (aJ [44,32] (aI [44,32] ((sQ (y::l)).map (·.2))))++s=_;rw [P8,P8];simp
  have e2:ah e++(V7 (y::l)++ts)=ah e++((3,[44])::(ah y++(V7 l++ts))):=by rw [V7];simp
  rw [e1,e2];exact h e (by simp) _ _ (jM (by decide) (by decide)) ((h1.blank 32 (.inl rfl)).one (b:=44) (by decide) (λt q=>by cases q))
theorem ags {k n:Int}{s:By}{a:List Ex}(h:je (.mk k n s a)=true)(f:∀x∈a,LxE x):LxE (.mk k n s a):=by
 intro r g d c;rcases xg h with rfl | rfl | rfl | rfl | rfl | ⟨i,h2⟩;obtain⟨_,q,_⟩:=qb h (.inl rfl);obtain⟨D,u,_⟩:=q rfl;exact c.num D u d;exact c.name ((qb h (.inr rfl)).2.2 rfl).2 d;obtain⟨_,u,v⟩:=sO h;have z:Lx (41::r) ((3,[41])::g):=c.one (by decide) d.one;have j:fF (.mk 3 n s a)++r=s++(40::(aI [44,32] ((sQ a).map (·.2))++(41::r))):=by show s++(40::(aI [44,32] ((sQ a).map (·.2)) ++ [41]))++r=_;simp
 have m:ah (.mk 3 n s a)++g=(1,s)::(3,[40])::(ru ((tkL a).map (·.2))++((3,[41])::g)):=by show (1,s)::(3,[40])::(ru ((tkL a).map (·.2)) ++ [(3,[41])])++g=_;simp
 rw [j,m];have p:Lx (40::(aI [44,32] ((sQ a).map (·.2))++(41::r))) ((3,[40])::(ru ((tkL a).map (·.2))++((3,[41])::g))):=by
  cases a with
  | nil=>exact z.one (b:=40) (by decide) (λt q=>by cases q)
  | cons x l=>
   rw [X0,l9] at v;have:=NC (jM (b:=41) (t:=r) (by decide) (by decide)) z l x f;rw [xY,aao];refine this.one (b:=40) (by decide) λt=>?_;cases l with
   | nil=>exact xk x _ v.1 t
   | cons y l=>have A:aI [44,32] ((sQ (x::y::l)).map (·.2))++(41::r)=fF x++([44,32]++(aI [44,32] ((sQ (y::l)).map (·.2))++(41::r))):=(by show aJ (fF x) (aJ [44,32] (aI [44,32] ((sQ (y::l)).map (·.2))))++(41::r)=_;rw [P8,P8];simp);rw [A];exact xk x _ v.1 t
 exact p.name u (jM (by decide) (by decide));obtain⟨rfl,rfl,x,rfl,e⟩:=Fb h (.inl rfl);exact (NA e (f x (by simp)) 6 d c).one (b:=45) (by decide) (first_par e 6 _);obtain⟨rfl,rfl,x,rfl,e⟩:=Fb h (.inr rfl);have i:=(NA e (f x (by simp)) 2 d c).blank 32 (.inl rfl);exact i.word (w:=[110,111,116]) ⟨_,_,rfl,by decide⟩ (by decide) (by decide) (jM (by decide) (by decide));obtain⟨rfl,rfl,x,y,rfl,e,C⟩:=Bz h i h2;have j:fF (.mk k 0 [] [x,y])=gu (if bI k=3 then 4 else bI k) (bL x,fF x)++(32::(SQ k++(32::gu (bI k+1) (bL y,fF y)))):=by show sN k 0 [] _=_;unfold sN;rw [if_neg (by omega),if_neg (by omega),if_neg (by omega),if_neg (by omega),if_neg (by omega)];rfl
 have m:ah (.mk k 0 [] [x,y])=V3 (if bI k=3 then 4 else bI k) (bL x,ah x)++(uz k::V3 (bI k+1) (bL y,ah y)):=by show wZ k 0 [] _=_;unfold wZ;rw [if_neg (by omega),if_neg (by omega),if_neg (by omega),if_neg (by omega),if_neg (by omega)];rfl
 rw [j,m];have o:=NA C (f y (by simp)) (bI k+1) d c;have B:=(agr i h2 o).blank 32 (.inl rfl);have:=NA e (f x (by simp)) (if bI k=3 then 4 else bI k) (jM (by decide) (by decide)) B;simpa using this
mutual
theorem akj:∀e:Ex,je e=true->LxE e
 | .mk k n s a,h=>ags h (Td a (by
   simp only [je,l9] at h;exact h.2))
theorem Td:∀l:List Ex,X0 l=true->∀x∈l,LxE x
 | [],_,x,hx=>by cases hx
 | e::l,h,x,hx=>by rw [X0,l9] at h;rcases Y4.1 hx with hx | hx;rw [hx];exact akj e h.1;exact Td l h.2 x hx
end
theorem UA {e:List Ex}(h0:e.length≠0)(a:X0 e=true){s:By}{ts:List Tok}(hs:Sep s)(b:Lx s ts):Lx (kE e++s) (Xg e++ts):=by
 match e,h0,a with
 | x::l,_,a=>have:=NC hs b l x (Td (x::l) a);rw [Nn,ae5] at this;rw [BA,aao];exact this
 | [],h0,_=>simp at h0
def LxS (s:V4):Prop:=∀d r ts,Lx r ts->Lx (Ic s d++r) (IC s++ts)
theorem acP {e:List Ex}(h0:e.length≠0)(a:X0 e=true){r:By}{ts:List Tok}(h:Lx r ts):Lx (kE e++(59::10::r)) (Xg e++((3,[59])::ts)):=
 UA h0 a (jM (by decide) (by decide)) ((h.blank 10 (.inr rfl)).one (b:=59) (by decide) λt q=>by cases q)
theorem Im {e:List Ex}(h0:e.length≠0)(a:X0 e=true){r:By}{ts:List Tok}(h:Lx r ts):Lx (kE e++(32::123::10::r)) (Xg e++((3,[123])::ts)):=
 UA h0 a (jM (by decide) (by decide)) (((h.blank 10 (.inr rfl)).one (b:=123) (by decide) λt q=>by cases q).blank 32 (.inl rfl))
theorem xZ:∀(l:List V4),(∀s∈l,LxS s)->∀d r ts,Lx r ts->Lx (bN l d++r) (dL l++ts)
 | [],_,d,r,ts,h=>by rw [bN,dL];exact h
 | s::l,hl,d,r,ts,h=>by rw [bN,dL,aao,aao];exact hl s (by simp) d _ _ (xZ l (λx hx=>hl x (by simp [hx])) d r ts h)
theorem agt {k:Int}{s:By}{e:List Ex}{t f:List V4}(h:rF (.mk k s e t f)=true)(p:∀x∈t,LxS x)(v:∀x∈f,LxS x):LxS (.mk k s e t f):=by
 have H:=uD h;intro d r z u;have y:k=1∨k=2∨k=3∨k=4∨k=5∨k=6:=by have:=H.k1;have:=H.k6;omega
 have m:=acP H.e0 H.fe u;have a:∀x:By,Sep (32::x):=λx=>jM (by decide) (by decide);have n:Lx (cK d++(125::10::r)) ((3,[125])::z):=((u.blank 10 (.inr rfl)).one (b:=125) (by decide) λt q=>by cases q).blanks _;rw [Ic,IC];rcases y with rfl | rfl | rfl | rfl | rfl | rfl;have o:uQ s=true:=by simpa using H.nm
 have i:=(((m.blank 32 (.inl rfl)).one (b:=61) (by decide) (λt q=>by cases q)).blank 32 (.inl rfl)).name o (a _);have g:=((i.blank 32 (.inl rfl)).word (w:=[108,101,116]) ⟨_,_,rfl,by decide⟩ (by decide) (by decide) (a _)).blanks (2*d);simpa [cK] using g;have o:uQ s=true:=by simpa using H.nm
 have i:=((((m.blank 32 (.inl rfl)).one (b:=61) (by decide) (λt q=>by cases q)).blank 32 (.inl rfl)).name o (a _)).blanks (2*d);simpa [cK] using i;by_cases c:0<f.length;have i:=xZ f v (d+1) _ _ n;have g:=(((((i.blank 10 (.inr rfl)).one (b:=123) (by decide) (λt q=>by cases q)).blank 32 (.inl rfl)).word (w:=[101,108,115,101]) ⟨_,_,rfl,by decide⟩ (by decide) (by decide) (a _)).blank 32 (.inl rfl)).one (b:=125) (by decide) (λt q=>by cases q);have j:=Im H.e0 H.fe (xZ t p (d+1) _ _ (g.blanks (2*d)));have l:=((j.blank 32 (.inl rfl)).word (w:=[105,102]) ⟨_,_,rfl,by decide⟩ (by decide) (by decide) (a _)).blanks (2*d);simpa [cK,c] using l;have j:=Im H.e0 H.fe (xZ t p (d+1) _ _ n);have l:=((j.blank 32 (.inl rfl)).word (w:=[105,102]) ⟨_,_,rfl,by decide⟩ (by decide) (by decide) (a _)).blanks (2*d);simpa [cK,c] using l;have j:=Im H.e0 H.fe (xZ t p (d+1) _ _ n);have l:=((j.blank 32 (.inl rfl)).word (w:=[119,104,105,108,101]) ⟨_,_,rfl,by decide⟩ (by decide) (by decide) (a _)).blanks (2*d);simpa [cK] using l;have g:=((m.blank 32 (.inl rfl)).word (w:=[112,114,105,110,116]) ⟨_,_,rfl,by decide⟩ (by decide) (by decide) (a _)).blanks (2*d);simpa [cK] using g;have g:=m.blanks (2*d);simpa [cK] using g
mutual
theorem akk:∀s:V4,rF s=true->LxS s
 | .mk k s e t f,h=>agt h (ND t (uD h).ft) (ND f (uD h).ff')
theorem ND:∀l:List V4,ay l=true->∀s∈l,LxS s
 | [],_,x,hx=>by cases hx
 | s::l,h,x,hx=>by rw [ay,l9] at h;rcases Y4.1 hx with hx | hx;rw [hx];exact akk s h.1;exact ND l h.2 x hx
end
theorem ZW {l:List V4}(h:ay l=true)(d:Nat):Lx (bN l d) (dL l):=by have:=xZ l (ND l h) d [] [] Lx.nil;simpa using this
def akl (t:Tok):Prop:=(t.1=1->t.2.isEmpty=false∧t.2.length<=16∧jq (t.2.headD 0)=true∧t.2.all uN=true)∧(t.1=2->nX t.2<=9007199254740992)
def gJ (t:List Tok):Prop:=∀x∈t,akl x
theorem gJ.drop {t:List Tok}(h:gJ t)(n:Nat):gJ (t.drop n):=λx a=>h x (aaA a)
theorem UC {t:List Tok}(h:gJ t)(b:fV t=true):uQ (txt t)=true:=by
 cases t with
 | nil=>cases b
 | cons a t=>simp only [fV,l9,decide_eq_true_eq] at b;obtain⟨c,d,e,f⟩:=(h a (by simp)).1 b.1;show uQ a.2=true;simp only [uQ,l9,decide_eq_true_eq];exact⟨⟨⟨⟨by simpa using c,d⟩,e⟩,f⟩,b.2⟩
theorem ZX {lv k:Int}{t:List Tok}(h:Zp lv t=some k):6<=k∧k<=18:=by
 cases t with
 | nil=>cases h
 | cons a t=>
  have c:=DU lv (a.1:Int) a.2;have h:nH lv (a.1:Int) a.2=some k:=h;rw [h] at c;obtain⟨⟨e,b,f⟩,d⟩:=c;rw [← d e b f];have:∀e∈aN,6<=e.2.2.2∧e.2.2.2<=18:=by decide
  exact this e b
theorem ZY {k:Int}(a:6<=k)(b:k<=18){x y:Ex}(d:je x=true)(e:je y=true):je (.mk k 0 [] [x,y])=true:=by
 have c:cB k=2:=by unfold cB;rw [if_neg (by omega),if_neg (by omega),if_neg (by omega),if_pos ⟨a,b⟩]
 simp only [je,X0,c,d,e];rw [if_neg (by omega),if_neg (by omega)];simp
theorem aa0 {k:Int}(a:k=4∨k=5){x:Ex}(b:je x=true):je (.mk k 0 [] [x])=true:=by rcases a with rfl | rfl<;>simp [je,X0,b,cB]
theorem QK (f:Nat):(∀lv t x r,gJ t->aj f lv t=some (x,r)->je x=true∧gJ r)∧(∀lv x t y r,je x=true->gJ t->bK f lv x t=some (y,r)->je y=true∧gJ r)∧(∀t x r,gJ t->iw f t=some (x,r)->je x=true∧gJ r)∧
  (∀t x r,gJ t->gF f t=some (x,r)->(X0 x=true∧x≠[])∧gJ r)∧(∀l t x r,X0 l=true->l≠[]->gJ t->fZ f l t=some (x,r)->(X0 x=true∧x≠[])∧gJ r):=by
 induction f with
 | zero=>exact⟨by intro _ _ _ _ _ h;simp [aj] at h,by intro _ _ _ _ _ _ _ h;simp [bK] at h,by intro _ _ _ _ h;simp [iw] at h,by intro _ _ _ _ h;simp [gF] at h,by intro _ _ _ _ _ _ _ h;simp [fZ] at h⟩
 | succ f ih=>
  obtain⟨i,o,s,u,p⟩:=ih;refine⟨λlv t x r b h=>?_,λlv x t y r n b h=>?_,λt x r b h=>?_,λt x r b h=>?_,λl t x r k m b h=>?_⟩;rw [aj] at h;split at h;split at h;split at h;cases h;rename_i g;obtain⟨d,e⟩:=i _ _ _ _ (b.drop 1) g;cases h;exact⟨aa0 (.inr rfl) d,e⟩;exact i _ _ _ _ b h;split at h;split at h;split at h;cases h;rename_i g;obtain⟨d,e⟩:=i _ _ _ _ (b.drop 1) g;cases h;exact⟨aa0 (.inl rfl) d,e⟩;exact s _ _ _ b h;split at h;cases h;rename_i g;obtain⟨d,e⟩:=i _ _ _ _ b g;exact o _ _ _ _ _ d e h;rw [bK] at h;split at h;cases h;exact⟨n,b⟩;rename_i B;obtain⟨v,w⟩:=ZX B;split at h;cases h;rename_i g;obtain⟨d,e⟩:=i _ _ _ _ (b.drop 1) g;split at h;cases h;exact⟨ZY v w n d,e⟩;exact o _ _ _ _ _ (ZY v w n d) e h;rw [iw] at h;split at h;rename_i q;cases h;refine⟨?_,b.drop 1⟩;cases t with
  | nil=>cases q
  | cons a t=>
   have z:a.1=2:=by simpa [HY] using q
   have:=(b a (by simp)).2 z;show je (.mk 1 ((nX a.2:Nat):Int) [] [])=true;simp only [je,X0,l9,decide_eq_true_eq];simp [cB];omega
  split at h;split at h;cases h;rename_i g;obtain⟨d,e⟩:=i _ _ _ _ (b.drop 1) g;split at h;cases h;exact⟨d,e.drop 1⟩;cases h;split at h;rename_i A;have j:=UC b A;split at h;split at h;cases h;exact⟨by simp [je,X0,cB,j],b.drop 3⟩;split at h;cases h;rename_i g;obtain⟨⟨d,_⟩,e⟩:=u _ _ _ (b.drop 2) g;split at h;cases h;exact⟨by simp [je,d,cB,j],e.drop 1⟩;cases h;cases h;exact⟨by simp [je,X0,cB,j],b.drop 1⟩;cases h;rw [gF] at h;split at h;cases h;rename_i g;obtain⟨d,e⟩:=i _ _ _ _ b g;exact p _ _ _ _ (by simp [X0,d]) (by simp) e h;rw [fZ] at h;split at h;split at h;cases h;rename_i g;obtain⟨d,e⟩:=i _ _ _ _ (b.drop 1) g;refine p _ _ _ _ ?_ (by simp) e h;clear h i o s u p;induction l with
  | nil=>simp [X0,d]
  | cons a l ihl=>rw [X0,l9] at k;rw [aat,X0,k.1,aeb];by_cases c:l=[];subst c;simp [X0,d];exact ihl k.2 c
  cases h;exact⟨⟨k,m⟩,b⟩
theorem UD {f:Nat}{k:Int}(e:k=1∨k=2){t:List Tok}{s:V4}{r:List Tok}(ok:gJ t)(h:zK f k t=some (s,r)):rF s=true∧gJ r:=by
 rw [zK] at h;split at h;rename_i g;have a:=UC ok g;split at h;split at h;cases h;rename_i d;obtain⟨b,c⟩:=(QK f).1 _ _ _ _ (ok.drop 2) d;cases h;refine⟨?_,c⟩;rcases e with rfl | rfl<;>simp [rF,ay,X0,a,b]
 cases h;cases h
theorem acQ {f:Nat}{t:List Tok}{s:V4}{r:List Tok}(ok:gJ t)(h:wW f t=some (s,r)):rF s=true∧gJ r:=by
 rw [wW] at h;split at h;split at h;cases h;rename_i b;obtain⟨⟨d,i⟩,e⟩:=(QK f).2.2.2.1 _ _ _ (ok.drop 1) b;cases h;refine⟨?_,e⟩;simp [rF,ay,d,i];split at h;exact UD (.inl rfl) (ok.drop 1) h;split at h;rename_i g;split at h;cases h;rename_i k m b;obtain⟨d,e⟩:=(QK f).2.2.1 _ _ _ ok b;cases h;refine⟨?_,e⟩;have j:bL k=3:=by
  simp only [pR,l9] at g;obtain⟨l,c⟩:=g;cases f with
  | zero=>rw [iw] at b;cases b
  | succ f=>
   rw [iw] at b;split at b;rename_i q;cases t with
   | nil=>cases q
   | cons a t=>simp only [HY,decide_eq_true_eq] at q;simp only [fV,l9,decide_eq_true_eq] at c;omega
   split at b;rename_i q;cases t with
   | nil=>cases q
   | cons a t=>rw [H9,decide_eq_true_eq] at q;simp only [fV,l9,decide_eq_true_eq] at c;rw [q] at c;exact absurd c.1 (by decide)
   split at b;cases b;rfl;split at b;cases b;split at b;cases b;rfl;cases b
 simp [rF,ay,X0,d,j];exact UD (.inr rfl) ok h
theorem Dg:∀(l:List V4) (s:V4),ay l=true->rF s=true->ay (l ++ [s])=true
 | [],s,_,h=>by simp [ay,h]
 | a::l,s,hl,h=>by rw [ay,l9] at hl;rw [aat,ay,hl.1,Dg l s hl.2 h];rfl
theorem akm (f:Nat):(∀t s r,gJ t->kY f t=some (s,r)->rF s=true∧gJ r)∧(∀t l r,gJ t->pU f t=some (l,r)->ay l=true∧gJ r)∧(∀acc t l r,ay acc=true->gJ t->qp f acc t=some (l,r)->ay l=true∧gJ r):=by
 induction f with
 | zero=>exact⟨by intro _ _ _ _ h;simp [kY] at h,by intro _ _ _ _ h;simp [pU] at h,by intro _ _ _ _ _ _ h;simp [qp] at h⟩
 | succ f ih=>obtain⟨u,m,o⟩:=ih;refine⟨λt s r b h=>?_,λt l r b h=>?_,λacc t l r n b h=>?_⟩;rw [kY] at h;split at h;split at h;cases h;rename_i j;obtain⟨a,c⟩:=(QK f).1 _ _ _ _ (b.drop 1) j;split at h;cases h;rename_i g;obtain⟨d,e⟩:=m _ _ _ c g;split at h;split at h;cases h;rename_i i;obtain⟨p,q⟩:=m _ _ _ (e.drop 1) i;cases h;exact⟨by simp [rF,X0,a,d,p],q⟩;cases h;exact⟨by simp [rF,ay,X0,a,d],e⟩;split at h;split at h;cases h;rename_i j;obtain⟨a,c⟩:=(QK f).1 _ _ _ _ (b.drop 1) j;split at h;cases h;rename_i g;obtain⟨d,e⟩:=m _ _ _ c g;cases h;exact⟨by simp [rF,ay,X0,a,d],e⟩;split at h;cases h;rename_i k;obtain⟨a,c⟩:=acQ b k;split at h;cases h;exact⟨a,c.drop 1⟩;cases h;rw [pU] at h;split at h;exact o _ _ _ _ (by simp [ay]) (b.drop 1) h;cases h;rw [qp] at h;split at h;cases h;exact⟨n,b.drop 1⟩;split at h;cases h;rename_i k;obtain⟨a,c⟩:=u _ _ _ b k;exact o _ _ _ _ (Dg _ _ n a) c h
theorem UE:∀(f:Nat) (acc:List V4) (t:List Tok) (l:List V4),ay acc=true->gJ t->sI f acc t=some l->ay l=true
 | 0,_,_,_,_,_,h=>by rw [sI] at h;cases h
 | f+1,acc,t,l,ha,ok,h=>by rw [sI] at h;split at h;cases h;exact ha;split at h;cases h;rename_i hs;obtain⟨g1,g2⟩:=(akm f).1 _ _ _ ok hs;exact UE f _ _ _ (Dg _ _ ha g1) g2 h
theorem QL (p:UInt8->Bool):∀s:By,(s.take (Q7 p s)).all p=true
 | []=>rfl
 | b::s=>by rw [Q7];split;rename_i h;rw [adI,afv,h,QL p s];rfl;rfl
theorem akn {b:UInt8}{t:By}{k l:Nat}(h:kX (b::t)=some (k,l)):akl (k,(b::t).take l):=by have f:=(wT h).1;rw [kX] at h;split at h;rename_i d;split at h;rename_i a;cases h;refine⟨λ_=>⟨?_,?_,?_,QL uN (b::t)⟩,λq=>(by cases q)⟩;obtain⟨m,c⟩:∃m,Q7 uN (b::t)=m+1:=⟨Q7 uN (b::t)-1,by omega⟩;rw [c];rfl;exact gI (by rw [ahv];omega) a;obtain⟨m,c⟩:∃m,Q7 uN (b::t)=m+1:=⟨Q7 uN (b::t)-1,by omega⟩;rw [c];exact d;cases h;split at h;split at h;cases h;rename_i e;cases h;exact⟨λq=>(by cases q),λ_=>by have:=λq=>e (.inr q);exact adN this⟩;split at h;cases h;exact⟨λq=>(by cases q),λq=>(by cases q)⟩;split at h;cases h;exact⟨λq=>(by cases q),λq=>(by cases q)⟩;cases h
theorem NG:∀(n i:Nat) (s:By) (ts:List Tok),pO n i s=.inr ts->gJ ts
 | 0,_,_,ts,h=>by cases h;intro x hx;cases hx
 | n+1,_,[],ts,h=>by cases h;intro x hx;cases hx
 | n+1,i,b::t,ts,h=>by rw [pO] at h;split at h;exact NG n _ _ _ h;split at h;exact NG n _ _ _ h;split at h;cases h;rename_i k l hk;split at h;cases h;rename_i ts' ht;cases h;intro x hx;rcases Y4.1 hx with hx | hx;rw [hx];exact akn hk;exact NG n _ _ _ ht x hx
theorem aa5:Ew []=.inr []:=by unfold Ew;rw [Hu];have:sI (10*([]:List Tok).length+13) [] []=some []:=Ed (l:=[]) rfl;simp only [this];rw [if_neg (by decide)]
theorem Io {l:List V4}(h:ZO l=0):Ew (bN l 0)=.inr l:=by obtain⟨b,c,a⟩:=SV h;have d:nY 0 (bN l 0)=.inr (dL l):=ZW a 0 0 _ (aP _);unfold Ew;rw [d];simp only [Ed a];rw [if_neg (by unfold nK;rw [if_pos ⟨b,c⟩];simp)]
theorem acR {s:By}{l:List V4}(h:Ew s=.inr l):ZO l=0:=by
 unfold Ew at h;cases hx:nY 0 s with
 | inl j=>rw [hx] at h;cases h
 | inr ts=>
  rw [hx] at h;simp only at h;cases hp:sI (10*ts.length+13) [] ts with
  | none=>rw [hp] at h;cases h
  | some l'=>rw [hp] at h;simp only at h;by_cases c:(nK l').1<0;rw [if_pos c] at h;cases h;rw [if_neg c] at h;cases h;unfold ZO;rw [if_neg c,if_pos (UE _ [] ts l rfl (NG _ _ _ _ hx) hp)]
theorem aa6 {s:By}{c:Int}(h:Ew s=.inl c):c=7∨c=2:=by
 unfold Ew at h;cases hx:nY 0 s with
 | inl j=>rw [hx] at h;cases h;exact .inl rfl
 | inr ts=>
  rw [hx] at h;simp only at h;cases hp:sI (10*ts.length+13) [] ts with
  | none=>rw [hp] at h;cases h;exact .inl rfl
  | some l'=>rw [hp] at h;simp only at h;by_cases c:(nK l').1<0;rw [if_pos c] at h;cases h;exact .inr rfl;rw [if_neg c] at h;cases h
end Go.Proofs.YteecnooaopfkeaaGreatDoor.TT
