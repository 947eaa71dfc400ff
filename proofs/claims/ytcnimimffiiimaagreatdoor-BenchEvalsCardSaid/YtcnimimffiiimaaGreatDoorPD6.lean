/- Folding of the program, walked; conditions: the memory holds what the arguments say. -/
import Derived.Test.YtcnimimffiiimaaGreatDoorPD5
set_option linter.all false
namespace Go.Proofs.YtcnimimffiiimaaGreatDoor.TT
open Go Go.AM
def ap1:Ex->Bool
 | .mk k _ _ a=>decide (k=1)||(decide (k=4)&&decide (exK (a.headD (.mk 0 0 [] []))=1))
def nmL:List Ex->Bool
 | []=>true
 | e::l=>ap1 e&&nmL l
def Sc (n:Int):Ex:=if n<0 then .mk 4 0 [] [.mk 1 (-n) [] []] else .mk 1 n [] []
def fdK (k n:Int)(s:List UInt8)(a:List Ex):Ex:=
 if a=[]∨k=3∨nmL a=false then .mk k n s a
 else if (fB [] (.mk k n s a)).2=0 then Sc (fB [] (.mk k n s a)).1 else .mk k n s a
mutual
def fdE:Ex->Ex
 | .mk k n s a=>fdK k n s (Jy a)
def Jy:List Ex->List Ex
 | []=>[]
 | e::l=>fdE e::Jy l
end
mutual
def fdS:kG->kG
 | .mk k s e t f=>.mk k s (Jy e) (Ov t) (Ov f)
def Ov:List kG->List kG
 | []=>[]
 | s::l=>fdS s::Ov l
end
theorem Qi:∀l:List Ex,Jy l=l.map fdE
 | []=>by rw [Jy];rfl
 | e::l=>by rw [Jy,Qi l];rfl
theorem Zu (l:List Ex):(Jy l).length=l.length:=by rw [Qi];simp
theorem ad7 {n:Int}(h:dI n=true):dw (Sc n)=true:=by simp only [dI,gI,decide_eq_true_eq] at h;unfold Sc;split;simp [dw,iC,U5];omega;simp [dw,iC,U5];omega
theorem VR {k n:Int}{s:List UInt8}{a b:List Ex}(h:dw (.mk k n s a)=true)(c:b.length=a.length)(hb:iC b=true):dw (.mk k n s b)=true:=by rw [dw] at h ⊢;simp only [gI] at h ⊢;rw [c];exact⟨h.1,hb⟩
theorem VT:∀{e:Ex},dw e=true->VJ e
 | .mk k n s a,h=>by rw [VJ];refine⟨λhk=>?_,nuL_nu ?_⟩;subst hk;obtain⟨_,h1,_⟩:=LZ h (.inl rfl);have:=h1 rfl;simp only [dI,gI,decide_eq_true_eq];omega;rw [dw] at h;exact ((gI _ _).mp h).2
where nuL_nu:∀{l:List Ex},iC l=true->VJ.nuL l
 | [],_=>trivial
 | e::l,h=>by rw [iC,gI] at h;exact⟨VT h.1,nuL_nu h.2⟩
theorem ad8 {x:Ex}(h:dw x=true):dI (fB [] x).1=true:=Oo (by intro p a;cases a) x (VT h)
theorem ad9 {k n:Int}{s:List UInt8}{a:List Ex}(h:dw (.mk k n s a)=true):dw (fdK k n s a)=true:=by unfold fdK;split;exact h;split;exact ad7 (ad8 h);exact h
mutual
theorem ada:∀e:Ex,dw e=true->dw (fdE e)=true
 | .mk k n s a,h=>by
  rw [fdE];have ha:iC a=true:=by rw [dw] at h;exact ((gI _ _).mp h).2
  exact ad9 (VR h (Zu a) (VU a ha))
theorem VU:∀l:List Ex,iC l=true->iC (Jy l)=true
 | [],_=>by rw [Jy];rfl
 | e::l,h=>by rw [iC,gI] at h;rw [Jy,iC,ada e h.1,VU l h.2];rfl
end
theorem Zv:∀e:Ex,1<=gQ e
 | .mk _ _ _ _=>by rw [gQ];omega
theorem Zw:∀e:Ex,1<=fA e
 | .mk _ _ _ _=>by rw [fA];omega
theorem Sd (n:Int):gQ (Sc n)<=2∧fA (Sc n)<=2:=by unfold Sc;split<;>simp [gQ,Z0,fA,aj]
mutual
theorem VW:∀e:Ex,gQ (fdE e)<=gQ e∧fA (fdE e)<=fA e
 | .mk k n s a=>by
  obtain⟨h1,h2⟩:=Ed a;have hs:gQ (.mk k n s (Jy a))<=gQ (.mk k n s a)∧fA (.mk k n s (Jy a))<=fA (.mk k n s a):=by rw [gQ,gQ,fA,fA];omega
  rw [fdE];unfold fdK;split;exact hs;rename_i hn;split;have hne:a≠[]:=λe=>hn (.inl (by rw [e,Jy]));obtain⟨x,l,rfl⟩:∃x l,a=x::l:=by cases a with | nil=>exact absurd rfl hne | cons x l=>exact⟨x,l,rfl⟩
  have:=Sd (fB [] (.mk k n s (Jy (x::l)))).1;have:=Zv x;have:=Zw x;rw [gQ,fA,Z0,aj];omega;exact hs
theorem Ed:∀l:List Ex,Z0 (Jy l)<=Z0 l∧aj (Jy l)<=aj l
 | []=>by rw [Jy];exact⟨lM _,lM _⟩
 | e::l=>by obtain⟨h1,h2⟩:=VW e;obtain⟨h3,h4⟩:=Ed l;rw [Jy,Z0,Z0,aj,aj];omega
end
mutual
theorem VX:∀s:kG,stP (fdS s)<=stP s∧Ep (fdS s)<=Ep s
 | .mk k s e t f=>by obtain⟨h1,h2⟩:=Ed e;obtain⟨h3,h4⟩:=zQ t;obtain⟨h5,h6⟩:=zQ f;rw [fdS,stP,stP,Ep,Ep];omega
theorem zQ:∀l:List kG,nC (Ov l)<=nC l∧lV (Ov l)<=lV l
 | []=>by rw [Ov];exact⟨lM _,lM _⟩
 | s::l=>by obtain⟨h1,h2⟩:=VX s;obtain⟨h3,h4⟩:=zQ l;rw [Ov,nC,nC,lV,lV];omega
end
set_option maxRecDepth 100000
set_option maxHeartbeats 16000000
end Go.Proofs.YtcnimimffiiimaaGreatDoor.TT
