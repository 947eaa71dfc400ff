/- Folding of the program, walked; conditions: the memory holds what the arguments say. -/
import Derived.Test.YtfddpcckppibjaaGreatDoorPD5
set_option linter.all false
namespace Go.Proofs.YtfddpcckppibjaaGreatDoor.TT
open Go Go.AM
def ap2:Ex->Bool
 | .mk k _ _ a=>decide (k=1)||(decide (k=4)&&decide (exK (a.headD (.mk 0 0 [] []))=1))
def nmL:List Ex->Bool
 | []=>true
 | e::l=>ap2 e&&nmL l
def Sd (n:Int):Ex:=if n<0 then .mk 4 0 [] [.mk 1 (-n) [] []] else .mk 1 n [] []
def fdK (k n:Int)(s:List UInt8)(a:List Ex):Ex:=
 if a=[]∨k=3∨nmL a=false then .mk k n s a
 else if (fB [] (.mk k n s a)).2=0 then Sd (fB [] (.mk k n s a)).1 else .mk k n s a
mutual
def fdE:Ex->Ex
 | .mk k n s a=>fdK k n s (Jy a)
def Jy:List Ex->List Ex
 | []=>[]
 | e::l=>fdE e::Jy l
end
mutual
def fdS:kG->kG
 | .mk k s e t f=>.mk k s (Jy e) (Ov t) (Ov f)
def Ov:List kG->List kG
 | []=>[]
 | s::l=>fdS s::Ov l
end
theorem Qj:∀l:List Ex,Jy l=l.map fdE
 | []=>by rw [Jy];rfl
 | e::l=>by rw [Jy,Qj l];rfl
theorem Zv (l:List Ex):(Jy l).length=l.length:=by rw [Qj];simp
theorem ad8 {n:Int}(h:dI n=true):dw (Sd n)=true:=by simp only [dI,gI,decide_eq_true_eq] at h;unfold Sd;split;simp [dw,iC,U5];omega;simp [dw,iC,U5];omega
theorem VT {k n:Int}{s:List UInt8}{a b:List Ex}(h:dw (.mk k n s a)=true)(c:b.length=a.length)(hb:iC b=true):dw (.mk k n s b)=true:=by rw [dw] at h ⊢;simp only [gI] at h ⊢;rw [c];exact⟨h.1,hb⟩
theorem VU:∀{e:Ex},dw e=true->VK e
 | .mk k n s a,h=>by rw [VK];refine⟨λhk=>?_,nuL_nu ?_⟩;subst hk;obtain⟨_,h1,_⟩:=LZ h (.inl rfl);have:=h1 rfl;simp only [dI,gI,decide_eq_true_eq];omega;rw [dw] at h;exact ((gI _ _).mp h).2
where nuL_nu:∀{l:List Ex},iC l=true->VK.nuL l
 | [],_=>trivial
 | e::l,h=>by rw [iC,gI] at h;exact⟨VU h.1,nuL_nu h.2⟩
theorem ad9 {x:Ex}(h:dw x=true):dI (fB [] x).1=true:=Oo (by intro p a;cases a) x (VU h)
theorem ada {k n:Int}{s:List UInt8}{a:List Ex}(h:dw (.mk k n s a)=true):dw (fdK k n s a)=true:=by unfold fdK;split;exact h;split;exact ad8 (ad9 h);exact h
mutual
theorem adb:∀e:Ex,dw e=true->dw (fdE e)=true
 | .mk k n s a,h=>by
  rw [fdE];have ha:iC a=true:=by rw [dw] at h;exact ((gI _ _).mp h).2
  exact ada (VT h (Zv a) (VW a ha))
theorem VW:∀l:List Ex,iC l=true->iC (Jy l)=true
 | [],_=>by rw [Jy];rfl
 | e::l,h=>by rw [iC,gI] at h;rw [Jy,iC,adb e h.1,VW l h.2];rfl
end
theorem Zw:∀e:Ex,1<=fZ e
 | .mk _ _ _ _=>by rw [fZ];omega
theorem Zx:∀e:Ex,1<=fA e
 | .mk _ _ _ _=>by rw [fA];omega
theorem Sg (n:Int):fZ (Sd n)<=2∧fA (Sd n)<=2:=by unfold Sd;split<;>simp [fZ,Z0,fA,aj]
mutual
theorem VX:∀e:Ex,fZ (fdE e)<=fZ e∧fA (fdE e)<=fA e
 | .mk k n s a=>by
  obtain⟨h1,h2⟩:=Ed a;have hs:fZ (.mk k n s (Jy a))<=fZ (.mk k n s a)∧fA (.mk k n s (Jy a))<=fA (.mk k n s a):=by rw [fZ,fZ,fA,fA];omega
  rw [fdE];unfold fdK;split;exact hs;rename_i hn;split;have hne:a≠[]:=λe=>hn (.inl (by rw [e,Jy]));obtain⟨x,l,rfl⟩:∃x l,a=x::l:=by cases a with | nil=>exact absurd rfl hne | cons x l=>exact⟨x,l,rfl⟩
  have:=Sg (fB [] (.mk k n s (Jy (x::l)))).1;have:=Zw x;have:=Zx x;rw [fZ,fA,Z0,aj];omega;exact hs
theorem Ed:∀l:List Ex,Z0 (Jy l)<=Z0 l∧aj (Jy l)<=aj l
 | []=>by rw [Jy];exact⟨lM _,lM _⟩
 | e::l=>by obtain⟨h1,h2⟩:=VX e;obtain⟨h3,h4⟩:=Ed l;rw [Jy,Z0,Z0,aj,aj];omega
end
mutual
theorem VY:∀s:kG,stP (fdS s)<=stP s∧Ep (fdS s)<=Ep s
 | .mk k s e t f=>by obtain⟨h1,h2⟩:=Ed e;obtain⟨h3,h4⟩:=zQ t;obtain⟨h5,h6⟩:=zQ f;rw [fdS,stP,stP,Ep,Ep];omega
theorem zQ:∀l:List kG,nD (Ov l)<=nD l∧lW (Ov l)<=lW l
 | []=>by rw [Ov];exact⟨lM _,lM _⟩
 | s::l=>by obtain⟨h1,h2⟩:=VY s;obtain⟨h3,h4⟩:=zQ l;rw [Ov,nD,nD,lW,lW];omega
end
set_option maxRecDepth 100000
set_option maxHeartbeats 16000000
end Go.Proofs.YtfddpcckppibjaaGreatDoor.TT
