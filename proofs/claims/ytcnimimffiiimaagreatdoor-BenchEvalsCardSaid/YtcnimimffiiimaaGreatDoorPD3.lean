/- Well-formed statements, walked; conditions: the memory holds what the arguments say. -/
import Derived.Test.YtcnimimffiiimaaGreatDoorPD2
import Derived.Lib.ItoaNum
import Derived.KernelRfl
set_option linter.all false
namespace Go.Proofs.YtcnimimffiiimaaGreatDoor.TT
open Go Go.AM
set_option maxRecDepth 100000
set_option maxHeartbeats 8000000
noncomputable section
def VF (k:Int):Int:=if k=18 then 0 else if k=17 then 1 else if k=5 then 2 else if 11<=k∧k<=16 then 3 else if k=9∨k=10 then 4 else if 6<=k∧k<=8 then 5 else if k=4 then 6 else 7
def sgn (k:Int):List UInt8:=if k=6 then [42] else if k=7 then [47] else if k=8 then [37] else if k=9 then [43] else if k=10 then [45] else if k=11 then [60] else if k=12 then [60,61] else if k=13 then [62] else if k=14 then [62,61] else if k=15 then [61,61] else if k=16 then [33,61] else if k=17 then [97,110,100] else if k=18 then [111,114] else []
def RX (least:Int)(p:Int×List UInt8):List UInt8:=if VF p.1<least then 40::(p.2 ++ [41]) else p.2
def aaN (k n:Int)(s:List UInt8)(l:List (Int×List UInt8)):List UInt8:=
 if k=1 then Lib.itoa n else if k=2 then s else if k=3 then s++(40::(fK [44,32] (l.map (·.2)) ++ [41]))
 else if k=4 then 45::RX 6 (l.getD 0 (0,[])) else if k=5 then [110,111,116,32]++RX 2 (l.getD 0 (0,[]))
 else RX (if VF k=3 then 4 else VF k) (l.getD 0 (0,[]))++(32::(sgn k++(32::RX (VF k+1) (l.getD 1 (0,[])))))
mutual
def txE:Ex->List UInt8
 | .mk k n s a=>aaN k n s (Jh a)
def Jh:List Ex->List (Int×List UInt8)
 | []=>[]
 | e::l=>(exK e,txE e)::Jh l
end
def txJ (l:List Ex):List UInt8:=fK [44,32] (l.map txE)
theorem PV:∀(k n:Nat),n<10^(k+1)->(Lib.decDigits n).length<=k+1
 | 0,n,h=>by rw [Lib.decDigits,dif_pos (by simpa using h)];simp
 | k+1,n,h=>by rw [Lib.decDigits];split;simp;have:=PV k (n / 10) (by rw [ajE] at h;omega);simp;omega
theorem Oj {n:Int}(h0:0<=n)(a:n<=9007199254740992):(Lib.itoa n).length<=16:=by
 rw [Lib.itoa,if_neg (by omega)]
 exact PV 15 n.toNat (by have:(10:Nat)^(15+1)=10000000000000000:=by decide
                         omega)
theorem zN (sep:List UInt8):∀l:List (List UInt8),(fK sep l).length<=(l.map λs=>s.length+sep.length).sum
 | []=>lM _
 | [s]=>by show s.length<=_;simp
 | s::t::l=>by have:=zN sep (t::l);show (ah s (ah sep (fK sep (t::l)))).length<=_;rw [Q8,Q8,Z7,Z7,Y6,aeH];omega
theorem YZ {p:Prop} [Decidable p]{a b:List UInt8}{n:Nat}(c:a.length<=n)(hb:b.length<=n):(if p then a else b).length<=n:=by split<;>assumption
theorem Za (k:Int):(sgn k).length<=3:=by
 unfold sgn;repeat' apply YZ
 all_goals decide
theorem yI (m:Int)(p:Int×List UInt8):(RX m p).length<=p.2.length+2:=by unfold RX;split<;>simp
theorem PW {s:List UInt8}(h:EZ s=true):s.length<=16:=by simp only [EZ,gI,decide_eq_true_eq] at h;omega
theorem LW:∀(l:List (Int×List UInt8)) (i:Nat),(l.getD i (0,[])).2.length<=(l.map λp=>p.2.length).sum
 | [],i=>by simp
 | p::l,0=>by simp
 | p::l,i+1=>by have:=LW l i;simp at this ⊢;omega
theorem RY:∀(l:List (Int×List UInt8)),(l.getD 0 (0,[])).2.length+(l.getD 1 (0,[])).2.length<=(l.map λp=>p.2.length).sum
 | []=>by simp
 | [p]=>by simp
 | p::q::l=>by simp
mutual
theorem Zb:∀e:Ex,dw e=true->(txE e).length+4<=40*gQ e
 | .mk k n s a,h=>by
  rw [txE,gQ];have hs:k=2∨k=3->s.length<=16:=λhk=>by simp only [dw,gI,decide_eq_true_eq] at h;rw [if_pos hk] at h;exact PW h.1.2
  have hn:k=1->0<=n∧n<=9007199254740992:=λhk=>by simp only [dw,gI,decide_eq_true_eq] at h;rw [if_pos hk] at h;simpa using h.1.1.2
  have ha:iC a=true:=by simp only [dw,gI] at h;exact h.2
  have hl:=Ji a ha;have hj:((fK [44,32] ((Jh a).map (·.2))).length)<=((Jh a).map λp=>p.2.length).sum+2*a.length:=by
   have:=zN [44,32] ((Jh a).map (·.2));rw [aeP] at this;have e:∀l:List Ex,(List.map ((λs:List UInt8=>s.length + [(44:UInt8),32].length)∘λx:Int×List UInt8=>x.2) (Jh l)).sum=((Jh l).map λp=>p.2.length).sum+2*l.length:=by
    intro l;induction l with
    | nil=>rfl
    | cons x l ih=>rw [Jh,Y6,aeH,ih,Y6,aeH,Y3];simp;omega
   rw [e] at this;exact this
  have g0:=LW (Jh a) 0;have g1:=RY (Jh a);unfold aaN;split;rename_i hk;have:=Oj (hn hk).1 (hn hk).2;omega
  split;rename_i hk;have:=hs (.inl hk);omega
  split;rename_i hk;have:=hs (.inr hk);simp only [Z7,Y3,ags];omega
  split;have:=yI 6 ((Jh a).getD 0 (0,[]));rw [Y3];omega;split;have:=yI 2 ((Jh a).getD 0 (0,[]));simp only [Z7,Y3,ags];omega;have p1:=yI (if VF k=3 then 4 else VF k) ((Jh a).getD 0 (0,[]));have p2:=yI (VF k+1) ((Jh a).getD 1 (0,[]));have p3:=Za k;simp only [Z7,Y3];omega
theorem Ji:∀l:List Ex,iC l=true->((Jh l).map λp=>p.2.length).sum+4*l.length<=40*Z0 l
 | [],_=>by simp [Jh,Z0]
 | e::l,h=>by rw [iC,gI] at h;have h1:=Zb e h.1;have h2:=Ji l h.2;rw [Jh,Z0,Y6,aeH,Y3];show (txE e).length + _ + _<=_;omega
end
theorem Zc (l:List Ex)(h:iC l=true):(txJ l).length<=40*Z0 l:=by
 have b:=Ji l h;have a:=zN [44,32] (l.map txE);have e:∀l:List Ex,((l.map txE).map λs=>s.length + [(44:UInt8),32].length).sum=((Jh l).map λp=>p.2.length).sum+2*l.length:=by
  intro l;induction l with
  | nil=>rfl
  | cons x l ih=>rw [Jh,Y6,Y6,aeH,ih,Y6,aeH,Y3];simp;omega
 rw [e] at a;show (fK [44,32] (l.map txE)).length<=_;omega
def VG (d:Nat):List UInt8:=List.replicate (2*d) 32
mutual
def txS:kG->Nat->List UInt8
 | .mk k s e t f,d=>
  if k=1 then VG d++([108,101,116,32]++(s++([32,61,32]++(txJ e ++ [59,10]))))
  else if k=2 then VG d++(s++([32,61,32]++(txJ e ++ [59,10])))
  else if k=5 then VG d++([112,114,105,110,116,32]++(txJ e ++ [59,10]))
  else if k=6 then VG d++(txJ e ++ [59,10])
  else if k=4 then VG d++([119,104,105,108,101,32]++(txJ e++([32,123,10]++(Ol t (d+1)++(VG d ++ [125,10])))))
  else VG d++([105,102,32]++(txJ e++([32,123,10]++(Ol t (d+1)++((if 0<f.length then VG d++([125,32,101,108,115,101,32,123,10]++Ol f (d+1)) else [])++(VG d ++ [125,10]))))))
def Ol:List kG->Nat->List UInt8
 | [],_=>[]
 | s::l,d=>txS s d++Ol l d
end
mutual
theorem Zd:∀(s:kG) (d:Nat),fmS s=true->d+Ep s<=100->(txS s d).length<=700*stP s
 | .mk k s e t f,d,h,hd=>by
  have h':=h;simp only [fmS,gI,decide_eq_true_eq] at h;obtain⟨⟨⟨⟨⟨⟨⟨⟨⟨⟨a1,a2⟩,a3⟩,a4⟩,a5⟩,a6⟩,a7⟩,a8⟩,a9⟩,b1⟩,b2⟩:=h;rw [Ep] at hd;have h1:=Zc e a9;have h2:=DY t (d+1) b1 (by omega);have h3:=DY f (d+1) b2 (by omega);have hi:(VG d).length<=200:=by rw [VG,List.length_replicate];omega
  have hs:s.length<=16:=by
   split at a3;exact PW a3;have:s=[]:=by simpa using a3
   simp [this]
  rw [txS,stP];repeat' split
  all_goals simp only [Z7,Y3,ags]
  all_goals omega
theorem DY:∀(l:List kG) (d:Nat),VE l=true->d+lV l<=100->(Ol l d).length<=700*nC l
 | [],d,_,_=>by simp [Ol]
 | s::l,d,h,hd=>by rw [VE,gI] at h;rw [lV] at hd;have h1:=Zd s d h.1 (by omega);have h2:=DY l d h.2 (by omega);rw [Ol,nC,Z7];omega
end
end
noncomputable def PX (b:Option N7)(f:El)(n:Nat)(z:d9)(ok:Bool)(k:d9):Option d9:=GK b λes=>ob (O5 f n k es) λr=>found ok z r
theorem kJ (f:El)(n:Nat)(z:d9)(ok:Bool)(mp k:OF)(ls:List d9)(env:T d9)(m:Mem):wZ f n z ok mp k ls env m=rJ (mp ls env) (ob (O5 f n (k ls env) []) λr=>found ok z r) λid=>PX (m.get id) f n z ok (k ls env):=rfl
def Bu (lo:Nat)(M:Mem)(p:Nat)(s:List UInt8):Prop:=lo<=p∧p<M.nx∧∃a v,M.get p=some (JF 135 [a,v])∧(a=.nilPtr∨a=.ptr p 0)∧
 ((v=nS∧s=[])∨∃id,lo<=id∧id<M.nx∧id≠p∧v=.sliceU id 0 s.length 1∧M.get id=some (.buf 5 s)∧s≠[])
theorem Bu.ext {lo p:Nat}{M c:Mem}{s:List UInt8}(h:Bu lo M p s)(e:Ext M c):Bu lo c p s:=by obtain⟨f,d,a,v,g,i,b⟩:=h;refine⟨f,q9 d e.nx,a,v,(e.old p d).trans g,i,?_⟩;rcases b with b | ⟨id,q1,q2,q3,q4,q5,q6⟩;exact .inl b;exact .inr ⟨id,q1,q9 q2 e.nx,q3,q4,(e.old id q2).trans q5,q6⟩
def arT:List (List UInt8×Int):=[([114,111,111,109],1),([107,110,111,119,110],1),([102,105,108,109],2),([103,97,117,103,101],8),([117,115,101],2),([108,111,97,110],4),([99,111,109,112,97,114,101],7),([109,105,120],3),([119,105,116,104,100,114,97,119],2),([115,101,110,100],1),([99,114,97,115,104],1),
 ([102,97,99,116,115],0),([108,111,119],2),([104,105,103,104],2),([99,111,117,110,116],2),([106,117,100,103,101],4),([101,120,112,108,97,105,110,101,100],0),([98,108,97,109,101],0),([113,117,97,114,114,101,108],2),([101,114,114,110,111],0)]
def arF:List (List UInt8×Int)->List UInt8->Int
 | [],_=>-1
 | p::l,s=>if s=p.1 then p.2 else arF l s
def arity (s:List UInt8):Int:=arF arT s
def Om (V:List (List UInt8))(s:List UInt8):Bool:=V.any λt=>decide (s=t)
mutual
def chE:Ex->List (List UInt8)->Int
 | .mk k n s a,V=>if k=2∧Om V s=false then 5 else if k=3∧arity s<0 then 5 else if k=3∧¬ arity s=(a.length:Int) then 1 else Fa a V
def Fa:List Ex->List (List UInt8)->Int
 | [],_=>0
 | e::l,V=>if chE e V=0 then Fa l V else chE e V
end
def stK:kG->Int
 | .mk k _ _ _ _=>k
def aoY (s:kG)(V:List (List UInt8)):List (List UInt8):=if stK s=1 then V ++ [stN s] else V
mutual
def chS:kG->List (List UInt8)->Int
 | .mk k s e t f,V=>if ¬ Fa e V=0 then Fa e V else if k=2∧Om V s=false then 5 else if k=1∧Om V s=true then 6
   else if ¬ Ze t (if k=1 then V ++ [s] else V)=0 then Ze t (if k=1 then V ++ [s] else V) else Ze f (if k=1 then V ++ [s] else V)
def Ze:List kG->List (List UInt8)->Int
 | [],_=>0
 | s::l,V=>if chS s V=0 then Ze l (aoY s V) else chS s V
end
mutual
theorem acO:∀(e:Ex) (V W:List (List UInt8)),(∀x,Om V x=Om W x)->chE e V=chE e W
 | .mk k n s a,V,W,h=>by rw [chE,chE,h s,PY a V W h]
theorem PY:∀(l:List Ex) (V W:List (List UInt8)),(∀x,Om V x=Om W x)->Fa l V=Fa l W
 | [],V,W,h=>by rw [Fa,Fa]
 | e::l,V,W,h=>by rw [Fa,Fa,acO e V W h,PY l V W h]
end
end Go.Proofs.YtcnimimffiiimaaGreatDoor.TT

