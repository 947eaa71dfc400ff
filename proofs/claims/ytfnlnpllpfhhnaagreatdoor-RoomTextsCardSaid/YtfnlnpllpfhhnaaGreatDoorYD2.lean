/- What texts tell of facts, in plain words, and functions that read and write them, walked; conditions: the memory holds what the arguments say. -/
import Derived.Test.YtfnlnpllpfhhnaaGreatDoorYD1
import Derived.Lib.ItoaMem
import Derived.Lib.AtoiAll
import Derived.Lib.Fields
import Derived.Lib.SpaceU
import Derived.Shelf.Strings.FieldsAny
set_option linter.unusedSimpArgs false
set_option linter.unusedVariables false
namespace Go.Proofs.YtfnlnpllpfhhnaaGreatDoor.TT
open Go Go.AM
set_option maxRecDepth 100000
set_option maxHeartbeats 2000000
abbrev By:=List UInt8
def LZ (b:UInt8):List By→List By
 | []=>[[b]]
 | w::ws=>(b::w)::ws
def splitB (c:UInt8):By→List By
 | []=>[[]]
 | b::l=>if b=c then []::splitB c l else LZ b (splitB c l)
theorem kZ (c:UInt8):∀l,∃w ws,splitB c l=w::ws
 | []=>⟨[],[],rfl⟩
 | b::l=>by
  obtain⟨w,ws,h⟩:=kZ c l
  by_cases hb:b=c
  ·exact⟨[],w::ws,by rw [splitB,if_pos hb,h]⟩
  ·exact⟨b::w,ws,by rw [splitB,if_neg hb,h];rfl⟩
theorem tN (c:UInt8):∀(w l h:By) (t:List By),(∀b∈w,b≠c)→splitB c l=h::t→splitB c (w++l)=(w++h)::t
 | [],l,h,t,_,e=>e
 | b::w,l,h,t,hw,e=>by
  show splitB c (b::(w++l))=_
  rw [splitB,if_neg (hw b (by simp)),tN c w l h t (fun x hx=>hw x (by simp [hx])) e];rfl
theorem lZ (c:UInt8):∀(ws:List By) (w:By),(∀b∈w,b≠c)→(∀x∈ws,∀b∈x,b≠c)→splitB c (w++(ws.map (c :: ·)).flatten)=w::ws
 | [],w,hw,_=>by
  have:=tN c w [] [] [] hw rfl
  simpa using this
 | x::ws,w,hw,hs=>by
  have ih:=lZ c ws x (hs x (by simp)) (fun y hy=>hs y (by simp [hy]))
  have e:splitB c (c::(x++(ws.map (c :: ·)).flatten))=[]::x::ws:=by rw [splitB,if_pos rfl,ih]
  have:=tN c w _ _ _ hw e
  simpa using this
def Tok (w:By):Prop:=w≠[]∧∀b∈w,33≤b.toNat∧b.toNat<127
theorem Ma {b:UInt8}(h:33≤b.toNat∧b.toNat<127):Lib.isSp b=false:=by
 have key:∀c:UInt8,c.toNat<33→(b==c)=false:=fun c hc=>by
  cases e:b==c with
  | false=>rfl
  | true=>
   have e:=eq_of_beq e
   rw [e] at h;omega
 unfold Lib.isSp
 rw [key 9 (by decide),key 10 (by decide),key 11 (by decide),key 12 (by decide),key 13 (by decide),key 32 (by decide)]
 rfl
theorem mg:∀(w cur l:By),(∀b∈w,Lib.isSp b=false)→Lib.fieldsGo cur (w++l)=Lib.fieldsGo (cur++w) l
 | [],cur,l,_=>by simp
 | b::w,cur,l,h=>by
  show Lib.fieldsGo cur (b::(w++l))=_
  rw [Lib.fieldsGo_more _ _ _ (h b (by simp)),mg w _ l (fun x hx=>h x (by simp [hx]))]
  simp
theorem qw:∀(ws:List By) (w:By) (s:UInt8) (rest:By),Tok w→(∀x∈ws,Tok x)→Lib.isSp s=true→Lib.fieldsGo [] (w++(ws.map (32 :: ·)).flatten++s::rest)=w::ws++Lib.fieldsGo [] rest
 | [],w,s,rest,hw,_,hs=>by
  have e:w++(([]:List By).map (32 :: ·)).flatten++s::rest=w++(s::rest):=by simp
  rw [e,mg w _ _ (fun b hb=>Ma (hw.2 b hb)),avT,Lib.fieldsGo_end _ _ _ hs hw.1];rfl
 | x::ws,w,s,rest,hw,hx,hs=>by
  have e:w++((x::ws).map (32 :: ·)).flatten++s::rest=w++(32::(x++(ws.map (32 :: ·)).flatten++s::rest)):=by simp
  rw [e,mg w _ _ (fun b hb=>Ma (hw.2 b hb)),avT,Lib.fieldsGo_end _ _ _ (by decide) hw.1,
   qw ws x s rest (hx x (by simp)) (fun y hy=>hx y (by simp [hy])) hs];rfl
theorem aaS (d:Nat)(h:d<10):(UInt8.ofNat (48+d)).toNat=48+d:=by
 show (48+d)%256=_;omega
theorem iZ (u:Nat):∀b∈Lib.decDigits u,48≤b.toNat∧b.toNat≤57:=by
 induction u using Nat.strongRecOn with
 | _ u ih=>
  intro b hb
  rw [Lib.decDigits] at hb
  split at hb
  ·rename_i h
   simp only [W9] at hb
   subst hb
   rw [aaS _ h];omega
  ·rename_i h
   rcases avN.1 hb with hb | hb
   ·exact ih (u / 10) (by omega) b hb
   ·simp only [W9] at hb
    subst hb
    rw [aaS _ (awr _ (by omega))];omega
theorem jZ (u:Nat):Lib.decDigits u≠[]:=by
 have h1:=Lib.decDigits_length u
 have h2:=Lib.nDigits_pos u
 intro h
 rw [h] at h1;simp at h1;omega
theorem Bq (n:Int):∀b∈Lib.itoa n,45≤b.toNat∧b.toNat≤57:=by
 intro b hb
 unfold Lib.itoa at hb
 split at hb
 ·rcases avL.1 hb with rfl | hb
  ·decide
  ·have:=iZ _ b hb;omega
 ·have:=iZ _ b hb;omega
theorem Mc (n:Int):Lib.itoa n≠[]:=by
 unfold Lib.itoa
 split
 ·simp
 ·exact jZ _
theorem OW (n:Int):Tok (Lib.itoa n):=⟨Mc n,fun b hb=>by have:=Bq n b hb;omega⟩
theorem zV:∀(l:By) (acc:Nat) (c:UInt8) (u:Nat),Lib.parseUint10 acc l=.ok u→Lib.parseUint10 acc (l ++ [c])=Lib.parseUint10 u [c]
 | [],acc,c,u,h=>by
  simp only [Lib.parseUint10] at h
  injection h with h
  subst h;rfl
 | b::l,acc,c,u,h=>by
  show Lib.parseUint10 acc (b::(l ++ [c]))=_
  rw [Lib.parseUint10] at h ⊢
  split at h
  ·rename_i h1
   split at h
   ·cases h
   ·rename_i h2
    split at h
    ·cases h
    ·rename_i h3
     rw [if_pos h1,if_neg h2,if_neg h3,zV l _ c u h]
  ·cases h
theorem zW (u d:Nat)(hd:d<10)(h:u*10+d<18446744073709551616):Lib.parseUint10 u [UInt8.ofNat (48+d)]=.ok (u*10+d):=by
 rw [Lib.parseUint10,aaS d hd,if_pos (by omega),if_neg (by omega),if_neg (by omega),Lib.parseUint10]
 congr 1
 omega
theorem zX (u:Nat):u<18446744073709551616→Lib.parseUint10 0 (Lib.decDigits u)=.ok u:=by
 induction u using Nat.strongRecOn with
 | _ u ih=>
  intro hu
  rw [Lib.decDigits]
  split
  ·rename_i h
   rw [zW 0 u h (by omega)]
   congr 1;omega
  ·rename_i h
   rw [zV _ _ _ _ (ih (u / 10) (by omega) (by omega)),zW _ _ (awr _ (by omega)) (by omega)]
   congr 1;omega
theorem Md {n:Int}(h0:-9223372036854775808≤n)(h1:n<9223372036854775808):Lib.atoiAll (Lib.itoa n)=.ok n:=by
 unfold Lib.itoa
 split
 ·rename_i h
  have e:Lib.parseMag (Lib.decDigits n.natAbs)=.ok n.natAbs:=by
   rw [Lib.parseMag,if_neg (jZ _),zX _ (by omega)]
  have h45:(45:UInt8).toNat=45:=rfl
  simp only [Lib.atoiAll,h45,or_true,if_true,e]
  rw [if_neg (by simp),if_neg (by simp;omega)]
  simp;omega
 ·rename_i h
  have e:Lib.parseMag (Lib.decDigits n.toNat)=.ok n.toNat:=by
   rw [Lib.parseMag,if_neg (jZ _),zX _ (by omega)]
  cases hd:Lib.decDigits n.toNat with
  | nil=>exact absurd hd (jZ _)
  | cons c r=>
   have hc:=iZ n.toNat c (by rw [hd];simp)
   rw [hd] at e
   have h43:¬ (c.toNat=43∨c.toNat=45):=by omega
   have h45:¬ c.toNat=45:=by omega
   simp only [Lib.atoiAll,if_neg h43,e]
   rw [if_neg (by omega),if_neg (by omega),if_neg h45]
   congr 1;omega
def nO (acc:Nat):By→Nat
 | []=>acc
 | b::l=>nO (if 48≤b.toNat∧b.toNat≤57 then 10*acc+(b.toNat-48) else acc) l
def oP (s:By):Int:=if s.head?=some 45 then -(nO 0 (s.take 18):Nat) else (nO 0 (s.take 18):Nat)
theorem Br:∀(l m:By) (acc:Nat),nO acc (l++m)=nO (nO acc l) m
 | [],m,acc=>rfl
 | b::l,m,acc=>by
  show nO acc (b::(l++m))=_
  rw [nO,nO,Br l m]
theorem GU (u:Nat):nO 0 (Lib.decDigits u)=u:=by
 induction u using Nat.strongRecOn with
 | _ u ih=>
  rw [Lib.decDigits]
  split
  ·rename_i h
   rw [nO,nO,aaS _ h,if_pos (by omega)];omega
  ·rename_i h
   have hm:=awr u (show 0<10 by omega)
   rw [Br,ih (u / 10) (by omega),nO,nO,aaS _ hm,if_pos (by omega)]
   omega
theorem Bt:∀(l:By) (acc:Nat),nO acc l<(acc+1)*10^l.length
 | [],acc=>by simp [nO]
 | b::l,acc=>by
  rw [nO]
  have h1:=Bt l (if 48≤b.toNat∧b.toNat≤57 then 10*acc+(b.toNat-48) else acc)
  refine avu h1 ?_
  rw [awp,aw1,awx (10^l.length) 10,← Nat.mul_assoc]
  refine avR _ ?_
  split<;>omega
theorem iA:∀(k u:Nat),u<10^(k+1)→Lib.nDigits u≤k+1
 | 0,u,h=>by rw [Lib.nDigits_small (by simpa using h)];omega
 | k+1,u,h=>by
  by_cases hu:u<10
  ·rw [Lib.nDigits_small hu];omega
  ·rw [aw1] at h
   have:=iA k (u / 10) (by omega)
   rw [Lib.nDigits_big hu];omega
theorem Me {n:Int}(h0:-100000000000000000<n)(h1:n<100000000000000000):oP (Lib.itoa n)=n:=by
 have hp:(10:Nat)^17=100000000000000000:=by decide
 unfold Lib.itoa
 split
 ·rename_i h
  have hl:(Lib.decDigits n.natAbs).length≤17:=by rw [Lib.decDigits_length];exact iA 16 _ (by rw [hp];omega)
  unfold oP
  rw [if_pos (show (45::Lib.decDigits n.natAbs).head?=some 45 from rfl),avQ (by simp;omega),nO]
  have:¬ (48≤(45:UInt8).toNat∧(45:UInt8).toNat≤57):=by decide
  rw [if_neg this,GU];omega
 ·rename_i h
  have hl:(Lib.decDigits n.toNat).length≤17:=by rw [Lib.decDigits_length];exact iA 16 _ (by rw [hp];omega)
  unfold oP
  rw [if_neg,avQ (by omega),GU]
  ·omega
  ·cases hd:Lib.decDigits n.toNat with
   | nil=>simp
   | cons c r=>
    have hc:=iZ n.toNat c (by rw [hd];simp)
    simp
    rintro rfl
    have:(45:UInt8).toNat=45:=rfl
    omega
theorem OX (s:By):-9223372036854775808≤oP s∧oP s<9223372036854775808:=by
 have h:=Bt (s.take 18) 0
 have h2:(s.take 18).length≤18:=by rw [awH];omega
 have h3:=aw3 (n:=10) (by decide) h2
 have e:(10:Nat)^18=1000000000000000000:=by decide
 unfold oP
 split<;>omega
def O4:By:=[102,97,99,116]
def qx:By:=[102,105,108,109]
def jH:By:=[103,97,117,103,101]
def FH:By:=[117,115,101]
def qy:By:=[108,111,97,110]
def P5:By:=[99,111,109,112,97,114,101]
def zY:By:=[109,105,120]
def aU:By:=[119,105,116,104,100,114,97,119]
def kA:By:=[97]
def kB:By:=[98]
def J3 (w:By)(l:List Int):By:=w++(l.map fun n=>32::Lib.itoa n).flatten
theorem xk (w:By):J3 w []=w:=by simp [J3]
theorem Jd (w:By)(l:List Int)(n:Int):J3 w (l ++ [n])=J3 w l++(32::Lib.itoa n):=by simp [J3]
theorem Je (w:By)(n:Int)(l:List Int):J3 w (n::l)=J3 (w++(32::Lib.itoa n)) l:=by simp [J3]
def J7 (r:FR):List Int:=[r.f.room,r.f.no,r.f.known,r.f.kind]
def U7 (r:FR):By:=
 if r.f.kind=1 then J3 qx [r.f.flo,r.f.fhi]
 else if r.f.kind=2 then J3 jH [r.f.gid,r.f.made,r.f.nom,r.f.tlo,r.f.thi,r.f.gn,r.f.gd,r.f.wear]
 else if r.f.kind=3 then J3 FH [r.f.ug,r.f.ud]
 else if r.f.kind=4 then J3 qy [r.f.lg,r.f.ll,r.f.lh,r.f.lw]
 else if r.f.kind=5 then J3 P5 [r.f.cday,r.f.diff,r.f.err,r.f.hlo,r.f.hhi]++J3 (32::kA) r.a++J3 (32::kB) r.b
 else if r.f.kind=6 then J3 zY [r.f.mday]++J3 [] r.l
 else if r.f.kind=7 then J3 aU [r.f.tr,r.f.tn]
 else []
def N9 (r:FR):By:=J3 O4 (J7 r) ++ [10]++U7 r ++ [10]
def bg (l:List Int):List By:=l.map Lib.itoa
def jN (r:FR):By×List By:=
 if r.f.kind=1 then (qx,bg [r.f.flo,r.f.fhi])
 else if r.f.kind=2 then (jH,bg [r.f.gid,r.f.made,r.f.nom,r.f.tlo,r.f.thi,r.f.gn,r.f.gd,r.f.wear])
 else if r.f.kind=3 then (FH,bg [r.f.ug,r.f.ud])
 else if r.f.kind=4 then (qy,bg [r.f.lg,r.f.ll,r.f.lh,r.f.lw])
 else if r.f.kind=5 then (P5,bg [r.f.cday,r.f.diff,r.f.err,r.f.hlo,r.f.hhi]++kA::(bg r.a++kB::bg r.b))
 else if r.f.kind=6 then (zY,bg (r.f.mday::r.l))
 else if r.f.kind=7 then (aU,bg [r.f.tr,r.f.tn])
 else ([],[])
theorem dX (w:By)(l:List Int):J3 w l=w++((bg l).map (32 :: ·)).flatten:=by
 simp only [J3,bg,List.map_map];rfl
theorem oD (r:FR):U7 r=(jN r).1++((jN r).2.map (32 :: ·)).flatten:=by
 unfold U7 jN
 by_cases h1:r.f.kind=1
 ·simp only [if_pos h1,dX]
 by_cases h2:r.f.kind=2
 ·simp only [if_neg h1,if_pos h2,dX]
 by_cases h3:r.f.kind=3
 ·simp only [if_neg h1,if_neg h2,if_pos h3,dX]
 by_cases h4:r.f.kind=4
 ·simp only [if_neg h1,if_neg h2,if_neg h3,if_pos h4,dX]
 by_cases h5:r.f.kind=5
 ·simp only [if_neg h1,if_neg h2,if_neg h3,if_neg h4,if_pos h5,dX]
  simp
 by_cases h6:r.f.kind=6
 ·simp only [if_neg h1,if_neg h2,if_neg h3,if_neg h4,if_neg h5,if_pos h6,dX]
  simp [bg]
 by_cases h7:r.f.kind=7
 ·simp only [if_neg h1,if_neg h2,if_neg h3,if_neg h4,if_neg h5,if_neg h6,if_pos h7,dX]
 simp only [if_neg h1,if_neg h2,if_neg h3,if_neg h4,if_neg h5,if_neg h6,if_neg h7];rfl
theorem bS (l:List Int):∀x∈bg l,Tok x:=fun x hx=>by
 obtain⟨n,_,rfl⟩:=awy.1 hx
 exact OW n
theorem kJ {w:By}(h:(!w.isEmpty&&w.all fun b=>decide (33≤b.toNat)&&decide (b.toNat<127))=true):Tok w:=by
 simp only [avv,awi,decide_eq_true_eq] at h
 exact⟨by rintro rfl;simp at h,h.2⟩
theorem rT:Tok O4:=kJ (by decide)
theorem aaT:Tok kA:=kJ (by decide)
theorem aaU:Tok kB:=kJ (by decide)
def kindOk (r:FR):Prop:=1≤r.f.kind∧r.f.kind≤7
theorem rU {r:FR}(hk:kindOk r):Tok (jN r).1∧∀x∈(jN r).2,Tok x:=by
 unfold jN
 obtain⟨k1,k2⟩:=hk
 by_cases h1:r.f.kind=1
 ·simp only [if_pos h1];exact⟨kJ (by decide),bS _⟩
 by_cases h2:r.f.kind=2
 ·simp only [if_neg h1,if_pos h2];exact⟨kJ (by decide),bS _⟩
 by_cases h3:r.f.kind=3
 ·simp only [if_neg h1,if_neg h2,if_pos h3];exact⟨kJ (by decide),bS _⟩
 by_cases h4:r.f.kind=4
 ·simp only [if_neg h1,if_neg h2,if_neg h3,if_pos h4];exact⟨kJ (by decide),bS _⟩
 by_cases h5:r.f.kind=5
 ·simp only [if_neg h1,if_neg h2,if_neg h3,if_neg h4,if_pos h5]
  refine⟨kJ (by decide),fun x hx=>?_⟩
  rcases avN.1 hx with hx | hx
  ·exact bS _ x hx
  rcases avL.1 hx with rfl | hx
  ·exact aaT
  rcases avN.1 hx with hx | hx
  ·exact bS _ x hx
  rcases avL.1 hx with rfl | hx
  ·exact aaU
  exact bS _ x hx
 by_cases h6:r.f.kind=6
 ·simp only [if_neg h1,if_neg h2,if_neg h3,if_neg h4,if_neg h5,if_pos h6];exact⟨kJ (by decide),bS _⟩
 by_cases h7:r.f.kind=7
 ·simp only [if_neg h1,if_neg h2,if_neg h3,if_neg h4,if_neg h5,if_neg h6,if_pos h7];exact⟨kJ (by decide),bS _⟩
 omega
def OY (r:FR):List By:=O4::bg (J7 r)++(jN r).1::(jN r).2
theorem FI {r:FR}(hk:kindOk r):Lib.fields (N9 r)=OY r:=by
 obtain⟨t1,t2⟩:=rU hk
 have e1:=qw (bg (J7 r)) O4 10 ((jN r).1++((jN r).2.map (32 :: ·)).flatten++10 :: []) rT (bS _) (by decide)
 have e2:=qw (jN r).2 (jN r).1 10 [] t1 t2 (by decide)
 have e:N9 r=O4++((bg (J7 r)).map (32 :: ·)).flatten++10::((jN r).1++((jN r).2.map (32 :: ·)).flatten++10 :: []):=by
  rw [N9,oD,dX];simp
 rw [Lib.fields,e,e1,e2]
 simp [OY,Lib.fieldsGo]
theorem OZ {ws:List By}(h:∀x∈ws,Tok x):∀b∈(ws.map (32 :: ·)).flatten,b.toNat<128∧b≠10:=fun b hb=>by
 obtain⟨l,hl,hbl⟩:=List.mem_flatten.1 hb
 obtain⟨w,hw,rfl⟩:=awy.1 hl
 rcases avL.1 hbl with rfl | hb
 ·decide
 ·have:=(h w hw).2 b hb
  exact⟨by omega,by rintro rfl;exact absurd this.1 (by decide)⟩
theorem DR {w:By}(h:Tok w){c:UInt8}(hc:c.toNat<33):∀b∈w,b≠c:=fun b hb e=>by
 have:=(h.2 b hb).1
 rw [e] at this;omega
theorem Bu {w:By}{ws:List By}(hw:Tok w)(h:∀x∈ws,Tok x):∀b∈w++(ws.map (32 :: ·)).flatten,b.toNat<128∧b≠10:=fun b hb=>by
 rcases avN.1 hb with hb | hb
 ·exact⟨by have:=hw.2 b hb;omega,DR hw (by decide) b hb⟩
 ·exact OZ h b hb
theorem xq (r:FR):J3 O4 (J7 r)=O4++((bg (J7 r)).map (32 :: ·)).flatten:=dX _ _
theorem Jf {r:FR}(hk:kindOk r):∀b∈N9 r,b.toNat<128:=fun b hb=>by
 obtain⟨t1,t2⟩:=rU hk
 rw [N9,oD,xq] at hb
 have h10:(10:UInt8).toNat<128:=by decide
 simp only [avN,W9] at hb
 rcases hb with ((hb | rfl) | hb) | rfl
 ·exact (Bu rT (bS _) b (avN.2 hb)).1
 ·exact h10
 ·exact (Bu t1 t2 b (avN.2 hb)).1
 ·exact h10
theorem zZ {r:FR}(hk:kindOk r):splitB 10 (N9 r)=[J3 O4 (J7 r),U7 r,[]]:=by
 obtain⟨t1,t2⟩:=rU hk
 have:=lZ 10 [U7 r,[]] (J3 O4 (J7 r)) (fun b hb=>by
  rw [xq] at hb
  exact (Bu rT (bS _) b hb).2) (fun x hx b hb=>by
  rcases avL.1 hx with rfl | hx
  ·rw [oD] at hb
   exact (Bu t1 t2 b hb).2
  ·simp at hx;subst hx;simp at hb)
 rw [← this]
 congr 1
 simp [N9]
theorem Jg (r:FR):splitB 32 (J3 O4 (J7 r))=O4::bg (J7 r):=by
 rw [xq]
 exact lZ 32 _ _ (DR rT (by decide)) (fun x hx=>DR (bS _ x hx) (by decide))
theorem Jh {r:FR}(hk:kindOk r):splitB 32 (U7 r)=(jN r).1::(jN r).2:=by
 obtain⟨t1,t2⟩:=rU hk
 rw [oD]
 exact lZ 32 _ _ (DR t1 (by decide)) (fun x hx=>DR (t2 x hx) (by decide))
set_option maxHeartbeats 4000000
def FR.cn (r:FR):FR:=⟨{r.f with A:=.nilSlice,B:=.nilSlice,L:=.nilSlice},r.a,r.b,r.l⟩
abbrev FR.valid (r:FR):Bool:=dB r.f r.a r.b r.l
theorem Pb (f:Fct)(A B L:j5)(a b l:List Int):mI {f with A:=A,B:=B,L:=L} a b l=mI f a b l:=by
 unfold mI DL Q7 Nu oO bR Jt wdB
 rfl
theorem UE {f g f' g':Fct}(h1:{f with A:=.nilSlice,B:=.nilSlice,L:=.nilSlice}=({f' with A:=.nilSlice,B:=.nilSlice,L:=.nilSlice}:Fct))
  (h2:{g with A:=.nilSlice,B:=.nilSlice,L:=.nilSlice}=({g' with A:=.nilSlice,B:=.nilSlice,L:=.nilSlice}:Fct)) (a b l a' b' l':List Int):
  bD f g a b l a' b' l'=bD f' g' a b l a' b' l':=by
 obtain⟨f1,f2,f3,f4,f5,f6,f7,f8,f9,f10,f11,f12,f13,f14,f15,f16,f17,f18,f19,f20,f21,f22,A,B,f23,f24,f25,f26,f27,L,f28,f29⟩:=f
 obtain⟨g1,g2,g3,g4,g5,g6,g7,g8,g9,g10,g11,g12,g13,g14,g15,g16,g17,g18,g19,g20,g21,g22,A',B',g23,g24,g25,g26,g27,L',g28,g29⟩:=g
 obtain⟨p1,p2,p3,p4,p5,p6,p7,p8,p9,p10,p11,p12,p13,p14,p15,p16,p17,p18,p19,p20,p21,p22,A2,B2,p23,p24,p25,p26,p27,L2,p28,p29⟩:=f'
 obtain⟨q1,q2,q3,q4,q5,q6,q7,q8,q9,q10,q11,q12,q13,q14,q15,q16,q17,q18,q19,q20,q21,q22,A3,B3,q23,q24,q25,q26,q27,L3,q28,q29⟩:=g'
 simp only [Fct.mk.injEq,true_and,and_true] at h1 h2
 obtain⟨rfl,rfl,rfl,rfl,rfl,rfl,rfl,rfl,rfl,rfl,rfl,rfl,rfl,rfl,rfl,rfl,rfl,rfl,rfl,rfl,rfl,rfl,rfl,rfl,rfl,rfl,rfl,rfl,rfl⟩:=h1
 obtain⟨rfl,rfl,rfl,rfl,rfl,rfl,rfl,rfl,rfl,rfl,rfl,rfl,rfl,rfl,rfl,rfl,rfl,rfl,rfl,rfl,rfl,rfl,rfl,rfl,rfl,rfl,rfl,rfl,rfl⟩:=h2
 unfold bD bQ tL
 rfl
theorem UF (f:Fct):({M6 {f with A:=.nilSlice,B:=.nilSlice,L:=.nilSlice} with A:=.nilSlice,B:=.nilSlice,L:=.nilSlice}:Fct)={M6 f with A:=.nilSlice,B:=.nilSlice,L:=.nilSlice}:=by
 unfold M6
 simp only
 by_cases h1:f.kind=1
 ·simp only [if_pos h1];rfl
 by_cases h2:f.kind=2
 ·simp only [if_neg h1,if_pos h2];rfl
 by_cases h3:f.kind=3
 ·simp only [if_neg h1,if_neg h2,if_pos h3];rfl
 by_cases h4:f.kind=4
 ·simp only [if_neg h1,if_neg h2,if_neg h3,if_pos h4];rfl
 by_cases h5:f.kind=5
 ·simp only [if_neg h1,if_neg h2,if_neg h3,if_neg h4,if_pos h5];rfl
 by_cases h6:f.kind=6
 ·simp only [if_neg h1,if_neg h2,if_neg h3,if_neg h4,if_neg h5,if_pos h6];rfl
 by_cases h7:f.kind=7
 ·simp only [if_neg h1,if_neg h2,if_neg h3,if_neg h4,if_neg h5,if_neg h6,if_pos h7];rfl
 simp only [if_neg h1,if_neg h2,if_neg h3,if_neg h4,if_neg h5,if_neg h6,if_neg h7];rfl
theorem vG (r:FR):r.cn.valid=r.valid:=by
 show dB _ r.a r.b r.l=dB _ r.a r.b r.l
 unfold dB LW
 refine congr (congrArg _ (show aK _=aK _ from rfl)) (congr (congrArg _ (Pb r.f _ _ _ _ _ _)) ?_)
 exact UE rfl (UF r.f) _ _ _ _ _ _
theorem Bv (r:FR):N9 r.cn=N9 r:=rfl
theorem dY {r:FR}(h:r.valid=true):kindOk r:=by
 simp only [FR.valid,dB,mI,avv] at h
 obtain⟨_,h,_⟩:=h
 unfold kindOk
 by_cases h1:r.f.kind=1
 ·omega
 by_cases h2:r.f.kind=2
 ·omega
 by_cases h3:r.f.kind=3
 ·omega
 by_cases h4:r.f.kind=4
 ·omega
 by_cases h5:r.f.kind=5
 ·omega
 by_cases h6:r.f.kind=6
 ·omega
 by_cases h7:r.f.kind=7
 ·omega
 rw [if_neg h1,if_neg h2,if_neg h3,if_neg h4,if_neg h5,if_neg h6,if_neg h7] at h
 cases h
def Sm (n:Int):Prop:=-1125899906842624≤n∧n≤1125899906842624
theorem FJ {xs:List Int}(h:Q8 (okB xs) xs.length 0=true):∀n∈xs,Sm n:=by
 have key:∀(j i:Nat),Q8 (okB xs) j i=true→∀t,i≤t→t<i+j→okB xs t=true:=by
  intro j
  induction j with
  | zero=>intro i _ t h1 h2;omega
  | succ j ih=>
   intro i h t h1 h2
   simp only [Q8,avv] at h
   by_cases ht:t=i
   ·subst ht;exact h.1
   ·exact ih (i+1) h.2 t (by omega) (by omega)
 intro n hn
 obtain⟨i,hi,rfl⟩:=List.getElem_of_mem hn
 have:=key _ _ h i (by omega) (by omega)
 simp only [okB,avv,decide_eq_true_eq,iy hi] at this
 unfold Sm;omega
theorem jI {r:FR}(h:r.valid=true):∀n∈J7 r,Sm n:=by
 have hk:=dY h
 simp only [FR.valid,dB,aK,avv,decide_eq_true_eq] at h
 unfold kindOk at hk
 intro n hn
 simp only [J7,avL,awV,or_false] at hn
 unfold Sm
 rcases hn with rfl | rfl | rfl | rfl<;>omega
structure aaV (r:FR):Prop where
 k1:r.f.kind=1→Sm r.f.flo∧Sm r.f.fhi
 k2:r.f.kind=2→Sm r.f.gid∧Sm r.f.made∧Sm r.f.nom∧Sm r.f.tlo∧Sm r.f.thi∧Sm r.f.gn∧Sm r.f.gd∧Sm r.f.wear
 k3:r.f.kind=3→Sm r.f.ug∧Sm r.f.ud
 k4:r.f.kind=4→Sm r.f.lg∧Sm r.f.ll∧Sm r.f.lh∧Sm r.f.lw
 k5:r.f.kind=5→(Sm r.f.cday∧Sm r.f.diff∧Sm r.f.err∧Sm r.f.hlo∧Sm r.f.hhi)∧(∀n∈r.a,Sm n)∧(∀n∈r.b,Sm n)∧r.a.length≤6∧r.b.length≤6
 k6:r.f.kind=6→Sm r.f.mday∧(∀n∈r.l,Sm n)∧r.l.length≤5
 k7:r.f.kind=7→Sm r.f.tr∧Sm r.f.tn
theorem dh {r:FR}(h:r.valid=true):aaV r:=by
 simp only [FR.valid,dB,mI,avv] at h
 obtain⟨_,h,_⟩:=h
 refine⟨fun hk=>?_,fun hk=>?_,fun hk=>?_,fun hk=>?_,fun hk=>?_,fun hk=>?_,fun hk=>?_⟩
 ·rw [if_pos hk] at h
  simp only [DL,avv,decide_eq_true_eq] at h
  unfold Sm;omega
 ·rw [if_neg (by omega),if_pos hk] at h
  simp only [Q7,Ja,avv,decide_eq_true_eq] at h
  unfold Sm;omega
 ·rw [if_neg (by omega),if_neg (by omega),if_pos hk] at h
  simp only [Nu,avv,decide_eq_true_eq] at h
  unfold Sm;omega
 ·rw [if_neg (by omega),if_neg (by omega),if_neg (by omega),if_pos hk] at h
  simp only [oO,avv,decide_eq_true_eq] at h
  unfold Sm;omega
 ·rw [if_neg (by omega),if_neg (by omega),if_neg (by omega),if_neg (by omega),if_pos hk] at h
  simp only [bR,qo,avv,decide_eq_true_eq] at h
  obtain⟨q1,q2,q3,q4,q5,⟨q6,q7⟩,q8,q9⟩:=h
  exact⟨by unfold Sm;omega,FJ q6,FJ q8,q7,q9⟩
 ·rw [if_neg (by omega),if_neg (by omega),if_neg (by omega),if_neg (by omega),if_neg (by omega),if_pos hk] at h
  simp only [Jt,avv,decide_eq_true_eq] at h
  obtain⟨q1,q2,q3,q4⟩:=h
  exact⟨by unfold Sm;omega,FJ q1,q4⟩
 ·rw [if_neg (by omega),if_neg (by omega),if_neg (by omega),if_neg (by omega),if_neg (by omega),if_neg (by omega),if_pos hk] at h
  simp only [wdB,avv,decide_eq_true_eq] at h
  unfold Sm;omega
def mh (r:FR):FR:=⟨M6 r.f,if r.f.kind=5 then r.a else [],if r.f.kind=5 then r.b else [],if r.f.kind=6 then r.l else []⟩
theorem UG {f g:Fct}(h:bQ f g=true)(hc:f.cid=g.cid∧f.cday=g.cday∧f.diff=g.diff∧f.err=g.err∧f.hlo=g.hlo∧f.hhi=g.hhi)(hm:f.mday=g.mday):
  ({f with A:=.nilSlice,B:=.nilSlice,L:=.nilSlice}:Fct)={g with A:=.nilSlice,B:=.nilSlice,L:=.nilSlice}:=by
 obtain⟨f1,f2,f3,f4,f5,f6,f7,f8,f9,f10,f11,f12,f13,f14,f15,f16,f17,f18,f19,f20,f21,f22,A,B,f23,f24,f25,f26,f27,L,f28,f29⟩:=f
 obtain⟨g1,g2,g3,g4,g5,g6,g7,g8,g9,g10,g11,g12,g13,g14,g15,g16,g17,g18,g19,g20,g21,g22,A',B',g23,g24,g25,g26,g27,L',g28,g29⟩:=g
 simp only [bQ,avv,decide_eq_true_eq] at h
 obtain⟨⟨rfl,rfl⟩,rfl,rfl,⟨rfl,rfl⟩,⟨rfl,rfl,rfl,rfl,rfl,rfl,rfl,rfl⟩,⟨rfl,rfl⟩,⟨rfl,rfl,rfl,rfl⟩,rfl,rfl⟩:=h
 obtain⟨rfl,rfl,rfl,rfl,rfl,rfl⟩:=hc
 obtain rfl:=hm
 rfl
theorem Mf {r s:FR}:bD r.f s.f r.a r.b r.l s.a s.b s.l=true↔r.cn=s.cn:=by
 constructor
 ·intro h
  simp only [bD,tL,avv,decide_eq_true_eq] at h
  obtain⟨h1,⟨c1,c2,c3,c4,c5,c6,c7,c8⟩,h3,h4⟩:=h
  unfold FR.cn
  rw [UG h1 ⟨c1,c2,c3,c4,c5,c6⟩ h3,c7,c8,h4]
 ·intro h
  have e1:r.cn.f=s.cn.f:=by rw [h]
  have e2:r.a=s.a:=by have:r.cn.a=s.cn.a:=by rw [h]
                      exact this
  have e3:r.b=s.b:=by have:r.cn.b=s.cn.b:=by rw [h]
                      exact this
  have e4:r.l=s.l:=by have:r.cn.l=s.cn.l:=by rw [h]
                      exact this
  obtain⟨f,a,b,l⟩:=r
  obtain⟨g,a',b',l'⟩:=s
  obtain⟨f1,f2,f3,f4,f5,f6,f7,f8,f9,f10,f11,f12,f13,f14,f15,f16,f17,f18,f19,f20,f21,f22,A,B,f23,f24,f25,f26,f27,L,f28,f29⟩:=f
  obtain⟨g1,g2,g3,g4,g5,g6,g7,g8,g9,g10,g11,g12,g13,g14,g15,g16,g17,g18,g19,g20,g21,g22,A',B',g23,g24,g25,g26,g27,L',g28,g29⟩:=g
  simp only [FR.cn,Fct.mk.injEq,true_and,and_true] at e1
  simp only at e2 e3 e4
  subst e2 e3 e4
  obtain⟨rfl,rfl,rfl,rfl,rfl,rfl,rfl,rfl,rfl,rfl,rfl,rfl,rfl,rfl,rfl,rfl,rfl,rfl,rfl,rfl,rfl,rfl,rfl,rfl,rfl,rfl,rfl,rfl,rfl⟩:=e1
  simp [bD,bQ,tL]
theorem tO {r:FR}(h:r.valid=true):r.cn=(mh r).cn:=by
 simp only [FR.valid,dB,LW,avv] at h
 exact Mf.1 h.2.2
def Mg (w:By):Option Int:=match Lib.atoiAll w with
 | .ok v=>some v
 | _=>none
theorem DT {n:Int}(h:Sm n):Mg (Lib.itoa n)=some n:=by
 unfold Sm at h
 rw [Mg,Md (by omega) (by omega)]
def pN {α:Type}:List By→(Int→List By→Option α)→Option α
 | [],_=>none
 | w::ws,k=>(Mg w).bind fun v=>k v ws
def pW {α:Type}(s:By):List By→(List By→Option α)→Option α
 | [],_=>none
 | w::ws,k=>if w=s then k ws else none
def pNs (e:By):List By→Option (List Int×List By)
 | []=>some ([],[])
 | w::ws=>if w=e then some ([],w::ws) else (Mg w).bind fun v=>(pNs e ws).bind fun p=>some (v::p.1,p.2)
def zF (room no known kind:Int):Fct:=M0 ⟨room,no,known,kind,0,0,0,0,0,0,0,0,0,0,0,0,0,0,0,0,0,0,.nilSlice,.nilSlice,0,0,0,0,0,.nilSlice,0,0⟩
def parseBody (h:Fct)(ws:List By):Option FR:=
 if h.kind=1 then pW qx ws fun ws=>pN ws fun lo ws=>pN ws fun hi ws=>some ⟨{h with flo:=lo,fhi:=hi},[],[],[]⟩
 else if h.kind=2 then pW jH ws fun ws=>pN ws fun gid ws=>pN ws fun made ws=>pN ws fun nom ws=>pN ws fun tlo ws=>pN ws fun thi ws=>pN ws fun gn ws=>pN ws fun gd ws=>pN ws fun wear ws=>
  some ⟨{h with gid:=gid,made:=made,nom:=nom,tlo:=tlo,thi:=thi,gn:=gn,gd:=gd,wear:=wear},[],[],[]⟩
 else if h.kind=3 then pW FH ws fun ws=>pN ws fun ug ws=>pN ws fun ud ws=>some ⟨{h with ug:=ug,ud:=ud},[],[],[]⟩
 else if h.kind=4 then pW qy ws fun ws=>pN ws fun lg ws=>pN ws fun ll ws=>pN ws fun lh ws=>pN ws fun lw ws=>some ⟨{h with lg:=lg,ll:=ll,lh:=lh,lw:=lw},[],[],[]⟩
 else if h.kind=5 then pW P5 ws fun ws=>pN ws fun cday ws=>pN ws fun diff ws=>pN ws fun err ws=>pN ws fun hlo ws=>pN ws fun hhi ws=>pW kA ws fun ws=>(pNs kB ws).bind fun p=>pW kB p.2 fun ws=>(pNs [] ws).bind fun q=>
  some ⟨{h with cday:=cday,diff:=diff,err:=err,hlo:=hlo,hhi:=hhi},p.1,q.1,[]⟩
 else if h.kind=6 then pW zY ws fun ws=>pN ws fun mday ws=>(pNs [] ws).bind fun p=>some ⟨{h with mday:=mday},[],[],p.1⟩
 else if h.kind=7 then pW aU ws fun ws=>pN ws fun tr ws=>pN ws fun tn ws=>some ⟨{h with tr:=tr,tn:=tn},[],[],[]⟩
 else none
def parse (ws:List By):Option FR:=
 pW O4 ws fun ws=>pN ws fun room ws=>pN ws fun no ws=>pN ws fun known ws=>pN ws fun kind ws=>parseBody (zF room no known kind) ws
theorem jJ {α:Type}(s:By)(ws:List By)(k:List By→Option α):pW s (s::ws) k=k ws:=by rw [pW,if_pos rfl]
theorem au {α:Type}{n:Int}(h:Sm n)(ws:List By)(k:Int→List By→Option α):pN (Lib.itoa n::ws) k=k n ws:=by rw [pN,DT h];rfl
theorem xu {e:By}(he:∀n:Int,Lib.itoa n≠e):∀(l:List Int) (t:List By),(∀n∈l,Sm n)→(t=[]∨∃u,t=e::u)→pNs e (bg l++t)=some (l,t)
 | [],t,_,ht=>by
  rcases ht with rfl | ⟨u,rfl⟩
  ·rfl
  ·show pNs e (e::u)=_
   rw [pNs,if_pos rfl]
 | n::l,t,hl,ht=>by
  show pNs e (Lib.itoa n::(bg l++t))=_
  rw [pNs,if_neg (he n),DT (hl n (by simp)),xu he l t (fun x hx=>hl x (by simp [hx])) ht];rfl
theorem Bw (n:Int):Lib.itoa n≠kB:=fun h=>by
 have:=Bq n 98 (by rw [h];decide)
 exact absurd this.2 (by decide)
theorem kg (r:FR):(mh r).cn=⟨{M6 r.f with A:=.nilSlice,B:=.nilSlice,L:=.nilSlice},(mh r).a,(mh r).b,(mh r).l⟩:=rfl
theorem Ji {r:FR}(h:r.valid=true):parse (OY r)=some r.cn:=by
 have hs:=jI h
 have hb:=dh h
 have hk:=dY h
 obtain⟨k1,k2⟩:=hk
 simp only [J7,avL,awV,or_false,forall_eq_or_imp,forall_eq] at hs
 obtain⟨s1,s2,s3,s4⟩:=hs
 have e0:parse (OY r)=parseBody (zF r.f.room r.f.no r.f.known r.f.kind) ((jN r).1::(jN r).2):=by
  show parse (O4::Lib.itoa r.f.room::Lib.itoa r.f.no::Lib.itoa r.f.known::Lib.itoa r.f.kind::((jN r).1::(jN r).2))=_
  rw [parse,jJ,au s1,au s2,au s3,au s4]
 rw [e0,tO h]
 have ek:(zF r.f.room r.f.no r.f.known r.f.kind).kind=r.f.kind:=rfl
 unfold parseBody jN
 rw [ek]
 have nA:=xu (e:=kB) Bw
 have n0:=xu (e:=[]) Mc
 by_cases h1:r.f.kind=1
 ·obtain⟨q1,q2⟩:=hb.k1 h1
  simp only [if_pos h1]
  show pW qx (qx::Lib.itoa r.f.flo::Lib.itoa r.f.fhi :: []) _=_
  rw [jJ,au q1,au q2,kg]
  simp [mh,M6,h1,M0,zF]
 by_cases h2:r.f.kind=2
 ·obtain⟨q1,q2,q3,q4,q5,q6,q7,q8⟩:=hb.k2 h2
  simp only [if_neg h1,if_pos h2]
  show pW jH (jH::Lib.itoa r.f.gid::Lib.itoa r.f.made::Lib.itoa r.f.nom::Lib.itoa r.f.tlo::Lib.itoa r.f.thi::Lib.itoa r.f.gn::Lib.itoa r.f.gd::Lib.itoa r.f.wear :: []) _=_
  rw [jJ,au q1,au q2,au q3,au q4,au q5,au q6,au q7,au q8,kg]
  simp [mh,M6,h2,M0,zF]
 by_cases h3:r.f.kind=3
 ·obtain⟨q1,q2⟩:=hb.k3 h3
  simp only [if_neg h1,if_neg h2,if_pos h3]
  show pW FH (FH::Lib.itoa r.f.ug::Lib.itoa r.f.ud :: []) _=_
  rw [jJ,au q1,au q2,kg]
  simp [mh,M6,h3,M0,zF]
 by_cases h4:r.f.kind=4
 ·obtain⟨q1,q2,q3,q4⟩:=hb.k4 h4
  simp only [if_neg h1,if_neg h2,if_neg h3,if_pos h4]
  show pW qy (qy::Lib.itoa r.f.lg::Lib.itoa r.f.ll::Lib.itoa r.f.lh::Lib.itoa r.f.lw :: []) _=_
  rw [jJ,au q1,au q2,au q3,au q4,kg]
  simp [mh,M6,h4,M0,zF]
 by_cases h5:r.f.kind=5
 ·obtain⟨⟨q1,q2,q3,q4,q5⟩,qa,qb,_,_⟩:=hb.k5 h5
  have hcid:r.f.cid=0:=by
   have hv:=h
   simp only [FR.valid,dB,mI,avv] at hv
   obtain⟨_,hv,_⟩:=hv
   rw [if_neg h1,if_neg h2,if_neg h3,if_neg h4,if_pos h5] at hv
   simp only [bR,avv,decide_eq_true_eq] at hv
   exact hv.1
  simp only [if_neg h1,if_neg h2,if_neg h3,if_neg h4,if_pos h5]
  show pW P5 (P5::Lib.itoa r.f.cday::Lib.itoa r.f.diff::Lib.itoa r.f.err::Lib.itoa r.f.hlo::Lib.itoa r.f.hhi::kA::(bg r.a++kB::bg r.b)) _=_
  rw [jJ,au q1,au q2,au q3,au q4,au q5,jJ,nA r.a _ qa (.inr ⟨_,rfl⟩),avK,jJ]
  have:=n0 r.b [] qb (.inl rfl)
  rw [awo] at this
  rw [this,avK,kg]
  simp [mh,M6,h5,M0,zF,hcid]
 by_cases h6:r.f.kind=6
 ·obtain⟨q1,ql,_⟩:=hb.k6 h6
  simp only [if_neg h1,if_neg h2,if_neg h3,if_neg h4,if_neg h5,if_pos h6]
  show pW zY (zY::Lib.itoa r.f.mday::bg r.l) _=_
  have:=n0 r.l [] ql (.inl rfl)
  rw [awo] at this
  rw [jJ,au q1,this,avK,kg]
  simp [mh,M6,h6,M0,zF]
 by_cases h7:r.f.kind=7
 ·obtain⟨q1,q2⟩:=hb.k7 h7
  simp only [if_neg h1,if_neg h2,if_neg h3,if_neg h4,if_neg h5,if_neg h6,if_pos h7]
  show pW aU (aU::Lib.itoa r.f.tr::Lib.itoa r.f.tn :: []) _=_
  rw [jJ,au q1,au q2,kg]
  simp [mh,M6,h7,M0,zF]
 omega
def iB (text:By)(r:FR):Prop:=r.valid=true∧N9 r=text
theorem mo {text:By}{r:FR}(h:iB text r):parse (Lib.fieldsD text)=some r.cn:=by
 obtain⟨h1,rfl⟩:=h
 have hk:=dY h1
 rw [Lib.fieldsD_ascii _ (Jf hk),FI hk,Ji h1]
theorem Jj {text:By}{r s:FR}(h:iB text r)(k:iB text s):r.cn=s.cn:=by
 have:=(mo h).symm.trans (mo k)
 exact avA this
def DU (many:Nat)(l:List Int):List Int:=l++List.replicate (many-l.length) 0
def dD (w:List By)(many:Nat):List Int:=DU many ((w.drop 1).map oP)
def X9:Nat→List By→List Int×List Int
 | _,[]=>([],[])
 | k,w::ws=>if w=kA then X9 1 ws else if w=kB then X9 2 ws
  else if k=1 then (oP w::(X9 k ws).1,(X9 k ws).2) else if k=2 then ((X9 k ws).1,oP w::(X9 k ws).2) else X9 k ws
def zf (h:Fct)(n:List Int)(w:List By):FR:=
 if h.kind=1 then ⟨{h with flo:=n.getD 0 0,fhi:=n.getD 1 0},[],[],[]⟩
 else if h.kind=2 then ⟨{h with gid:=n.getD 0 0,made:=n.getD 1 0,nom:=n.getD 2 0,tlo:=n.getD 3 0,thi:=n.getD 4 0,gn:=n.getD 5 0,gd:=n.getD 6 0,wear:=n.getD 7 0},[],[],[]⟩
 else if h.kind=3 then ⟨{h with ug:=n.getD 0 0,ud:=n.getD 1 0},[],[],[]⟩
 else if h.kind=4 then ⟨{h with lg:=n.getD 0 0,ll:=n.getD 1 0,lh:=n.getD 2 0,lw:=n.getD 3 0},[],[],[]⟩
 else if h.kind=5 then ⟨{h with cday:=n.getD 0 0,diff:=n.getD 1 0,err:=n.getD 2 0,hlo:=n.getD 3 0,hhi:=n.getD 4 0},(X9 0 w).1,(X9 0 w).2,[]⟩
 else if h.kind=6 then ⟨{h with mday:=n.getD 0 0},[],[],(dD w 0).drop (min (w.length-1) 1)⟩
 else if h.kind=7 then ⟨{h with tr:=n.getD 0 0,tn:=n.getD 1 0},[],[],[]⟩
 else ⟨h,[],[],[]⟩
def xw (l0:By):Fct:=zF ((dD (splitB 32 l0) 4).getD 0 0) ((dD (splitB 32 l0) 4).getD 1 0) ((dD (splitB 32 l0) 4).getD 2 0) ((dD (splitB 32 l0) 4).getD 3 0)
def mq (l0 l1:By):FR:=zf (xw l0) (dD (splitB 32 l1) 8) (splitB 32 l1)
theorem FK {n:Int}(h:Sm n):oP (Lib.itoa n)=n:=by
 unfold Sm at h
 exact Me (by omega) (by omega)
theorem tQ:∀(l:List Int),(∀n∈l,Sm n)→(bg l).map oP=l
 | [],_=>rfl
 | n::l,h=>by
  show oP (Lib.itoa n)::(bg l).map oP=_
  rw [FK (h n (by simp)),tQ l (fun x hx=>h x (by simp [hx]))]
theorem dM (w:By)(l:List Int)(many:Nat)(h:∀n∈l,Sm n):dD (w::bg l) many=DU many l:=by
 rw [dD,List.drop_succ_cons,awh,tQ l h]
theorem FL (n:Int):Lib.itoa n≠kA:=fun h=>by
 have:=Bq n 97 (by rw [h];decide)
 exact absurd this.2 (by decide)
theorem Mh:∀(l:List Int) (t:List By),(∀n∈l,Sm n)→X9 1 (bg l++t)=(l++(X9 1 t).1,(X9 1 t).2)
 | [],t,_=>rfl
 | n::l,t,h=>by
  show X9 1 (Lib.itoa n::(bg l++t))=_
  rw [X9,if_neg (FL n),if_neg (Bw n),if_pos rfl,FK (h n (by simp)),Mh l t (fun x hx=>h x (by simp [hx]))];rfl
theorem Mi:∀(l:List Int),(∀n∈l,Sm n)→X9 2 (bg l)=([],l)
 | [],_=>rfl
 | n::l,h=>by
  show X9 2 (Lib.itoa n::bg l)=_
  rw [X9,if_neg (FL n),if_neg (Bw n),if_neg (by omega),if_pos rfl,FK (h n (by simp)),Mi l (fun x hx=>h x (by simp [hx]))]
theorem Mj:∀(l:List Int) (t:List By),X9 0 (bg l++t)=X9 0 t
 | [],t=>rfl
 | n::l,t=>by
  show X9 0 (Lib.itoa n::(bg l++t))=_
  rw [X9,if_neg (FL n),if_neg (Bw n),if_neg (by omega),if_neg (by omega),Mj l t]
theorem Jk {r:FR}(h:r.valid=true):mq (J3 O4 (J7 r)) (U7 r)=r.cn:=by
 have hs:=jI h
 have hb:=dh h
 have hk:=dY h
 have e0:xw (J3 O4 (J7 r))=zF r.f.room r.f.no r.f.known r.f.kind:=by
  unfold xw
  rw [Jg,dM _ _ _ hs];rfl
 have ek:(zF r.f.room r.f.no r.f.known r.f.kind).kind=r.f.kind:=rfl
 rw [mq,e0,Jh hk,tO h,kg]
 obtain⟨k1,k2⟩:=hk
 unfold zf jN
 rw [ek]
 by_cases h1:r.f.kind=1
 ·simp only [if_pos h1]
  rw [dM _ _ _ (by simpa using hb.k1 h1)]
  simp [mh,M6,h1,M0,zF,DU]
 by_cases h2:r.f.kind=2
 ·simp only [if_neg h1,if_pos h2]
  rw [dM _ _ _ (by simpa using hb.k2 h2)]
  simp [mh,M6,h2,M0,zF,DU]
 by_cases h3:r.f.kind=3
 ·simp only [if_neg h1,if_neg h2,if_pos h3]
  rw [dM _ _ _ (by simpa using hb.k3 h3)]
  simp [mh,M6,h3,M0,zF,DU]
 by_cases h4:r.f.kind=4
 ·simp only [if_neg h1,if_neg h2,if_neg h3,if_pos h4]
  rw [dM _ _ _ (by simpa using hb.k4 h4)]
  simp [mh,M6,h4,M0,zF,DU]
 by_cases h5:r.f.kind=5
 ·obtain⟨q,qa,qb,_,_⟩:=hb.k5 h5
  have hcid:r.f.cid=0:=by
   have hv:=h
   simp only [FR.valid,dB,mI,avv] at hv
   obtain⟨_,hv,_⟩:=hv
   rw [if_neg h1,if_neg h2,if_neg h3,if_neg h4,if_pos h5] at hv
   simp only [bR,avv,decide_eq_true_eq] at hv
   exact hv.1
  simp only [if_neg h1,if_neg h2,if_neg h3,if_neg h4,if_pos h5]
  have eN:∃t,dD (P5::(bg [r.f.cday,r.f.diff,r.f.err,r.f.hlo,r.f.hhi]++kA::(bg r.a++kB::bg r.b))) 8=r.f.cday::r.f.diff::r.f.err::r.f.hlo::r.f.hhi::t:=by
   obtain⟨q1,q2,q3,q4,q5⟩:=q
   refine⟨(kA::(bg r.a++kB::bg r.b)).map oP++List.replicate (8-((bg [r.f.cday,r.f.diff,r.f.err,r.f.hlo,r.f.hhi]++kA::(bg r.a++kB::bg r.b)).map oP).length) 0,?_⟩
   rw [dD,DU,List.drop_succ_cons,awh,awN,tQ [r.f.cday,r.f.diff,r.f.err,r.f.hlo,r.f.hhi] (by simp;exact⟨q1,q2,q3,q4,q5⟩)]
   rfl
  obtain⟨t,eN⟩:=eN
  have eP:X9 0 (P5::(bg [r.f.cday,r.f.diff,r.f.err,r.f.hlo,r.f.hhi]++kA::(bg r.a++kB::bg r.b)))=(r.a,r.b):=by
   rw [X9,if_neg (by decide),if_neg (by decide),if_neg (by omega),if_neg (by omega),Mj,X9,if_pos rfl,Mh _ _ qa,X9,if_neg (by decide),if_pos rfl,Mi _ qb]
   simp
  rw [eN,eP]
  simp [mh,M6,h5,M0,zF,hcid]
 by_cases h6:r.f.kind=6
 ·obtain⟨q1,ql,_⟩:=hb.k6 h6
  have qq:∀n∈r.f.mday::r.l,Sm n:=fun n hn=>by
   rcases avL.1 hn with rfl | hn
   ·exact q1
   ·exact ql n hn
  simp only [if_neg h1,if_neg h2,if_neg h3,if_neg h4,if_neg h5,if_pos h6]
  rw [dM _ _ _ qq,dM _ _ _ qq]
  simp [mh,M6,h6,M0,zF,DU,bg]
 by_cases h7:r.f.kind=7
 ·simp only [if_neg h1,if_neg h2,if_neg h3,if_neg h4,if_neg h5,if_neg h6,if_pos h7]
  rw [dM _ _ _ (by simpa using hb.k7 h7)]
  simp [mh,M6,h7,M0,zF,DU]
 omega
def nP:By:=[114,101,99,111,114,100]
def Pd (n:Nat):By→Nat
 | []=>n
 | b::l=>Pd ((31*n+b.toNat+1)%2147483647) l
def Bz (s:By):Nat:=Pd 0 s
theorem DV:∀(l:By) (n:Nat) (b:UInt8),Pd n (l ++ [b])=(31*Pd n l+b.toNat+1)%2147483647
 | [],n,b=>rfl
 | c::l,n,b=>by
  show Pd n (c::(l ++ [b]))=_
  rw [Pd,DV l,Pd]
theorem Ml:∀(l:By) (n:Nat),n<2147483647→Pd n l<2147483647
 | [],n,h=>h
 | c::l,n,h=>by rw [Pd];exact Ml l _ (awr _ (by omega))
theorem BA (s:By):Bz s<2147483647:=Ml s 0 (by omega)
theorem DW {s:By}{i:Nat}(h:i<s.length):Bz (s.take (i+1))=(31*Bz (s.take i)+(s[i]).toNat+1)%2147483647:=by
 rw [awd h]
 exact DV _ _ _
def rV:Nat→By→List By
 | 0,_=>[]
 | k+1,s=>if s=[] then [] else s.take 64::rV k (s.drop 64)
def chunks (s:By):List By:=rV s.length s
theorem xA:∀(k j:Nat) (s:By),s.length≤k→s.length≤j→rV k s=rV j s
 | 0,j,s,hk,hj=>by
  obtain rfl:=avW.1 (show s.length=0 by omega)
  cases j<;>simp [rV]
 | k+1,0,s,hk,hj=>by
  obtain rfl:=avW.1 (show s.length=0 by omega)
  simp [rV]
 | k+1,j+1,s,hk,hj=>by
  rw [rV,rV]
  by_cases h:s=[]
  ·rw [if_pos h,if_pos h]
  ·have hp:=aws.2 h
   rw [if_neg h,if_neg h,xA k j (s.drop 64) (by simp;omega) (by simp;omega)]
theorem qz {s:By}(h:s≠[]):chunks s=s.take 64::chunks (s.drop 64):=by
 obtain⟨k,hk⟩:∃k,s.length=k+1:=⟨s.length-1,by have:=aws.2 h;omega⟩
 rw [chunks,hk,rV,if_neg h,chunks,xA k (s.drop 64).length _ (by simp;omega) (D5 _)]
theorem ji:chunks []=[]:=rfl
theorem oF:∀(n:Nat) (s:By),s.length≤n→(chunks s).length≤s.length
 | 0,s,h=>by
  obtain rfl:=avW.1 (show s.length=0 by omega)
  simp [ji]
 | n+1,s,h=>by
  by_cases hs:s=[]
  ·subst hs;simp [ji]
  ·have hp:=aws.2 hs
   rw [qz hs]
   have:=oF n (s.drop 64) (by simp;omega)
   simp at this ⊢;omega
def afa (n:Int)(s:By):List By:=J3 nP [n,((chunks s).length:Int),(s.length:Int),(Bz s:Int)]::chunks s
end Go.Proofs.YtfnlnpllpfhhnaaGreatDoor.TT
namespace Go.Proofs.YtfnlnpllpfhhnaaGreatDoor.TT
open Go Go.AM
theorem mD:∀(f:Nat) (cur l:By),((Lib.fieldsGoD f cur l).map List.length).sum≤cur.length+l.length∧∀w∈Lib.fieldsGoD f cur l,w≠[]
 | 0,cur,l=>by
  rw [Lib.fieldsGoD]
  split
  ·simp
  ·rename_i h;simp;exact h
 | f+1,cur,l=>by
  rw [Lib.fieldsGoD]
  split
  ·split
   ·simp
   ·rename_i h;simp;exact h
  ·split
   ·obtain⟨h1,h2⟩:=mD f [] (l.drop (Lib.decodeL l).2)
    simp only [aw8,avS,awT] at h1
    split
    ·simp only [avT]
     exact⟨by omega,h2⟩
    ·rename_i h
     refine⟨by simp;omega,fun w hw=>?_⟩
     rcases avL.1 (by simpa using hw) with rfl | hw
     ·exact h
     ·exact h2 w hw
   ·obtain⟨h1,h2⟩:=mD f (cur++l.take (Lib.decodeL l).2) (l.drop (Lib.decodeL l).2)
    simp only [awk,awH,awT] at h1
    exact⟨by omega,h2⟩
theorem Mq:∀(ws:List By),(∀w∈ws,w≠[])→ws.length≤(ws.map List.length).sum∧∀w∈ws,w.length≤(ws.map List.length).sum
 | [],_=>⟨by simp,by simp⟩
 | w::ws,h=>by
  obtain⟨h1,h2⟩:=Mq ws (fun x hx=>h x (by simp [hx]))
  have h0:=aws.2 (h w (by simp))
  refine⟨by simp;omega,fun x hx=>?_⟩
  rcases avL.1 hx with rfl | hx
  ·simp
  ·have:=h2 x hx;simp;omega
theorem FM (s:By):(Lib.fieldsD s).length≤s.length∧∀w∈Lib.fieldsD s,w.length≤s.length:=by
 obtain⟨h1,h2⟩:=mD (s.length+1) [] s
 obtain⟨h3,h4⟩:=Mq _ h2
 simp only [aw8,avS] at h1
 exact⟨avz h3 h1,fun w hw=>avz (h4 w hw) h1⟩
theorem BD {n:Int}(h:Sm n):(Lib.itoa n).length≤17:=by
 have hp:(10:Nat)^16=10000000000000000:=by decide
 unfold Sm at h
 unfold Lib.itoa
 split
 ·have:=iA 15 n.natAbs (by rw [hp];omega)
  rw [awp,Lib.decDigits_length];omega
 ·have:=iA 15 n.toNat (by rw [hp];omega)
  rw [Lib.decDigits_length];omega
theorem U8 (w:By):∀(l:List Int),(∀n∈l,Sm n)→(J3 w l).length≤w.length+18*l.length
 | [],_=>by rw [xk];simp
 | n::l,h=>by
  rw [Je]
  have h1:=U8 (w++32::Lib.itoa n) l (fun x hx=>h x (by simp [hx]))
  have h2:=BD (h n (by simp))
  simp at h1 ⊢;omega
theorem gI {r:FR}(h:r.valid=true):(U7 r).length≤400:=by
 have hb:=dh h
 have hk:=dY h
 obtain⟨k1,k2⟩:=hk
 unfold U7
 by_cases h1:r.f.kind=1
 ·rw [if_pos h1]
  have:=U8 qx [r.f.flo,r.f.fhi] (by simpa using hb.k1 h1)
  simp [qx] at this ⊢;omega
 by_cases h2:r.f.kind=2
 ·rw [if_neg h1,if_pos h2]
  have:=U8 jH [r.f.gid,r.f.made,r.f.nom,r.f.tlo,r.f.thi,r.f.gn,r.f.gd,r.f.wear] (by simpa using hb.k2 h2)
  simp [jH] at this ⊢;omega
 by_cases h3:r.f.kind=3
 ·rw [if_neg h1,if_neg h2,if_pos h3]
  have:=U8 FH [r.f.ug,r.f.ud] (by simpa using hb.k3 h3)
  simp [FH] at this ⊢;omega
 by_cases h4:r.f.kind=4
 ·rw [if_neg h1,if_neg h2,if_neg h3,if_pos h4]
  have:=U8 qy [r.f.lg,r.f.ll,r.f.lh,r.f.lw] (by simpa using hb.k4 h4)
  simp [qy] at this ⊢;omega
 by_cases h5:r.f.kind=5
 ·rw [if_neg h1,if_neg h2,if_neg h3,if_neg h4,if_pos h5]
  obtain⟨q,qa,qb,la,lb⟩:=hb.k5 h5
  have e1:=U8 P5 [r.f.cday,r.f.diff,r.f.err,r.f.hlo,r.f.hhi] (by simpa using q)
  have e2:=U8 (32::kA) r.a qa
  have e3:=U8 (32::kB) r.b qb
  simp [P5,kA,kB] at e1 e2 e3 ⊢;omega
 by_cases h6:r.f.kind=6
 ·rw [if_neg h1,if_neg h2,if_neg h3,if_neg h4,if_neg h5,if_pos h6]
  obtain⟨q,ql,ll⟩:=hb.k6 h6
  have e1:=U8 zY [r.f.mday] (by simpa using q)
  have e2:=U8 [] r.l ql
  simp [zY] at e1 e2 ⊢;omega
 by_cases h7:r.f.kind=7
 ·rw [if_neg h1,if_neg h2,if_neg h3,if_neg h4,if_neg h5,if_neg h6,if_pos h7]
  have:=U8 aU [r.f.tr,r.f.tn] (by simpa using hb.k7 h7)
  simp [aU] at this ⊢;omega
 omega
theorem eH {r:FR}(h:r.valid=true):(J3 O4 (J7 r)).length≤76:=by
 have:=U8 O4 (J7 r) (jI h)
 simp [O4,J7] at this ⊢;omega
theorem xB {r:FR}(h:r.valid=true):(N9 r).length≤478:=by
 have h1:=eH h
 have h2:=gI h
 simp [N9] at h1 ⊢;omega
set_option maxRecDepth 100000
set_option maxHeartbeats 4000000
abbrev UN:j5:=.iface 95 (.agg [])
theorem tT {M:Mem}{id off:Nat}{c:List j5}(hM:M.Ok)(hid:id<M.next)(hl:M.lim≤id)(hg:M.get id=some (A9 c))(ho:off<c.length){v:j5}(h1:J5 v=true):
  ∃N,(∀{β:Type} (k:Mem→Option β),storeAt M id off [v] k=k N)∧N.get id=some (A9 (c.set off v))∧kL id M N:=by
 refine⟨M.set id (A9 (c.set off v)),fun k=>?_,by rw [Mem.ay hM hid,if_pos rfl],Mem.Ok.set hM hid _,by simp,rfl,fun j hj hn=>by rw [Mem.ay hM hid,if_neg hn]⟩
 have ha:O7 [v]=true:=by show bi (J5 v) true false=true;rw [h1];rfl
 rw [aW hl ha,hg,o8 (by simp;omega) ho,O0]
 congr 2
 rw [List.set_eq_take_append_cons_drop,if_pos ho]
 rfl
def WS (lo:Nat)(m:Mem)(p:Nat)(ws:List By):Prop:=p<lo∧∃v,m.get p=some (A9 [v])∧Ej m v (strs ws)∧∀i o l c,v=.slice i o l c→i<lo
theorem WS.mono {lo lo':Nat}{m:Mem}{p:Nat}{ws:List By}(h:WS lo m p ws)(hl:lo≤lo'):WS lo' m p ws:=by
 obtain⟨h1,v,h2,h3,h4⟩:=h
 exact⟨by omega,v,h2,h3,fun i o l c hv=>by have:=h4 i o l c hv;omega⟩
theorem WS.fr {lo lo' q:Nat}{m m':Mem}{p:Nat}{ws:List By}(h:WS lo m p ws)(f:Fr lo' q m m')(hll:lo≤lo')(hq:lo≤q∨(q≠p∧∀n rows,m.get q≠some (.cells 1 n rows))):WS lo m' p ws:=by
 obtain⟨h1,v,h2,h3,h4⟩:=h
 have hpq:p≠q:=by rcases hq with hq | ⟨hq,_⟩<;>omega
 refine⟨h1,v,by rw [f.old p (by omega) hpq];exact h2,h3.keep f.next fun i n rows _ hg ⟨o,l,c,hv⟩=>?_,h4⟩
 have hi:=h4 i o l c hv
 refine f.old i (by omega) ?_
 rintro rfl
 rcases hq with hq | ⟨_,hq⟩
 ·omega
 ·exact hq n rows hg
theorem WS.ext {lo:Nat}{m m':Mem}{p:Nat}{ws:List By}(h:WS lo m p ws)(hlo:lo≤m.next)(e:Ext m m'):WS lo m' p ws:=h.fr (e.fr (p:=lo) hlo) (D5 _) (.inl (D5 _))
theorem akG {m:Mem}{p:Nat}{v:j5}{w:By}{ws:List By}(hg:m.get p=some (A9 [v]))(hv:Ej m v (strs (w::ws))):∀i o l c,v=.slice i o l c→i≠p:=by
 obtain⟨id,off,c,rfl,h1,h2,h3⟩:=hv
 rintro i o l c' h rfl
 cases h
 rcases h3 with h3 | ⟨n,rows,h4,h5,h6⟩
 ·cases h3
 ·rw [hg] at h4
  have h4:Blk.cells 1 1 (.nd .e [j5.slice id off (strs (w::ws)).length c] .e)=.cells 1 n rows:=avA h4
  injection h4 with _ h7 h8
  subst h7 h8
  have hl:0<(strs (w::ws)).length:=by simp [strs]
  obtain rfl:off=0:=by omega
  have:=h6 0 hl
  rw [awl] at this
  have this:[j5.slice id 0 (strs (w::ws)).length c]=[(strs (w::ws))[0]]:=avA this
  simp [strs] at this
theorem GV {lo:Nat}{m:Mem}{p:Nat}(h:WS lo m p [])(n fu:Nat):D6 KW fu (n+1) (.func 166) [.ptr p 0] m=some [⟨.pan UN,m⟩]:=by
 obtain⟨_,v,hg,hv,_⟩:=h
 have hlen:=hv.vs.len
 rw [enter (sf:=f166) rfl rfl]
 have e0:((strs []).length:Int)=0:=rfl
 rw [e0] at hlen
 simp [f166,C8,trD,G9,o9,l6,j3,hg,jX,hlen,hv.vs.pan]
theorem DX {lo:Nat}{m:Mem}{p:Nat}{w:By}{ws:List By}(hm:m.Ok)(hl:m.lim≤p)(h:WS lo m p (w::ws))(n fu:Nat):
  ∃m',D6 KW fu (n+1) (.func 166) [.ptr p 0] m=some [⟨.str w,m'⟩]∧kL p m m'∧WS lo m' p ws:=by
 obtain⟨hplo,v,hg,hv,hlo⟩:=h
 have hp:=Mem.M8 hm hg
 have hne:=akG hg hv
 have hv0:Ej m v (.str w::strs ws):=hv
 obtain⟨v',hv',hs,hid⟩:=hv0.tail
 obtain⟨id,o,a1,a2,a3⟩:=hv0.vs.at0
 have hlen:=hv0.vs.len
 obtain⟨N,st,q,X⟩:=tT (off:=0) hm hp hl hg (by simp) hv'.vs.J5
 refine⟨N,?_,X,hplo,v',by simpa using q,hv'.keep X.next fun i n rows hi _ ⟨o,l,c,hvi⟩=>X.old i hi ?_,fun i o l c hvi=>?_⟩
 ·rw [enter (sf:=f166) rfl rfl]
  have e0:((((.str w::strs ws:List j5)).length:Nat):Int)=((strs ws).length:Int)+1:=by simp
  rw [e0] at hlen
  have e1:decide (((strs ws).length:Int)+1=0)=false:=by simp;omega
  have hcell:=hv'.vs.cells
  simp at a1
  simp [f166,C8,trD,G9,o9,l6,j3,j6,hg,jX,hlen,hv0.vs.pan,hv'.vs.pan,a1,a3,hs,st,e1,hcell]
 ·obtain⟨o2,l2,c2,h2⟩:=hid i o l c hvi
  exact hne _ _ _ _ h2
 ·obtain⟨o2,l2,c2,h2⟩:=hid i o l c hvi
  exact hlo _ _ _ _ h2
theorem pJ {lo:Nat}{m:Mem}{p:Nat}{ws:List By}(hm:m.Ok)(hl:m.lim≤p)(h:WS lo m p ws)(s:By)(n fu:Nat):
  (∃m',D6 KW fu (n+2) (.func 84) [.ptr p 0,.str s] m=some [⟨.pan UN,m'⟩]∧kL p m m'∧∀(α:Type) (k:List By→Option α),pW s ws k=none)∨
  (∃t m',D6 KW fu (n+2) (.func 84) [.ptr p 0,.str s] m=some [⟨.tuple [],m'⟩]∧kL p m m'∧WS lo m' p t∧ws=s::t∧∀(α:Type) (k:List By→Option α),pW s ws k=k t):=by
 cases ws with
 | nil=>
  refine .inl ⟨m,?_,kL.refl hm,fun _ _=>rfl⟩
  have g:=GV h n fu
  rw [enter (sf:=f84) rfl rfl]
  simp [f84,C8,trD,G9,o9,l6,j3,g]
 | cons w t=>
  obtain⟨m1,g,X,h1⟩:=DX hm hl h n fu
  by_cases hw:w=s
  ·subst hw
   refine .inr ⟨t,m1,?_,X,h1,rfl,fun _ _=>jJ w t _⟩
   rw [enter (sf:=f84) rfl rfl]
   simp [f84,C8,trD,G9,o9,l6,j3,g]
  ·refine .inl ⟨m1,?_,X,fun _ _=>by rw [pW,if_neg hw]⟩
   rw [enter (sf:=f84) rfl rfl]
   simp [f84,C8,trD,G9,o9,l6,j3,g,hw]
theorem Pe {s:By}{v:Int}(h:Lib.atoiAll s=.ok v):-9223372036854775808≤v∧v<9223372036854775808:=by
 cases s with
 | nil=>cases h
 | cons c r=>
  simp only [Lib.atoiAll] at h
  split at h
  ·cases h
  ·cases h
  ·split at h
   ·cases h
   ·rename_i h1
    split at h
    ·cases h
    ·rename_i h2
     injection h with h
     subst h
     split<;>omega
theorem dN {lo:Nat}{m:Mem}{p:Nat}{ws:List By}(hm:m.Ok)(hl:m.lim≤p)(hlo:lo≤m.next)(h:WS lo m p ws)(hw:∀w∈ws,w.length<1000000)(n fu:Nat):
  (∃m',D6 KW fu (n+2) (.func 85) [.ptr p 0] m=some [⟨.pan UN,m'⟩]∧kL p m m'∧∀(α:Type) (k:Int→List By→Option α),pN ws k=none)∨
  (∃v w t m',D6 KW fu (n+2) (.func 85) [.ptr p 0] m=some [⟨.int .i64 v,m'⟩]∧kL p m m'∧WS lo m' p t∧ws=w::t∧Mg w=some v∧aR v∧∀(α:Type) (k:Int→List By→Option α),pN ws k=k v t):=by
 cases ws with
 | nil=>
  refine .inl ⟨m,?_,kL.refl hm,fun _ _=>rfl⟩
  have g:=GV h n fu
  rw [enter (sf:=f85) rfl rfl]
  simp [f85,C8,trD,G9,o9,l6,j3,g]
 | cons w t=>
  obtain⟨m1,g,X,h1⟩:=DX hm hl h n fu
  obtain⟨v,e,m2,g2,E2,hr⟩:=TB w (hw w (by simp)) n fu m1 X.ok
  have X2:kL p m m2:=X.trans E2.toB
  have h2:WS lo m2 p t:=h1.ext (avz hlo X.next) E2
  rcases hr with⟨ha,rfl⟩ | ⟨ha,q,rfl⟩
  ·have hnum:Mg w=some v:=by rw [Mg,ha]
   refine .inr ⟨v,w,t,m2,?_,X2,h2,rfl,hnum,Pe ha,fun _ _=>by rw [pN,hnum];rfl⟩
   rw [enter (sf:=f85) rfl rfl]
   simp [f85,C8,trD,G9,o9,l6,j3,g,g2]
  ·have hnum:Mg w=none:=by
    rw [Mg]
    split
    ·rename_i x hx;exact absurd hx (ha x)
    ·rfl
   refine .inl ⟨m2,?_,X2,fun _ _=>by rw [pN,hnum];rfl⟩
   rw [enter (sf:=f85) rfl rfl]
   simp [f85,C8,trD,G9,o9,l6,j3,g,g2]
theorem BF {lo:Nat}{m:Mem}{p:Nat}{ws:List By}(hm:m.Ok)(hl:m.lim≤p)(hlo:lo≤m.next)(h:WS lo m p ws)(hw:∀w∈ws,w.length<1000000)(n fu:Nat):
  (∃m',D6 KW fu (n+3) (.func 150) [.ptr p 0] m=some [⟨.pan UN,m'⟩]∧kL p m m'∧∀(α:Type) (K:Int→Int→List By→Option α),pN ws (fun a t=>pN t fun b t=>K a b t)=none)∨
  (∃a b x y t m',D6 KW fu (n+3) (.func 150) [.ptr p 0] m=some [⟨.agg [.int .i64 a,.int .i64 b],m'⟩]∧kL p m m'∧WS lo m' p t∧ws=x::y::t∧aR a∧aR b∧∀(α:Type) (K:Int→Int→List By→Option α),pN ws (fun a t=>pN t fun b t=>K a b t)=K a b t):=by
 have hp:=h.1
 have E0:=(Ext.refl hm).new (A9 [.int .i64 0,.int .i64 0])
 have h0:=h.ext hlo E0
 have hlim0:(m.new (A9 [.int .i64 0,.int .i64 0])).lim≤p:=hl
 rcases dN E0.ok hlim0 (avz hlo E0.next) h0 hw n fu with⟨m1,g1,X1,r1⟩ | ⟨a,w1,t1,m1,g1,X1,h1,e1,_,i1,r1⟩
 ·refine .inl ⟨m1,?_,E0.toB.trans X1,fun α K=>r1 α _⟩
  rw [enter (sf:=f150) rfl rfl]
  simp [f150,C8,trD,G9,o9,l6,j3,g1]
 ·subst e1
  have hw1:∀w∈t1,w.length<1000000:=fun w hw'=>hw w (by simp [hw'])
  rcases dN X1.ok (by rw [X1.lim];exact hlim0) (avz (avz hlo E0.next) X1.next) h1 hw1 n fu with⟨m2,g2,X2,r2⟩ | ⟨b,w2,t2,m2,g2,X2,h2,e2,_,i2,r2⟩
  ·refine .inl ⟨m2,?_,(E0.toB.trans X1).trans X2,fun α K=>(r1 α _).trans (r2 α _)⟩
   rw [enter (sf:=f150) rfl rfl]
   simp [f150,C8,trD,G9,o9,l6,j3,g1,g2]
  ·subst e2
   have hpn:p≠m.next:=by omega
   have q0:(m.new (A9 [.int .i64 0,.int .i64 0])).get m.next=some (A9 [.int .i64 0,.int .i64 0]):=by rw [Mem.T9 hm,if_pos rfl]
   have n1:m.next<m1.next:=avu (by simp) X1.next
   have q1:m1.get m.next=some (A9 [.int .i64 0,.int .i64 0]):=by rw [X1.old _ (by simp) (axu hpn)];exact q0
   have q2:m2.get m.next=some (A9 [.int .i64 0,.int .i64 0]):=by rw [X2.old _ n1 (axu hpn)];exact q1
   have n2:m.next<m2.next:=avu n1 X2.next
   have hl2:m2.lim≤m.next:=by rw [X2.lim,X1.lim];show m.lim≤_;omega
   have X3:kL m.next m2 (m2.set m.next (A9 [.int .i64 a,.int .i64 b])):=⟨Mem.Ok.set X2.ok n2 _,by simp,rfl,fun j hj hn=>by rw [Mem.ay X2.ok n2,if_neg hn]⟩
   have q3:(m2.set m.next (A9 [.int .i64 a,.int .i64 b])).get m.next=some (A9 [.int .i64 a,.int .i64 b]):=by rw [Mem.ay X2.ok n2,if_pos rfl]
   refine .inr ⟨a,b,w1,w2,t2,m2.set m.next (A9 [.int .i64 a,.int .i64 b]),?_,?_,?_,rfl,i1,i2,fun α K=>(r1 α _).trans (r2 α _)⟩
   ·rw [enter (sf:=f150) rfl rfl]
    simp [f150,C8,trD,G9,o9,l6,j3,C9,j6,g1,g2,tK hl2,q2,q3,o8,o7,J5]
   ·have XX:=(E0.toB (id:=p)).trans X1 |>.trans X2
    exact⟨X3.ok,avz XX.next X3.next,XX.lim,fun i hi hip=>by rw [X3.old i (avu hi XX.next) (by omega)];exact XX.old i hi hip⟩
   ·exact h2.fr (X3.fr (lo:=lo) (avz hlo (axx n2))) (D5 _) (.inl hlo)
theorem Pf {p:Nat}{e:By}{lo0 lo:Nat}(hp0:lo0≤lo)(n fu:Nat):∀(ws:List By),(∀w∈ws,w.length<1000000)→∀(l:List Int) (m:Mem) (out a2:j5) (N:Nat),m.Ok→m.lim≤p→lo≤m.next→WS lo0 m p ws→dz lo m out (ints l)→
  l.length+ws.length≤50000→ws.length+1≤N→
  (∃env' m',aj (fun env m k=>pI (D6 KW fu (n+2)) fu none env m k) N (.nd (.nd (.nd .e out .e) (.str e) .e) (.ptr p 0) (.nd (.nd .e .nilSlice .e) a2 .e)) m []=some [⟨.ret,env',m',[],some UN⟩]∧Fr lo p m m'∧pNs e ws=none)∨
  (∃out' a2' m' l' t,aj (fun env m k=>pI (D6 KW fu (n+2)) fu none env m k) N (.nd (.nd (.nd .e out .e) (.str e) .e) (.ptr p 0) (.nd (.nd .e .nilSlice .e) a2 .e)) m []=some [⟨.exit 0,(.nd (.nd (.nd .e out' .e) (.str e) .e) (.ptr p 0) (.nd (.nd .e .nilSlice .e) a2' .e)),m',[],none⟩]∧Fr lo p m m'∧dz lo m' out' (ints (l++l'))∧WS lo0 m' p t∧pNs e ws=some (l',t)∧t.length+l'.length≤ws.length∧∀w∈t,w∈ws):=by
 intro ws
 induction ws with
 | nil=>
  intro _ l m out a2 N hm hl hlo h ho hb hN
  obtain⟨N,rfl⟩:∃k,N=k+1:=⟨N-1,by omega⟩
  refine .inr ⟨out,.bool false,m,[],[],?_,Fr.refl hm,by rw [awo];exact ho,h,rfl,by simp,by simp⟩
  obtain⟨_,v,hg,hv,_⟩:=h
  have hlen:=hv.vs.len
  have e0:((strs []).length:Int)=0:=rfl
  rw [e0] at hlen
  rw [G5]
  simp [pI,C8,trD,G9,o9,l6,j3,hg,jX,hlen,hv.vs.pan]
 | cons w ws ih=>
  intro hw l m out a2 N hm hl hlo h ho hb hN
  obtain⟨N,rfl⟩:∃k,N=k+1:=⟨N-1,by omega⟩
  have h0:=h
  obtain⟨_,v,hg,hv,_⟩:=h0
  have hv0:Ej m v (.str w::strs ws):=hv
  obtain⟨id,o,a1,_,a3⟩:=hv0.vs.at0
  have hlen:=hv0.vs.len
  have e0:((((.str w::strs ws:List j5)).length:Nat):Int)=((strs ws).length:Int)+1:=by simp
  rw [e0] at hlen
  have e1:decide ((0:Int)<((strs ws).length:Int)+1)=true:=decide_eq_true (by omega)
  have pv:=fun {β:Type} (p:j5→β) q=>hv0.vs.pan p q
  simp at a1
  rw [G5]
  by_cases hwe:w=e
  ·subst hwe
   refine .inr ⟨out,.bool false,m,[],w::ws,?_,Fr.refl hm,by rw [awo];exact ho,h,by rw [pNs,if_pos rfl],by simp,fun _ h=>h⟩
   simp [pI,C8,trD,G9,o9,l6,j3,hg,jX,hlen,pv,a1,a3,e1]
  ·have hplo:=h.1
   have po:=fun {β:Type} (p:j5→β) q=>ho.vs.pan p q
   rcases dN hm hl (avz hp0 hlo) h hw n fu with⟨m1,g1,X1,r1⟩ | ⟨x,w',t,m1,g1,X1,h1,ew,hx,i1,r1⟩
   ·refine .inl ?_
    have hnone:Mg w=none:=by
     have:=r1 Int (fun v _=>some v)
     rw [pN] at this
     cases hh:Mg w with
     | none=>rfl
     | some y=>rw [hh] at this;cases this
    refine⟨.nd (.nd (.nd .e out .e) (.str e) .e) (.ptr p 0) (.nd (.nd .e .nilSlice .e) (.bool true) .e),m1,?_,X1.fr hlo,by rw [pNs,if_neg hwe,hnone];rfl⟩
    simp [pI,C8,trD,G9,o9,l6,j3,hg,jX,hlen,pv,po,a1,a3,e1,hwe,g1]
   ·cases ew
    have hlim1:m1.lim≤p:=by rw [X1.lim];exact hl
    have hlo1:lo≤m1.next:=avz hlo X1.next
    have ho1:=ho.Js X1 (by omega)
    have E2:=(Ext.refl X1.ok).new (A9 [.int .i64 x])
    have ho2:=ho1.ext E2
    have hx1:kH (m1.new (A9 [.int .i64 x])) (.slice m1.next 0 1 1) [.int .i64 x]:=.inr ⟨m1.next,0,.inl ⟨1,rfl,D5 _⟩,by simp,.inr ⟨1,.nd .e [.int .i64 x] .e,by
     rw [Mem.T9 X1.ok,if_pos rfl];rfl,by simp,fun i hi=>by
     obtain rfl:i=0:=by simp at hi;omega
     rfl⟩⟩
    have hlen2:(ints l).length=l.length:=by simp [ints]
    obtain⟨out2,m3,ga,ho3,F3⟩:=rJ (bytes:=8) E2.ok (by show m1.lim≤lo;omega) (avz hlo1 E2.next) ho2 hx1 rfl (by rw [hlen2];simp at hb ⊢;omega) ⟨by omega,by omega⟩
    have FF:Fr lo p m m3:=(X1.fr hlo).trans ((E2.fr hlo1).trans (F3.mono (D5 _)))
    have h3:WS lo0 m3 p ws:=(h1.ext (avz hp0 hlo1) E2).fr F3 hp0 (.inl hp0)
    have ho3':dz lo m3 out2 (ints (l ++ [x])):=by rw [vF];exact ho3
    have po2:=fun {β:Type} (p:j5→β) q=>ho3.vs.pan p q
    have hbs:∀z ps ls env nid,List.length z=1→J2 1 1 z ps ls env nid=ob (lay ps ls env z) fun cells=>if cells.length=1 then some (.slice nid 0 1 1,some (A9 cells)) else none:=fun z ps ls env nid h=>L9 1 z ps ls env nid h
    have step:∀(R:Option (List Out)),aj (fun env m k=>pI (D6 KW fu (n+2)) fu none env m k) N (.nd (.nd (.nd .e out2 .e) (.str e) .e) (.ptr p 0) (.nd (.nd .e .nilSlice .e) (.bool true) .e)) m3 []=R→
      bnd (pI (D6 KW fu (n+2)) fu none (.nd (.nd (.nd .e out .e) (.str e) .e) (.ptr p 0) (.nd (.nd .e .nilSlice .e) a2 .e)) m []) (KR (aj (fun env m k=>pI (D6 KW fu (n+2)) fu none env m k) N))=R:=fun R hR=>by
     rw [← hR]
     simp [pI,C8,trD,G9,o9,l6,j3,hg,jX,hlen,pv,po,po2,a1,a3,e1,hwe,g1,hbs,ga,C9]
    have hnx:pNs e (w::ws)=(pNs e ws).bind fun q=>some (x::q.1,q.2):=by rw [pNs,if_neg hwe,hx];rfl
    rcases ih (fun y hy=>hw y (by simp [hy])) (l ++ [x]) m3 out2 (.bool true) N FF.ok (by rw [FF.lim];exact hl) (avz hlo FF.next) h3 ho3' (by simp at hb ⊢;omega) (by simp at hN;omega) with⟨env',m4,g4,F4,r4⟩ | ⟨out4,b2,m4,l',t,g4,F4,ho4,h4,r4,r5,r6⟩
    ·exact .inl ⟨env',m4,step _ g4,FF.trans F4,by rw [hnx,r4];rfl⟩
    ·refine .inr ⟨out4,b2,m4,x::l',t,step _ g4,FF.trans F4,by rw [show l++x::l'=l ++ [x]++l' from by simp];exact ho4,h4,by rw [hnx,r4];rfl,by simp;omega,fun y hy=>by simp [r6 y hy]⟩
theorem FP {lo:Nat}{m:Mem}{p:Nat}{e:By}{ws:List By}(hm:m.Ok)(hl:m.lim≤p)(hlo:lo≤m.next)(h:WS lo m p ws)(hw:∀w∈ws,w.length<1000000)(hb:ws.length<1000)(n fu:Nat)(hfu:1001≤fu):
  (∃m',D6 KW fu (n+3) (.func 159) [.ptr p 0,.str e] m=some [⟨.pan UN,m'⟩]∧kL p m m'∧pNs e ws=none)∨
  (∃v m' l t,D6 KW fu (n+3) (.func 159) [.ptr p 0,.str e] m=some [⟨v,m'⟩]∧kL p m m'∧dz m.next m' v (ints l)∧WS lo m' p t∧pNs e ws=some (l,t)∧t.length+l.length≤ws.length∧∀w∈t,w∈ws):=by
 have hplo:=h.1
 rcases Pf (p:=p) (e:=e) (lo0:=lo) (lo:=m.next) hlo n fu ws hw [] m .nilSlice .undef fu hm hl (D5 _) h (dz.nil _ _) (by simp;omega) (by omega) with⟨env',m1,g,F,r⟩ | ⟨out,a2,m1,l,t,g,F,ho,h1,r,r2,r3⟩
 ·refine .inl ⟨m1,?_,F.Js (D5 _),r⟩
  rw [enter (sf:=f159) rfl rfl]
  simp [f159,C8,trD,G9,o9,l6,j3,g]
 ·rw [avT] at ho
  refine .inr ⟨out,m1,l,t,?_,F.Js (D5 _),ho,h1,r,r2,r3⟩
  rw [enter (sf:=f159) rfl rfl]
  simp [f159,C8,trD,G9,o9,l6,j3,g]
theorem Aa {w:By}{xs:List Int}{i:Nat}(h:i<xs.length):J3 w (xs.take (i+1))=J3 w (xs.take i)++(32::Lib.itoa xs[i]):=by
 rw [awd h,Jd]
theorem UH {m:Mem}{v:j5}{xs:List Int}(hv:bW m v xs)(hb:xs.length<1000)(hx:∀n∈xs,Sm n)(w:By)(hw:w.length≤100000)(n fu:Nat):∀(j i:Nat),i+j=xs.length→∀(a3 a6:j5) (N:Nat),j+1≤N→
  ∃a6',aj (fun env m k=>Lu (D6 KW fu (n+1)) fu none env m k) N (.nd (.nd (.nd (.nd .e (.str []) .e) a3 .e) (.int .i64 (i:Int)) (.nd .e (.str (J3 w (xs.take i))) .e)) v (.nd (.nd .e v .e) (.int .i64 (xs.length:Int)) (.nd .e a6 .e))) m []=some [⟨.exit 0,(.nd (.nd (.nd (.nd .e (.str []) .e) (.bool false) .e) (.int .i64 (xs.length:Int)) (.nd .e (.str (J3 w xs)) .e)) v (.nd (.nd .e v .e) (.int .i64 (xs.length:Int)) (.nd .e a6' .e))),m,[],none⟩]:=by
 intro j
 induction j with
 | zero=>
  intro i hi a3 a6 N hN
  obtain⟨N,rfl⟩:∃k,N=k+1:=⟨N-1,by omega⟩
  obtain rfl:i=xs.length:=by omega
  refine⟨a6,?_⟩
  rw [G5,avQ (D5 _)]
  simp [Lu,C8,trD,G9,o9,l6,j3]
 | succ j ih=>
  intro i hi a3 a6 N hN
  obtain⟨N,rfl⟩:∃k,N=k+1:=⟨N-1,by omega⟩
  have hlt:i<xs.length:=by omega
  obtain⟨id,a1,_,a2⟩:=hv.at hlt
  have hs:=hx _ (awj hlt)
  have c:=TA xs[i] (by unfold Sm at hs;omega) (by unfold Sm at hs;omega) n fu m
  have hl1:=U8 w (xs.take i) (fun y hy=>hx y (awu hy))
  have hl2:=BD hs
  have hl3:(xs.take i).length≤1000:=by simp;omega
  have s1:bG [32] (Lib.itoa xs[i])=some (.str (32::Lib.itoa xs[i])):=Q9 (by simp;omega)
  have s2:bG (J3 w (xs.take i)) (32::Lib.itoa xs[i])=some (.str (J3 w (xs.take (i+1)))):=by
   rw [Aa hlt];exact Q9 (by simp;omega)
  have e1:decide ((i:Int)<(xs.length:Int))=true:=by simp;omega
  obtain⟨a6',g⟩:=ih (i+1) (by omega) (.bool true) (.int .i64 xs[i]) N (by omega)
  refine⟨a6',?_⟩
  rw [G5,← g]
  simp [Lu,C8,trD,G9,o9,l6,j3,e1,hlt,a1,a2,c,s1,s2,U6 (i:=i) (by omega)]
theorem gQ {m:Mem}{v:j5}{xs:List Int}(hv:bW m v xs)(hb:xs.length<1000)(hx:∀n∈xs,Sm n)(w:By)(hw:w.length≤100000)(n fu:Nat)(hfu:1001≤fu):D6 KW fu (n+2) (.func 80) [.str w,v] m=some [⟨.str (J3 w xs),m⟩]:=by
 obtain⟨a6,g⟩:=UH hv hb hx w hw n fu xs.length 0 (by omega) .undef .undef fu (by omega)
 have hlen:=hv.len
 have e0:J3 w (xs.take 0)=w:=by rw [axh,xk]
 rw [e0] at g
 have g':aj (fun env m k=>Lu (D6 KW fu (n+1)) fu none env m k) fu (.nd (.nd (.nd (.nd .e (.str []) .e) .undef .e) (.int .i64 0) (.nd .e (.str w) .e)) v (.nd (.nd .e v .e) (.int .i64 (xs.length:Int)) (.nd .e .undef .e))) m []=_:=g
 rw [enter (sf:=f80) rfl rfl]
 simp [f80,C8,trD,G9,o9,l6,j3,hlen,g']
noncomputable def akH (xs:List Int):Blk:=.cells 1 xs.length (T.ofList (xs.map fun x=>[j5.int .i64 x]))
theorem GX:∀(cells:List j5),rowsOf 1 cells.length cells=some (cells.map ([·]))
 | []=>rfl
 | x::l=>by
  show ob (takeN 1 (x::l)) (fun r=>ob (rowsOf 1 l.length (jk 1 (x::l))) fun rest=>some (r::rest))=_
  have e:jk 1 (x::l)=l:=rfl
  rw [e,GX l];rfl
theorem M4 (k:Nat)(z:j5)(ps:List (Nat×Nat×OF))(ls:List j5)(env:T j5)(nid:Nat):J2 1 k [z] ps ls env nid=ob (lay ps ls env (U5 [z] k)) fun cells=>if cells.length=k then some (.slice nid 0 k k,some (.cells 1 k (T.ofList (cells.map ([·]))))) else ob (iO 1 k cells fun b=>some (j5.slice nid 0 k k,some b)) some:=by
 show ob (lay ps ls env (U5 [z] k)) (fun cells=>iO 1 k cells fun b=>some (j5.slice nid 0 k k,some b))=_
 congr 1
 funext cells
 split
 ·rename_i h
  subst h
  show ob (rowsOf 1 cells.length cells) (fun rows=>some (j5.slice nid 0 cells.length cells.length,some (Blk.cells 1 cells.length (T.ofList rows))))=_
  rw [GX];rfl
 ·cases iO 1 k cells fun b=>some (j5.slice nid 0 k k,some b)<;>rfl
theorem U3 (z:List j5):U5 z 0=[]:=rfl
theorem U4 (z:List j5)(n:Nat):U5 z (n+1)=z++U5 z n:=by show jl z (U5 z n)=_;rw [ak]
theorem dO {m:Mem}{id k:Nat}{xs:List Int}(h:m.get id=some (akH xs))(hid:id<m.next)(hk:xs.length=k):bW m (.slice id 0 k k) xs:=by
 subst hk
 refine .inr ⟨(id,0),.inl ⟨_,rfl⟩,hid,.inr ⟨xs.length,_,h,by simp,fun i hi=>?_⟩⟩
 rw [avS,T.aS,awe,U1 hi];rfl
set_option maxHeartbeats 8000000
theorem UJ {m:Mem}{r:FR}(hm:m.Ok)(hl:m.lim≤m.next)(hx:∀n∈[r.f.flo,r.f.fhi],Sm n)(n fu:Nat)(hfu:1001≤fu):
  D6 KW fu (n+3) (.func 148) [.agg r.f.cells] m=some [⟨.str (J3 qx [r.f.flo,r.f.fhi]),ext m [A9 r.f.cells,.cells 1 2 (T.ofList [[.int .i64 r.f.flo],[.int .i64 r.f.fhi]])]⟩]:=by
 have c:D6 KW fu (n+2) (.func 80) [.str [102,105,108,109],.slice (m.next+1) 0 2 2] (ext m [A9 r.f.cells,.cells 1 2 (T.ofList [[.int .i64 r.f.flo],[.int .i64 r.f.fhi]])])=some [⟨.str (J3 qx [r.f.flo,r.f.fhi]),ext m [A9 r.f.cells,.cells 1 2 (T.ofList [[.int .i64 r.f.flo],[.int .i64 r.f.fhi]])]⟩]:=
  gQ (xs:=[r.f.flo,r.f.fhi]) (dO (xs:=[r.f.flo,r.f.fhi]) (by rw [l8 hm];rfl) (by simp) rfl) (by simp) hx qx (by simp [qx]) n fu hfu
 rw [enter (sf:=f148) rfl rfl]
 simp [f148,C8,trD,G9,o9,l6,j3,x9,z8,O6 hm hl,C9,j6,o7,o8,J5,M4,U4,U3,c]
theorem UK {m:Mem}{r:FR}(hm:m.Ok)(hl:m.lim≤m.next)(hx:∀n∈[r.f.gid,r.f.made,r.f.nom,r.f.tlo,r.f.thi,r.f.gn,r.f.gd,r.f.wear],Sm n)(n fu:Nat)(hfu:1001≤fu):
  D6 KW fu (n+3) (.func 151) [.agg r.f.cells] m=some [⟨.str (J3 jH [r.f.gid,r.f.made,r.f.nom,r.f.tlo,r.f.thi,r.f.gn,r.f.gd,r.f.wear]),ext m [A9 r.f.cells,A9 [.int .i64 r.f.gid,.int .i64 r.f.made,.int .i64 r.f.nom,.int .i64 r.f.tlo,.int .i64 r.f.thi,.int .i64 r.f.gn,.int .i64 r.f.gd,.int .i64 r.f.wear],.cells 1 8 (T.ofList [[.int .i64 r.f.gid],[.int .i64 r.f.made],[.int .i64 r.f.nom],[.int .i64 r.f.tlo],[.int .i64 r.f.thi],[.int .i64 r.f.gn],[.int .i64 r.f.gd],[.int .i64 r.f.wear]])]⟩]:=by
 have c:D6 KW fu (n+2) (.func 80) [.str [103,97,117,103,101],.slice (m.next+2) 0 8 8] (ext m [A9 r.f.cells,A9 [.int .i64 r.f.gid,.int .i64 r.f.made,.int .i64 r.f.nom,.int .i64 r.f.tlo,.int .i64 r.f.thi,.int .i64 r.f.gn,.int .i64 r.f.gd,.int .i64 r.f.wear],.cells 1 8 (T.ofList [[.int .i64 r.f.gid],[.int .i64 r.f.made],[.int .i64 r.f.nom],[.int .i64 r.f.tlo],[.int .i64 r.f.thi],[.int .i64 r.f.gn],[.int .i64 r.f.gd],[.int .i64 r.f.wear]])])=some [⟨.str (J3 jH [r.f.gid,r.f.made,r.f.nom,r.f.tlo,r.f.thi,r.f.gn,r.f.gd,r.f.wear]),ext m [A9 r.f.cells,A9 [.int .i64 r.f.gid,.int .i64 r.f.made,.int .i64 r.f.nom,.int .i64 r.f.tlo,.int .i64 r.f.thi,.int .i64 r.f.gn,.int .i64 r.f.gd,.int .i64 r.f.wear],.cells 1 8 (T.ofList [[.int .i64 r.f.gid],[.int .i64 r.f.made],[.int .i64 r.f.nom],[.int .i64 r.f.tlo],[.int .i64 r.f.thi],[.int .i64 r.f.gn],[.int .i64 r.f.gd],[.int .i64 r.f.wear]])]⟩]:=
  gQ (xs:=[r.f.gid,r.f.made,r.f.nom,r.f.tlo,r.f.thi,r.f.gn,r.f.gd,r.f.wear]) (dO (xs:=[r.f.gid,r.f.made,r.f.nom,r.f.tlo,r.f.thi,r.f.gn,r.f.gd,r.f.wear]) (by rw [l8 hm];rfl) (by simp) rfl) (by simp) hx jH (by simp [jH]) n fu hfu
 have eg:r.f.gau=[.int .i64 r.f.gid,.int .i64 r.f.made,.int .i64 r.f.nom,.int .i64 r.f.tlo,.int .i64 r.f.thi,.int .i64 r.f.gn,.int .i64 r.f.gd,.int .i64 r.f.wear]:=rfl
 rw [enter (sf:=f151) rfl rfl]
 simp (maxSteps:=3000000) [f151,C8,trD,G9,o9,l6,j3,x9,z8,O6 hm hl,C9,j6,o7,o8,J5,M4,U4,U3,Fct.gau,-DN,c]
theorem UL {m:Mem}{r:FR}(hm:m.Ok)(hl:m.lim≤m.next)(hx:∀n∈[r.f.ug,r.f.ud],Sm n)(n fu:Nat)(hfu:1001≤fu):
  D6 KW fu (n+3) (.func 153) [.agg r.f.cells] m=some [⟨.str (J3 FH [r.f.ug,r.f.ud]),ext m [A9 r.f.cells,.cells 1 2 (T.ofList [[.int .i64 r.f.ug],[.int .i64 r.f.ud]])]⟩]:=by
 have c:D6 KW fu (n+2) (.func 80) [.str [117,115,101],.slice (m.next+1) 0 2 2] (ext m [A9 r.f.cells,.cells 1 2 (T.ofList [[.int .i64 r.f.ug],[.int .i64 r.f.ud]])])=some [⟨.str (J3 FH [r.f.ug,r.f.ud]),ext m [A9 r.f.cells,.cells 1 2 (T.ofList [[.int .i64 r.f.ug],[.int .i64 r.f.ud]])]⟩]:=
  gQ (xs:=[r.f.ug,r.f.ud]) (dO (xs:=[r.f.ug,r.f.ud]) (by rw [l8 hm];rfl) (by simp) rfl) (by simp) hx FH (by simp [FH]) n fu hfu
 rw [enter (sf:=f153) rfl rfl]
 simp [f153,C8,trD,G9,o9,l6,j3,x9,z8,O6 hm hl,C9,j6,o7,o8,J5,M4,U4,U3,c]
theorem UM {m:Mem}{r:FR}(hm:m.Ok)(hl:m.lim≤m.next)(hx:∀n∈[r.f.lg,r.f.ll,r.f.lh,r.f.lw],Sm n)(n fu:Nat)(hfu:1001≤fu):
  D6 KW fu (n+3) (.func 155) [.agg r.f.cells] m=some [⟨.str (J3 qy [r.f.lg,r.f.ll,r.f.lh,r.f.lw]),ext m [A9 r.f.cells,.cells 1 4 (T.ofList [[.int .i64 r.f.lg],[.int .i64 r.f.ll],[.int .i64 r.f.lh],[.int .i64 r.f.lw]])]⟩]:=by
 have c:D6 KW fu (n+2) (.func 80) [.str [108,111,97,110],.slice (m.next+1) 0 4 4] (ext m [A9 r.f.cells,.cells 1 4 (T.ofList [[.int .i64 r.f.lg],[.int .i64 r.f.ll],[.int .i64 r.f.lh],[.int .i64 r.f.lw]])])=some [⟨.str (J3 qy [r.f.lg,r.f.ll,r.f.lh,r.f.lw]),ext m [A9 r.f.cells,.cells 1 4 (T.ofList [[.int .i64 r.f.lg],[.int .i64 r.f.ll],[.int .i64 r.f.lh],[.int .i64 r.f.lw]])]⟩]:=
  gQ (xs:=[r.f.lg,r.f.ll,r.f.lh,r.f.lw]) (dO (xs:=[r.f.lg,r.f.ll,r.f.lh,r.f.lw]) (by rw [l8 hm];rfl) (by simp) rfl) (by simp) hx qy (by simp [qy]) n fu hfu
 rw [enter (sf:=f155) rfl rfl]
 simp [f155,C8,trD,G9,o9,l6,j3,x9,z8,O6 hm hl,C9,j6,o7,o8,J5,M4,U4,U3,c]
theorem UO {m:Mem}{r:FR}(hm:m.Ok)(hl:m.lim≤m.next)(hx:∀n∈[r.f.tr,r.f.tn],Sm n)(n fu:Nat)(hfu:1001≤fu):
  D6 KW fu (n+3) (.func 162) [.agg r.f.cells] m=some [⟨.str (J3 aU [r.f.tr,r.f.tn]),ext m [A9 r.f.cells,.cells 1 2 (T.ofList [[.int .i64 r.f.tr],[.int .i64 r.f.tn]])]⟩]:=by
 have c:D6 KW fu (n+2) (.func 80) [.str [119,105,116,104,100,114,97,119],.slice (m.next+1) 0 2 2] (ext m [A9 r.f.cells,.cells 1 2 (T.ofList [[.int .i64 r.f.tr],[.int .i64 r.f.tn]])])=some [⟨.str (J3 aU [r.f.tr,r.f.tn]),ext m [A9 r.f.cells,.cells 1 2 (T.ofList [[.int .i64 r.f.tr],[.int .i64 r.f.tn]])]⟩]:=
  gQ (xs:=[r.f.tr,r.f.tn]) (dO (xs:=[r.f.tr,r.f.tn]) (by rw [l8 hm];rfl) (by simp) rfl) (by simp) hx aU (by simp [aU]) n fu hfu
 rw [enter (sf:=f162) rfl rfl]
 simp [f162,C8,trD,G9,o9,l6,j3,x9,z8,O6 hm hl,C9,j6,o7,o8,J5,M4,U4,U3,c]
theorem UQ {m:Mem}{r:FR}(hm:m.Ok)(hl:m.lim≤m.next)(hr:eu m r)(hs:r.small=true)(h1:Sm r.f.mday)(h2:∀n∈r.l,Sm n)(n fu:Nat)(hfu:1001≤fu):
  D6 KW fu (n+3) (.func 160) [.agg r.f.cells] m=some [⟨.str (J3 zY [r.f.mday]++J3 [] r.l),ext m [A9 r.f.cells,.cells 1 1 (T.ofList [[.int .i64 r.f.mday]])]⟩]:=by
 simp only [FR.small,avv,decide_eq_true_eq] at hs
 have c:D6 KW fu (n+2) (.func 80) [.str [109,105,120],.slice (m.next+1) 0 1 1] (ext m [A9 r.f.cells,.cells 1 1 (T.ofList [[.int .i64 r.f.mday]])])=some [⟨.str (J3 zY [r.f.mday]),ext m [A9 r.f.cells,.cells 1 1 (T.ofList [[.int .i64 r.f.mday]])]⟩]:=
  gQ (xs:=[r.f.mday]) (dO (xs:=[r.f.mday]) (by rw [l8 hm];rfl) (by simp) rfl) (by simp) (by simpa using h1) zY (by simp [zY]) n fu hfu
 have c2:=gQ (hr.l.ext (D8 hm [A9 r.f.cells,.cells 1 1 (T.ofList [[.int .i64 r.f.mday]])])) (by omega) h2 [] (by simp) n fu hfu
 have pl:=fun {β:Type} (p:j5→β) q=>hr.l.pan p q
 have sl:dH 100 r.f.L r.f.L=true:=gF hr.l 99
 have l1:=U8 zY [r.f.mday] (by simpa using h1)
 have l2:=U8 [] r.l h2
 have s1:bG (J3 zY [r.f.mday]) (J3 [] r.l)=some (.str (J3 zY [r.f.mday]++J3 [] r.l)):=Q9 (by simp [zY] at l1 l2 ⊢;omega)
 rw [enter (sf:=f160) rfl rfl]
 simp [f160,C8,trD,G9,o9,l6,j3,x9,z8,O6 hm hl,C9,j6,o7,o8,J5,M4,U4,U3,c,c2,pl,sl,s1,isVoid,I6,avw]
theorem UR {m:Mem}{r:FR}(hm:m.Ok)(hl:m.lim≤m.next)(hr:eu m r)(hs:r.small=true)(h1:∀n∈[r.f.cday,r.f.diff,r.f.err,r.f.hlo,r.f.hhi],Sm n)(h2:∀n∈r.a,Sm n)(h3:∀n∈r.b,Sm n)(n fu:Nat)(hfu:1001≤fu):
  ∃m',D6 KW fu (n+3) (.func 157) [.agg r.f.cells] m=some [⟨.str (J3 P5 [r.f.cday,r.f.diff,r.f.err,r.f.hlo,r.f.hhi]++J3 (32::kA) r.a++J3 (32::kB) r.b),m'⟩]∧Ext m m':=by
 simp only [FR.small,avv,decide_eq_true_eq] at hs
 let L:List Blk:=[A9 r.f.cells,A9 r.f.cmp,.cells 1 5 (T.ofList [[.int .i64 r.f.cday],[.int .i64 r.f.diff],[.int .i64 r.f.err],[.int .i64 r.f.hlo],[.int .i64 r.f.hhi]])]
 have E:=D8 hm L
 refine⟨ext m L,?_,E⟩
 have c:D6 KW fu (n+2) (.func 80) [.str [99,111,109,112,97,114,101],.slice (m.next+2) 0 5 5] (ext m L)=some [⟨.str (J3 P5 [r.f.cday,r.f.diff,r.f.err,r.f.hlo,r.f.hhi]),ext m L⟩]:=
  gQ (xs:=[r.f.cday,r.f.diff,r.f.err,r.f.hlo,r.f.hhi]) (dO (xs:=[r.f.cday,r.f.diff,r.f.err,r.f.hlo,r.f.hhi]) (by rw [l8 hm];rfl) (by simp [L]) rfl) (by simp) h1 P5 (by simp [P5]) n fu hfu
 have c2:D6 KW fu (n+2) (.func 80) [.str [32,97],r.f.A] (ext m L)=some [⟨.str (J3 (32::kA) r.a),ext m L⟩]:=gQ (hr.a.ext E) (by omega) h2 (32::kA) (by simp [kA]) n fu hfu
 have c3:D6 KW fu (n+2) (.func 80) [.str [32,98],r.f.B] (ext m L)=some [⟨.str (J3 (32::kB) r.b),ext m L⟩]:=gQ (hr.b.ext E) (by omega) h3 (32::kB) (by simp [kB]) n fu hfu
 have pa:=fun {β:Type} (p:j5→β) q=>hr.a.pan p q
 have pb:=fun {β:Type} (p:j5→β) q=>hr.b.pan p q
 have sa:dH 100 r.f.A r.f.A=true:=gF hr.a 99
 have sb:dH 100 r.f.B r.f.B=true:=gF hr.b 99
 have oa:=hr.a.J5
 have ob_:=hr.b.J5
 have l1:=U8 P5 [r.f.cday,r.f.diff,r.f.err,r.f.hlo,r.f.hhi] h1
 have l2:=U8 (32::kA) r.a h2
 have l3:=U8 (32::kB) r.b h3
 have s1:bG (J3 P5 [r.f.cday,r.f.diff,r.f.err,r.f.hlo,r.f.hhi]) (J3 (32::kA) r.a)=some (.str (J3 P5 [r.f.cday,r.f.diff,r.f.err,r.f.hlo,r.f.hhi]++J3 (32::kA) r.a)):=Q9 (by simp [P5,kA] at l1 l2 ⊢;omega)
 have s2:bG (J3 P5 [r.f.cday,r.f.diff,r.f.err,r.f.hlo,r.f.hhi]++J3 (32::kA) r.a) (J3 (32::kB) r.b)=some (.str (J3 P5 [r.f.cday,r.f.diff,r.f.err,r.f.hlo,r.f.hhi]++J3 (32::kA) r.a++J3 (32::kB) r.b)):=Q9 (by simp [P5,kA,kB] at l1 l2 l3 ⊢;omega)
 have ec:r.f.cmp=[.int .i64 r.f.cid,.int .i64 r.f.cday,r.f.A,r.f.B,.int .i64 r.f.diff,.int .i64 r.f.err,.int .i64 r.f.hlo,.int .i64 r.f.hhi]:=rfl
 rw [enter (sf:=f157) rfl rfl]
 have o3:O7 r.f.cmp=true:=by simp [Fct.cmp,oa,ob_,show ∀k x,J5 (.int k x)=true from fun _ _=>rfl,-Fct.Q0]
 simp only [L] at c c2 c3 ⊢
 simp (maxSteps:=3000000) [f157,C8,trD,G9,o9,l6,j3,x9,z8,O6 hm hl,C9,j6,o7,o8,M4,U4,U3,o3,c,c2,c3,pa,pb,sa,sb,oa,ob_,s1,s2,isVoid,I6,avw]
theorem U9 {M:Mem}{id off:Nat}{c vs:List j5}(hM:M.Ok)(hid:id<M.next)(hl:M.lim≤id)(hg:M.get id=some (A9 c))(ho:off+vs.length≤c.length)(h0:0<vs.length)(h1:O7 vs=true):
  ∃N,(∀{β:Type} (k:Mem→Option β),storeAt M id off vs k=k N)∧N.get id=some (A9 (c.take off++vs++c.drop (off+vs.length)))∧kL id M N:=by
 refine⟨M.set id (A9 (c.take off++vs++c.drop (off+vs.length))),fun k=>?_,by rw [Mem.ay hM hid,if_pos rfl],Mem.Ok.set hM hid _,by simp,rfl,fun j hj hn=>by rw [Mem.ay hM hid,if_neg hn]⟩
 rw [aW hl h1,hg,o8 (by omega) (by omega),O0,List.append_assoc]
structure RS (lo:Nat)(m:Mem)(p q:Nat)(ws:List By)(h:Fct):Prop where
 ok:m.Ok
 lp:m.lim≤p
 lq:m.lim≤q
 pq:p≠q
 qlo:q<lo
 next:lo≤m.next
 wk:WS lo m p ws
 cell:m.get q=some (A9 h.cells)
 sh:∀w∈ws,w.length<1000000
 few:ws.length<1000
theorem RS.plo {lo:Nat}{m:Mem}{p q:Nat}{ws:List By}{h:Fct}(s:RS lo m p q ws h):p<lo:=s.wk.1
theorem RS.call {lo:Nat}{m m':Mem}{p q:Nat}{ws t:List By}{h:Fct}(s:RS lo m p q ws h)(X:kL p m m')(k:WS lo m' p t)(ht:∀w∈t,w∈ws)(hl:t.length≤ws.length):RS lo m' p q t h:=
 ⟨X.ok,by rw [X.lim];exact s.lp,by rw [X.lim];exact s.lq,s.pq,s.qlo,avz s.next X.next,k,by rw [X.old q (avu s.qlo s.next) (axu s.pq)];exact s.cell,fun w hw=>s.sh w (ht w hw),Nat.lt_of_le_of_lt hl s.few⟩
theorem FQ (f:Fct):∀n rows,A9 f.cells≠.cells 1 n rows:=fun n rows e=>by
 have e:Blk.cells (len' f.cells) 1 (.nd .e f.cells .e)=.cells 1 n rows:=e
 injection e with e1
 rw [Q5,Fct.len] at e1
 cases e1
theorem RS.store {lo:Nat}{m:Mem}{p q off:Nat}{ws:List By}{h h':Fct}{vs:List j5}(s:RS lo m p q ws h)(h0:0<vs.length)(ho:off+vs.length≤32)(h1:O7 vs=true)(hc:h.cells.take off++vs++h.cells.drop (off+vs.length)=h'.cells):
  ∃N,(∀{β:Type} (k:Mem→Option β),storeAt m q off vs k=k N)∧RS lo N p q ws h'∧kL q m N:=by
 have hq:q<m.next:=avu s.qlo s.next
 obtain⟨N,st,g,X⟩:=U9 (off:=off) (vs:=vs) s.ok hq s.lq s.cell (by rw [Fct.len];exact ho) h0 h1
 rw [hc] at g
 refine⟨N,st,⟨X.ok,by rw [X.lim];exact s.lp,by rw [X.lim];exact s.lq,s.pq,s.qlo,avz s.next X.next,s.wk.fr (X.fr (lo:=lo) s.next) (D5 _) (.inr ⟨axu s.pq,fun n rows e=>?_⟩),g,s.sh,s.few⟩,X⟩
 rw [s.cell] at e
 exact FQ h n rows (avA e)
theorem RS.frP {lo lo0:Nat}{m m':Mem}{p q:Nat}{ws:List By}{h:Fct}(s:RS lo m p q ws h)(X:kL p m m')(hp:lo0≤p):Fr lo0 lo0 m m':=(X.fr (lo:=lo0) (by have:=s.plo;have:=s.next;omega)).mono hp
theorem RS.frQ {lo lo0:Nat}{m m':Mem}{p q:Nat}{ws:List By}{h:Fct}(s:RS lo m p q ws h)(X:kL q m m')(hq:lo0≤q):Fr lo0 lo0 m m':=(X.fr (lo:=lo0) (by have:=s.qlo;have:=s.next;omega)).mono hq
def Reads (f:Nat)(n:Nat)(fu:Nat)(m:Mem)(p q lo0 lo:Nat)(ws:List By)(h:Fct):Prop:=
 (∃m',D6 KW fu n (.func f) [.ptr p 0,.ptr q 0] m=some [⟨.pan UN,m'⟩]∧Fr lo0 lo0 m m'∧parseBody h ws=none)∨
 (∃m' r t,D6 KW fu n (.func f) [.ptr p 0,.ptr q 0] m=some [⟨.tuple [],m'⟩]∧Fr lo0 lo0 m m'∧RS lo m' p q t r.f∧eu m' r∧r.a.length<1000∧r.b.length<1000∧r.l.length<1000∧parseBody h ws=some r.cn)
theorem pb1 {h:Fct}(hk:h.kind=1)(ws:List By):parseBody h ws=pW qx ws fun ws=>pN ws fun lo ws=>pN ws fun hi ws=>some ⟨{h with flo:=lo,fhi:=hi},[],[],[]⟩:=by
 unfold parseBody;rw [if_pos hk]
theorem UU {m:Mem}{p q lo0 lo:Nat}{ws:List By}{h:Fct}(s:RS lo m p q ws h)(hk:h.kind=1)(hp0:lo0≤p)(hq0:lo0≤q)(hA:h.A=.nilSlice)(hB:h.B=.nilSlice)(hL:h.L=.nilSlice)(ig:aR h.gn)(id:aR h.gd)(ino:aR h.no)(n fu:Nat):Reads 149 (n+4) fu m p q lo0 lo ws h:=by
 have enil:∀(x:Fct),x.A=.nilSlice→x.B=.nilSlice→x.L=.nilSlice→aR x.gn→aR x.gd→aR x.no→∀M,eu M ⟨x,[],[],[]⟩:=fun x h1 h2 h3 h4 h5 h6 M=>⟨.inl ⟨h1,rfl⟩,.inl ⟨h2,rfl⟩,.inl ⟨h3,rfl⟩,h4,h5,h6⟩
 have ecn:∀(x:Fct),x.A=.nilSlice→x.B=.nilSlice→x.L=.nilSlice→(⟨x,[],[],[]⟩:FR).cn=⟨x,[],[],[]⟩:=fun x h1 h2 h3=>by obtain⟨⟩:=x;simp only at h1 h2 h3;subst h1 h2 h3;rfl
 rcases pJ s.ok s.lp s.wk [102,105,108,109] (n+1) fu with⟨m0,g0,X0,r0⟩ | ⟨t0,m0,g0,X0,w0,e0,r0⟩
 ·refine .inl ⟨m0,?_,s.frP X0 hp0,by rw [pb1 hk];exact r0 _ _⟩
  rw [enter (sf:=f149) rfl rfl]
  simp [f149,C8,trD,G9,o9,l6,j3,g0]
 have s0:=s.call X0 w0 (fun w hw=>by rw [e0];simp [hw]) (by rw [e0];simp)
 have F0:=s.frP (lo0:=lo0) X0 hp0
 rcases BF s0.ok s0.lp s0.next s0.wk s0.sh (n) fu with⟨m1,g1,X1,r1⟩ | ⟨vflo,vfhi,x1,y1,t1,m1,g1,X1,w1,e1,i1,j1,r1⟩
 ·refine .inl ⟨m1,?_,F0.trans (s0.frP X1 hp0),by rw [pb1 hk];exact (r0 _ _).trans (r1 _ _)⟩
  rw [enter (sf:=f149) rfl rfl]
  simp [f149,C8,trD,G9,o9,l6,j3,j6,g0,g1]
 have s1a:=s0.call X1 w1 (fun w hw=>by rw [e1];simp [hw]) (by rw [e1];simp<;>omega)
 obtain⟨N1,st1,s1,Y1⟩:=s1a.store (off:=4) (vs:=[.int .i64 vflo,.int .i64 vfhi]) (h':={h with flo:=vflo,fhi:=vfhi}) (by simp) (by simp) rfl rfl
 have F1:=(F0.trans (s0.frP X1 hp0)).trans (s1a.frQ Y1 hq0)
 refine .inr ⟨N1,⟨{h with flo:=vflo,fhi:=vfhi},[],[],[]⟩,t1,?_,F1,s1,enil ({h with flo:=vflo,fhi:=vfhi}) hA hB hL ig id ino _,by simp,by simp,by simp,?_⟩
 ·rw [enter (sf:=f149) rfl rfl]
  simp [f149,C8,trD,G9,o9,l6,j3,j6,g0,g1,st1]
 ·rw [pb1 hk];exact ((r0 _ _).trans (r1 _ _)).trans (congrArg some (ecn ({h with flo:=vflo,fhi:=vfhi}) hA hB hL).symm)
theorem pb3 {h:Fct}(hk:h.kind=3)(ws:List By):parseBody h ws=pW FH ws fun ws=>pN ws fun ug ws=>pN ws fun ud ws=>some ⟨{h with ug:=ug,ud:=ud},[],[],[]⟩:=by
 unfold parseBody;rw [if_neg (show ¬ h.kind=1 by omega),if_neg (show ¬ h.kind=2 by omega),if_pos hk]
theorem UW {m:Mem}{p q lo0 lo:Nat}{ws:List By}{h:Fct}(s:RS lo m p q ws h)(hk:h.kind=3)(hp0:lo0≤p)(hq0:lo0≤q)(hA:h.A=.nilSlice)(hB:h.B=.nilSlice)(hL:h.L=.nilSlice)(ig:aR h.gn)(id:aR h.gd)(ino:aR h.no)(n fu:Nat):Reads 154 (n+4) fu m p q lo0 lo ws h:=by
 have enil:∀(x:Fct),x.A=.nilSlice→x.B=.nilSlice→x.L=.nilSlice→aR x.gn→aR x.gd→aR x.no→∀M,eu M ⟨x,[],[],[]⟩:=fun x h1 h2 h3 h4 h5 h6 M=>⟨.inl ⟨h1,rfl⟩,.inl ⟨h2,rfl⟩,.inl ⟨h3,rfl⟩,h4,h5,h6⟩
 have ecn:∀(x:Fct),x.A=.nilSlice→x.B=.nilSlice→x.L=.nilSlice→(⟨x,[],[],[]⟩:FR).cn=⟨x,[],[],[]⟩:=fun x h1 h2 h3=>by obtain⟨⟩:=x;simp only at h1 h2 h3;subst h1 h2 h3;rfl
 rcases pJ s.ok s.lp s.wk [117,115,101] (n+1) fu with⟨m0,g0,X0,r0⟩ | ⟨t0,m0,g0,X0,w0,e0,r0⟩
 ·refine .inl ⟨m0,?_,s.frP X0 hp0,by rw [pb3 hk];exact r0 _ _⟩
  rw [enter (sf:=f154) rfl rfl]
  simp [f154,C8,trD,G9,o9,l6,j3,g0]
 have s0:=s.call X0 w0 (fun w hw=>by rw [e0];simp [hw]) (by rw [e0];simp)
 have F0:=s.frP (lo0:=lo0) X0 hp0
 rcases dN s0.ok s0.lp s0.next s0.wk s0.sh (n+1) fu with⟨m1,g1,X1,r1⟩ | ⟨vug,x1,t1,m1,g1,X1,w1,e1,_,i1,r1⟩
 ·refine .inl ⟨m1,?_,F0.trans (s0.frP X1 hp0),by rw [pb3 hk];exact (r0 _ _).trans (r1 _ _)⟩
  rw [enter (sf:=f154) rfl rfl]
  simp [f154,C8,trD,G9,o9,l6,j3,j6,g0,g1]
 have s1a:=s0.call X1 w1 (fun w hw=>by rw [e1];simp [hw]) (by rw [e1];simp<;>omega)
 obtain⟨N1,st1,s1,Y1⟩:=s1a.store (off:=14) (vs:=[.int .i64 vug]) (h':={h with ug:=vug}) (by simp) (by simp) rfl rfl
 have F1:=(F0.trans (s0.frP X1 hp0)).trans (s1a.frQ Y1 hq0)
 rcases dN s1.ok s1.lp s1.next s1.wk s1.sh (n+1) fu with⟨m2,g2,X2,r2⟩ | ⟨vud,x2,t2,m2,g2,X2,w2,e2,_,i2,r2⟩
 ·refine .inl ⟨m2,?_,F1.trans (s1.frP X2 hp0),by rw [pb3 hk];exact (r0 _ _).trans ((r1 _ _).trans (r2 _ _))⟩
  rw [enter (sf:=f154) rfl rfl]
  simp [f154,C8,trD,G9,o9,l6,j3,j6,g0,g1,g2,st1]
 have s2a:=s1.call X2 w2 (fun w hw=>by rw [e2];simp [hw]) (by rw [e2];simp<;>omega)
 obtain⟨N2,st2,s2,Y2⟩:=s2a.store (off:=15) (vs:=[.int .i64 vud]) (h':={h with ug:=vug,ud:=vud}) (by simp) (by simp) rfl rfl
 have F2:=(F1.trans (s1.frP X2 hp0)).trans (s2a.frQ Y2 hq0)
 refine .inr ⟨N2,⟨{h with ug:=vug,ud:=vud},[],[],[]⟩,t2,?_,F2,s2,enil ({h with ug:=vug,ud:=vud}) hA hB hL ig id ino _,by simp,by simp,by simp,?_⟩
 ·rw [enter (sf:=f154) rfl rfl]
  simp [f154,C8,trD,G9,o9,l6,j3,j6,g0,g1,g2,st1,st2]
 ·rw [pb3 hk];exact ((r0 _ _).trans ((r1 _ _).trans (r2 _ _))).trans (congrArg some (ecn ({h with ug:=vug,ud:=vud}) hA hB hL).symm)
theorem pb4 {h:Fct}(hk:h.kind=4)(ws:List By):parseBody h ws=pW qy ws fun ws=>pN ws fun lg ws=>pN ws fun ll ws=>pN ws fun lh ws=>pN ws fun lw ws=>some ⟨{h with lg:=lg,ll:=ll,lh:=lh,lw:=lw},[],[],[]⟩:=by
 unfold parseBody;rw [if_neg (show ¬ h.kind=1 by omega),if_neg (show ¬ h.kind=2 by omega),if_neg (show ¬ h.kind=3 by omega),if_pos hk]
theorem UY {m:Mem}{p q lo0 lo:Nat}{ws:List By}{h:Fct}(s:RS lo m p q ws h)(hk:h.kind=4)(hp0:lo0≤p)(hq0:lo0≤q)(hA:h.A=.nilSlice)(hB:h.B=.nilSlice)(hL:h.L=.nilSlice)(ig:aR h.gn)(id:aR h.gd)(ino:aR h.no)(n fu:Nat):Reads 156 (n+4) fu m p q lo0 lo ws h:=by
 have enil:∀(x:Fct),x.A=.nilSlice→x.B=.nilSlice→x.L=.nilSlice→aR x.gn→aR x.gd→aR x.no→∀M,eu M ⟨x,[],[],[]⟩:=fun x h1 h2 h3 h4 h5 h6 M=>⟨.inl ⟨h1,rfl⟩,.inl ⟨h2,rfl⟩,.inl ⟨h3,rfl⟩,h4,h5,h6⟩
 have ecn:∀(x:Fct),x.A=.nilSlice→x.B=.nilSlice→x.L=.nilSlice→(⟨x,[],[],[]⟩:FR).cn=⟨x,[],[],[]⟩:=fun x h1 h2 h3=>by obtain⟨⟩:=x;simp only at h1 h2 h3;subst h1 h2 h3;rfl
 rcases pJ s.ok s.lp s.wk [108,111,97,110] (n+1) fu with⟨m0,g0,X0,r0⟩ | ⟨t0,m0,g0,X0,w0,e0,r0⟩
 ·refine .inl ⟨m0,?_,s.frP X0 hp0,by rw [pb4 hk];exact r0 _ _⟩
  rw [enter (sf:=f156) rfl rfl]
  simp [f156,C8,trD,G9,o9,l6,j3,g0]
 have s0:=s.call X0 w0 (fun w hw=>by rw [e0];simp [hw]) (by rw [e0];simp)
 have F0:=s.frP (lo0:=lo0) X0 hp0
 rcases dN s0.ok s0.lp s0.next s0.wk s0.sh (n+1) fu with⟨m1,g1,X1,r1⟩ | ⟨vlg,x1,t1,m1,g1,X1,w1,e1,_,i1,r1⟩
 ·refine .inl ⟨m1,?_,F0.trans (s0.frP X1 hp0),by rw [pb4 hk];exact (r0 _ _).trans (r1 _ _)⟩
  rw [enter (sf:=f156) rfl rfl]
  simp [f156,C8,trD,G9,o9,l6,j3,j6,g0,g1]
 have s1a:=s0.call X1 w1 (fun w hw=>by rw [e1];simp [hw]) (by rw [e1];simp<;>omega)
 obtain⟨N1,st1,s1,Y1⟩:=s1a.store (off:=16) (vs:=[.int .i64 vlg]) (h':={h with lg:=vlg}) (by simp) (by simp) rfl rfl
 have F1:=(F0.trans (s0.frP X1 hp0)).trans (s1a.frQ Y1 hq0)
 rcases BF s1.ok s1.lp s1.next s1.wk s1.sh (n) fu with⟨m2,g2,X2,r2⟩ | ⟨vll,vlh,x2,y2,t2,m2,g2,X2,w2,e2,i2,j2,r2⟩
 ·refine .inl ⟨m2,?_,F1.trans (s1.frP X2 hp0),by rw [pb4 hk];exact (r0 _ _).trans ((r1 _ _).trans (r2 _ _))⟩
  rw [enter (sf:=f156) rfl rfl]
  simp [f156,C8,trD,G9,o9,l6,j3,j6,g0,g1,g2,st1]
 have s2a:=s1.call X2 w2 (fun w hw=>by rw [e2];simp [hw]) (by rw [e2];simp<;>omega)
 obtain⟨N2,st2,s2,Y2⟩:=s2a.store (off:=17) (vs:=[.int .i64 vll,.int .i64 vlh]) (h':={h with lg:=vlg,ll:=vll,lh:=vlh}) (by simp) (by simp) rfl rfl
 have F2:=(F1.trans (s1.frP X2 hp0)).trans (s2a.frQ Y2 hq0)
 rcases dN s2.ok s2.lp s2.next s2.wk s2.sh (n+1) fu with⟨m3,g3,X3,r3⟩ | ⟨vlw,x3,t3,m3,g3,X3,w3,e3,_,i3,r3⟩
 ·refine .inl ⟨m3,?_,F2.trans (s2.frP X3 hp0),by rw [pb4 hk];exact (r0 _ _).trans ((r1 _ _).trans ((r2 _ _).trans (r3 _ _)))⟩
  rw [enter (sf:=f156) rfl rfl]
  simp [f156,C8,trD,G9,o9,l6,j3,j6,g0,g1,g2,g3,st1,st2]
 have s3a:=s2.call X3 w3 (fun w hw=>by rw [e3];simp [hw]) (by rw [e3];simp<;>omega)
 obtain⟨N3,st3,s3,Y3⟩:=s3a.store (off:=19) (vs:=[.int .i64 vlw]) (h':={h with lg:=vlg,ll:=vll,lh:=vlh,lw:=vlw}) (by simp) (by simp) rfl rfl
 have F3:=(F2.trans (s2.frP X3 hp0)).trans (s3a.frQ Y3 hq0)
 refine .inr ⟨N3,⟨{h with lg:=vlg,ll:=vll,lh:=vlh,lw:=vlw},[],[],[]⟩,t3,?_,F3,s3,enil ({h with lg:=vlg,ll:=vll,lh:=vlh,lw:=vlw}) hA hB hL ig id ino _,by simp,by simp,by simp,?_⟩
 ·rw [enter (sf:=f156) rfl rfl]
  simp [f156,C8,trD,G9,o9,l6,j3,j6,g0,g1,g2,g3,st1,st2,st3]
 ·rw [pb4 hk];exact ((r0 _ _).trans ((r1 _ _).trans ((r2 _ _).trans (r3 _ _)))).trans (congrArg some (ecn ({h with lg:=vlg,ll:=vll,lh:=vlh,lw:=vlw}) hA hB hL).symm)
theorem pb7 {h:Fct}(hk:h.kind=7)(ws:List By):parseBody h ws=pW aU ws fun ws=>pN ws fun tr ws=>pN ws fun tn ws=>some ⟨{h with tr:=tr,tn:=tn},[],[],[]⟩:=by
 unfold parseBody;rw [if_neg (show ¬ h.kind=1 by omega),if_neg (show ¬ h.kind=2 by omega),if_neg (show ¬ h.kind=3 by omega),if_neg (show ¬ h.kind=4 by omega),if_neg (show ¬ h.kind=5 by omega),if_neg (show ¬ h.kind=6 by omega),if_pos hk]
theorem UZ {m:Mem}{p q lo0 lo:Nat}{ws:List By}{h:Fct}(s:RS lo m p q ws h)(hk:h.kind=7)(hp0:lo0≤p)(hq0:lo0≤q)(hA:h.A=.nilSlice)(hB:h.B=.nilSlice)(hL:h.L=.nilSlice)(ig:aR h.gn)(id:aR h.gd)(ino:aR h.no)(n fu:Nat):Reads 163 (n+4) fu m p q lo0 lo ws h:=by
 have enil:∀(x:Fct),x.A=.nilSlice→x.B=.nilSlice→x.L=.nilSlice→aR x.gn→aR x.gd→aR x.no→∀M,eu M ⟨x,[],[],[]⟩:=fun x h1 h2 h3 h4 h5 h6 M=>⟨.inl ⟨h1,rfl⟩,.inl ⟨h2,rfl⟩,.inl ⟨h3,rfl⟩,h4,h5,h6⟩
 have ecn:∀(x:Fct),x.A=.nilSlice→x.B=.nilSlice→x.L=.nilSlice→(⟨x,[],[],[]⟩:FR).cn=⟨x,[],[],[]⟩:=fun x h1 h2 h3=>by obtain⟨⟩:=x;simp only at h1 h2 h3;subst h1 h2 h3;rfl
 rcases pJ s.ok s.lp s.wk [119,105,116,104,100,114,97,119] (n+1) fu with⟨m0,g0,X0,r0⟩ | ⟨t0,m0,g0,X0,w0,e0,r0⟩
 ·refine .inl ⟨m0,?_,s.frP X0 hp0,by rw [pb7 hk];exact r0 _ _⟩
  rw [enter (sf:=f163) rfl rfl]
  simp [f163,C8,trD,G9,o9,l6,j3,g0]
 have s0:=s.call X0 w0 (fun w hw=>by rw [e0];simp [hw]) (by rw [e0];simp)
 have F0:=s.frP (lo0:=lo0) X0 hp0
 rcases dN s0.ok s0.lp s0.next s0.wk s0.sh (n+1) fu with⟨m1,g1,X1,r1⟩ | ⟨vtr,x1,t1,m1,g1,X1,w1,e1,_,i1,r1⟩
 ·refine .inl ⟨m1,?_,F0.trans (s0.frP X1 hp0),by rw [pb7 hk];exact (r0 _ _).trans (r1 _ _)⟩
  rw [enter (sf:=f163) rfl rfl]
  simp [f163,C8,trD,G9,o9,l6,j3,j6,g0,g1]
 have s1a:=s0.call X1 w1 (fun w hw=>by rw [e1];simp [hw]) (by rw [e1];simp<;>omega)
 obtain⟨N1,st1,s1,Y1⟩:=s1a.store (off:=30) (vs:=[.int .i64 vtr]) (h':={h with tr:=vtr}) (by simp) (by simp) rfl rfl
 have F1:=(F0.trans (s0.frP X1 hp0)).trans (s1a.frQ Y1 hq0)
 rcases dN s1.ok s1.lp s1.next s1.wk s1.sh (n+1) fu with⟨m2,g2,X2,r2⟩ | ⟨vtn,x2,t2,m2,g2,X2,w2,e2,_,i2,r2⟩
 ·refine .inl ⟨m2,?_,F1.trans (s1.frP X2 hp0),by rw [pb7 hk];exact (r0 _ _).trans ((r1 _ _).trans (r2 _ _))⟩
  rw [enter (sf:=f163) rfl rfl]
  simp [f163,C8,trD,G9,o9,l6,j3,j6,g0,g1,g2,st1]
 have s2a:=s1.call X2 w2 (fun w hw=>by rw [e2];simp [hw]) (by rw [e2];simp<;>omega)
 obtain⟨N2,st2,s2,Y2⟩:=s2a.store (off:=31) (vs:=[.int .i64 vtn]) (h':={h with tr:=vtr,tn:=vtn}) (by simp) (by simp) rfl rfl
 have F2:=(F1.trans (s1.frP X2 hp0)).trans (s2a.frQ Y2 hq0)
 refine .inr ⟨N2,⟨{h with tr:=vtr,tn:=vtn},[],[],[]⟩,t2,?_,F2,s2,enil ({h with tr:=vtr,tn:=vtn}) hA hB hL ig id ino _,by simp,by simp,by simp,?_⟩
 ·rw [enter (sf:=f163) rfl rfl]
  simp [f163,C8,trD,G9,o9,l6,j3,j6,g0,g1,g2,st1,st2]
 ·rw [pb7 hk];exact ((r0 _ _).trans ((r1 _ _).trans (r2 _ _))).trans (congrArg some (ecn ({h with tr:=vtr,tn:=vtn}) hA hB hL).symm)
set_option maxHeartbeats 16000000
structure GSt (lo:Nat)(m:Mem)(p q G:Nat)(ws:List By)(h:Fct)(cs:List j5):Prop where
 rs:RS lo m p q ws h
 gp:G≠p
 gq:G≠q
 gl:m.lim≤G
 gn:G<m.next
 glo:lo≤G
 cell:m.get G=some (A9 cs)
theorem GSt.call {lo:Nat}{m m':Mem}{p q G:Nat}{ws t:List By}{h:Fct}{cs:List j5}(s:GSt lo m p q G ws h cs)(X:kL p m m')(k:WS lo m' p t)(ht:∀w∈t,w∈ws)(hl:t.length≤ws.length):GSt lo m' p q G t h cs:=
 ⟨s.rs.call X k ht hl,s.gp,s.gq,by rw [X.lim];exact s.gl,avu s.gn X.next,s.glo,by rw [X.old G s.gn s.gp];exact s.cell⟩
theorem GSt.store {lo:Nat}{m:Mem}{p q G off:Nat}{ws:List By}{h:Fct}{cs cs' vs:List j5}(s:GSt lo m p q G ws h cs)(h0:0<vs.length)(ho:off+vs.length≤cs.length)(h1:O7 vs=true)(hc:cs.take off++vs++cs.drop (off+vs.length)=cs'):
  ∃N,(∀{β:Type} (k:Mem→Option β),storeAt m G off vs k=k N)∧GSt lo N p q G ws h cs'∧kL G m N:=by
 obtain⟨N,st,g,X⟩:=U9 (off:=off) (vs:=vs) s.rs.ok s.gn s.gl s.cell ho h0 h1
 rw [hc] at g
 have r:=s.rs
 refine⟨N,st,⟨⟨X.ok,by rw [X.lim];exact r.lp,by rw [X.lim];exact r.lq,r.pq,r.qlo,avz r.next X.next,r.wk.fr (X.fr (lo:=lo) r.next) (D5 _) (.inl s.glo),by rw [X.old q (avu r.qlo r.next) (axu s.gq)];exact r.cell,r.sh,r.few⟩,s.gp,s.gq,by rw [X.lim];exact s.gl,avu s.gn X.next,s.glo,g⟩,X⟩
theorem GSt.make {lo:Nat}{m:Mem}{p q:Nat}{ws:List By}{h:Fct}(s:RS lo m p q ws h)(cs:List j5):GSt lo (m.new (A9 cs)) p q m.next ws h cs:=by
 have hp:=s.plo
 have hn:=s.next
 have hq:=s.qlo
 have hl:=s.lp
 have E:=(Ext.refl s.ok).new (A9 cs)
 exact⟨⟨E.ok,s.lp,s.lq,s.pq,s.qlo,avz s.next E.next,s.wk.ext s.next E,by rw [E.old q (by omega)];exact s.cell,s.sh,s.few⟩,by omega,by omega,by show m.lim≤_;omega,by simp,s.next,by rw [Mem.T9 s.ok,if_pos rfl]⟩
theorem GSt.frG {lo lo0:Nat}{m m':Mem}{p q G:Nat}{ws:List By}{h:Fct}{cs:List j5}(s:GSt lo m p q G ws h cs)(X:kL G m m')(hp:lo0≤p):Fr lo0 lo0 m m':=by
 have:=s.rs.plo
 have:=s.rs.next
 have:=s.glo
 exact (X.fr (lo:=lo0) (by omega)).mono (by omega)
theorem aaW {lo0:Nat}{m:Mem}(hm:m.Ok)(b:Blk)(h:lo0≤m.next):Fr lo0 lo0 m (m.new b):=((Ext.refl hm).new b).fr h
theorem Mr {v:j5}(h:J5 v=true):O7 [v]=true:=by show bi (J5 v) true false=true;rw [h];rfl
theorem pb6 {h:Fct}(hk:h.kind=6)(ws:List By):parseBody h ws=pW zY ws fun ws=>pN ws fun mday ws=>(pNs [] ws).bind fun p=>some ⟨{h with mday:=mday},[],[],p.1⟩:=by
 unfold parseBody;rw [if_neg (show ¬ h.kind=1 by omega),if_neg (show ¬ h.kind=2 by omega),if_neg (show ¬ h.kind=3 by omega),if_neg (show ¬ h.kind=4 by omega),if_neg (show ¬ h.kind=5 by omega),if_pos hk]
theorem Va {m:Mem}{p q lo0 lo:Nat}{ws:List By}{h:Fct}(s:RS lo m p q ws h)(hk:h.kind=6)(hp0:lo0≤p)(hq0:lo0≤q)(hA:h.A=.nilSlice)(hB:h.B=.nilSlice)(hL:h.L=.nilSlice)(ig:aR h.gn)(id:aR h.gd)(ino:aR h.no)(n fu:Nat)(hfu:1001≤fu):Reads 161 (n+4) fu m p q lo0 lo ws h:=by
 rcases pJ s.ok s.lp s.wk [109,105,120] (n+1) fu with⟨m0,g0,X0,r0⟩ | ⟨t0,m0,g0,X0,w0,e0,r0⟩
 ·refine .inl ⟨m0,?_,s.frP X0 hp0,by rw [pb6 hk];exact r0 _ _⟩
  rw [enter (sf:=f161) rfl rfl]
  simp [f161,C8,trD,G9,o9,l6,j3,g0]
 have s0:=s.call X0 w0 (fun w hw=>by rw [e0];simp [hw]) (by rw [e0];simp)
 rcases dN s0.ok s0.lp s0.next s0.wk s0.sh (n+1) fu with⟨m1,g1,X1,r1⟩ | ⟨vm,x1,t1,m1,g1,X1,w1,e1,_,i1,r1⟩
 ·refine .inl ⟨m1,?_,(s.frP X0 hp0).trans (s0.frP X1 hp0),by rw [pb6 hk];show pW [109,105,120] ws _=none;simp only [r0,r1]⟩
  rw [enter (sf:=f161) rfl rfl]
  simp [f161,C8,trD,G9,o9,l6,j3,j6,g0,g1]
 have s1a:=s0.call X1 w1 (fun w hw=>by rw [e1];simp [hw]) (by rw [e1];simp)
 obtain⟨N1,st1,s1,Y1⟩:=s1a.store (off:=28) (vs:=[.int .i64 vm]) (h':={h with mday:=vm}) (by simp) (by simp) rfl rfl
 have F1:=((s.frP X0 hp0).trans (s0.frP X1 hp0)).trans (s1a.frQ Y1 hq0)
 rcases FP (e:=[]) s1.ok s1.lp s1.next s1.wk s1.sh s1.few n fu hfu with⟨m2,g2,X2,r2⟩ | ⟨v,m2,l,t2,g2,X2,o2,w2,r2,q2,u2⟩
 ·refine .inl ⟨m2,?_,F1.trans (s1.frP X2 hp0),by rw [pb6 hk];show pW [109,105,120] ws _=none;simp only [r0,r1,r2];rfl⟩
  rw [enter (sf:=f161) rfl rfl]
  simp [f161,C8,trD,G9,o9,l6,j3,j6,g0,g1,st1,g2]
 have s2a:=s1.call X2 w2 u2 (by omega)
 have hone:=o2.vs.J5
 obtain⟨N2,st2,s2,Y2⟩:=s2a.store (off:=29) (vs:=[v]) (h':={h with mday:=vm,L:=v}) (by simp) (by simp) (Mr hone) rfl
 have hcell:=o2.vs.cells
 have hpan:=fun {β:Type} (p:j5→β) q=>o2.vs.pan p q
 have hfew:=s1.few
 refine .inr ⟨N2,⟨{h with mday:=vm,L:=v},[],[],l⟩,t2,?_,(F1.trans (s1.frP X2 hp0)).trans (s2a.frQ Y2 hq0),s2,⟨.inl ⟨hA,rfl⟩,.inl ⟨hB,rfl⟩,(o2.Js Y2 (by have:=s1.qlo;have:=s1.next;omega)).sl,ig,id,ino⟩,by simp,by simp,by simp;omega,?_⟩
 ·rw [enter (sf:=f161) rfl rfl]
  simp [f161,C8,trD,G9,o9,l6,j3,j6,g0,g1,st1,g2,st2,hcell,hpan]
 ·rw [pb6 hk]
  show pW [109,105,120] ws _=_
  simp only [r0,r1,r2,avK]
  obtain⟨⟩:=h
  simp only at hA hB hL
  subst hA hB hL
  rfl
theorem pb2 {h:Fct}(hk:h.kind=2)(ws:List By):parseBody h ws=pW jH ws fun ws=>pN ws fun gid ws=>pN ws fun made ws=>pN ws fun nom ws=>pN ws fun tlo ws=>pN ws fun thi ws=>pN ws fun gn ws=>pN ws fun gd ws=>pN ws fun wear ws=>
  some ⟨{h with gid:=gid,made:=made,nom:=nom,tlo:=tlo,thi:=thi,gn:=gn,gd:=gd,wear:=wear},[],[],[]⟩:=by
 unfold parseBody;rw [if_neg (show ¬ h.kind=1 by omega),if_pos hk]
theorem Vb {m:Mem}{p q lo0 lo:Nat}{ws:List By}{h:Fct}(s:RS lo m p q ws h)(hk:h.kind=2)(hp0:lo0≤p)(hq0:lo0≤q)(hA:h.A=.nilSlice)(hB:h.B=.nilSlice)(hL:h.L=.nilSlice)(ig:aR h.gn)(id:aR h.gd)(ino:aR h.no)(n fu:Nat)(hfu:1001≤fu):Reads 152 (n+4) fu m p q lo0 lo ws h:=by
 rcases pJ s.ok s.lp s.wk [103,97,117,103,101] (n+1) fu with⟨m0,g0,X0,r0⟩ | ⟨t0,m0,g0,X0,w0,e0,r0⟩
 ·refine .inl ⟨m0,?_,s.frP X0 hp0,by rw [pb2 hk];exact r0 _ _⟩
  rw [enter (sf:=f152) rfl rfl]
  simp [f152,C8,trD,G9,o9,l6,j3,g0]
 have s0:=s.call X0 w0 (fun w hw=>by rw [e0];simp [hw]) (by rw [e0];simp)
 have F0:=s.frP (lo0:=lo0) X0 hp0
 rcases dN s0.ok s0.lp s0.next s0.wk s0.sh (n+1) fu with⟨m1,g1,X1,r1⟩ | ⟨vgid,x1,t1,m1,g1,X1,w1,e1,_,i1,r1⟩
 ·refine .inl ⟨m1,?_,F0.trans (s0.frP X1 hp0),by rw [pb2 hk];show pW [103,97,117,103,101] ws _=none;simp only [r0,r1,avK]⟩
  rw [enter (sf:=f152) rfl rfl]
  simp [f152,C8,trD,G9,o9,l6,j3,j6,C9,o7,g0,g1]
 have s1a:=s0.call X1 w1 (fun w hw=>by rw [e1];simp [hw]) (by rw [e1];simp<;>omega)
 have s1b:=GSt.make s1a [.int .i64 0,.int .i64 0,.int .i64 0,.int .i64 0,.int .i64 0,.int .i64 0,.int .i64 0,.int .i64 0]
 obtain⟨N1,st1,s1,Y1⟩:=s1b.store (off:=0) (vs:=[.int .i64 vgid,.int .i64 0,.int .i64 0,.int .i64 0,.int .i64 0,.int .i64 0,.int .i64 0,.int .i64 0]) (cs':=[.int .i64 vgid,.int .i64 0,.int .i64 0,.int .i64 0,.int .i64 0,.int .i64 0,.int .i64 0,.int .i64 0]) (by simp) (by simp) rfl rfl
 have F1:=((F0.trans (s0.frP X1 hp0)).trans (aaW s1a.ok _ (by have:=s1a.plo;have:=s1a.next;omega))).trans (s1b.frG Y1 hp0)
 rcases dN s1.rs.ok s1.rs.lp s1.rs.next s1.rs.wk s1.rs.sh (n+1) fu with⟨m2,g2,X2,r2⟩ | ⟨vmade,x2,t2,m2,g2,X2,w2,e2,_,i2,r2⟩
 ·refine .inl ⟨m2,?_,F1.trans (s1.rs.frP X2 hp0),by rw [pb2 hk];show pW [103,97,117,103,101] ws _=none;simp only [r0,r1,r2,avK]⟩
  rw [enter (sf:=f152) rfl rfl]
  simp [f152,C8,trD,G9,o9,l6,j3,j6,C9,o7,g0,g1,g2,st1]
 have s2a:=s1.call X2 w2 (fun w hw=>by rw [e2];simp [hw]) (by rw [e2];simp<;>omega)
 obtain⟨N2,st2,s2,Y2⟩:=s2a.store (off:=1) (vs:=[.int .i64 vmade]) (cs':=[.int .i64 vgid,.int .i64 vmade,.int .i64 0,.int .i64 0,.int .i64 0,.int .i64 0,.int .i64 0,.int .i64 0]) (by simp) (by simp) rfl rfl
 have F2:=(F1.trans (s1.rs.frP X2 hp0)).trans (s2a.frG Y2 hp0)
 rcases dN s2.rs.ok s2.rs.lp s2.rs.next s2.rs.wk s2.rs.sh (n+1) fu with⟨m3,g3,X3,r3⟩ | ⟨vnom,x3,t3,m3,g3,X3,w3,e3,_,i3,r3⟩
 ·refine .inl ⟨m3,?_,F2.trans (s2.rs.frP X3 hp0),by rw [pb2 hk];show pW [103,97,117,103,101] ws _=none;simp only [r0,r1,r2,r3,avK]⟩
  rw [enter (sf:=f152) rfl rfl]
  simp [f152,C8,trD,G9,o9,l6,j3,j6,C9,o7,g0,g1,g2,g3,st1,st2]
 have s3a:=s2.call X3 w3 (fun w hw=>by rw [e3];simp [hw]) (by rw [e3];simp<;>omega)
 obtain⟨N3,st3,s3,Y3⟩:=s3a.store (off:=2) (vs:=[.int .i64 vnom]) (cs':=[.int .i64 vgid,.int .i64 vmade,.int .i64 vnom,.int .i64 0,.int .i64 0,.int .i64 0,.int .i64 0,.int .i64 0]) (by simp) (by simp) rfl rfl
 have F3:=(F2.trans (s2.rs.frP X3 hp0)).trans (s3a.frG Y3 hp0)
 rcases BF s3.rs.ok s3.rs.lp s3.rs.next s3.rs.wk s3.rs.sh (n) fu with⟨m4,g4,X4,r4⟩ | ⟨vtlo,vthi,x4,y4,t4,m4,g4,X4,w4,e4,i4,j4,r4⟩
 ·refine .inl ⟨m4,?_,F3.trans (s3.rs.frP X4 hp0),by rw [pb2 hk];show pW [103,97,117,103,101] ws _=none;simp only [r0,r1,r2,r3,r4,avK]⟩
  rw [enter (sf:=f152) rfl rfl]
  simp [f152,C8,trD,G9,o9,l6,j3,j6,C9,o7,g0,g1,g2,g3,g4,st1,st2,st3]
 have s4a:=s3.call X4 w4 (fun w hw=>by rw [e4];simp [hw]) (by rw [e4];simp<;>omega)
 obtain⟨N4,st4,s4,Y4⟩:=s4a.store (off:=3) (vs:=[.int .i64 vtlo,.int .i64 vthi]) (cs':=[.int .i64 vgid,.int .i64 vmade,.int .i64 vnom,.int .i64 vtlo,.int .i64 vthi,.int .i64 0,.int .i64 0,.int .i64 0]) (by simp) (by simp) rfl rfl
 have F4:=(F3.trans (s3.rs.frP X4 hp0)).trans (s4a.frG Y4 hp0)
 rcases dN s4.rs.ok s4.rs.lp s4.rs.next s4.rs.wk s4.rs.sh (n+1) fu with⟨m5,g5,X5,r5⟩ | ⟨vgn,x5,t5,m5,g5,X5,w5,e5,_,i5,r5⟩
 ·refine .inl ⟨m5,?_,F4.trans (s4.rs.frP X5 hp0),by rw [pb2 hk];show pW [103,97,117,103,101] ws _=none;simp only [r0,r1,r2,r3,r4,r5,avK]⟩
  rw [enter (sf:=f152) rfl rfl]
  simp [f152,C8,trD,G9,o9,l6,j3,j6,C9,o7,g0,g1,g2,g3,g4,g5,st1,st2,st3,st4]
 have s5a:=s4.call X5 w5 (fun w hw=>by rw [e5];simp [hw]) (by rw [e5];simp<;>omega)
 obtain⟨N5,st5,s5,Y5⟩:=s5a.store (off:=5) (vs:=[.int .i64 vgn]) (cs':=[.int .i64 vgid,.int .i64 vmade,.int .i64 vnom,.int .i64 vtlo,.int .i64 vthi,.int .i64 vgn,.int .i64 0,.int .i64 0]) (by simp) (by simp) rfl rfl
 have F5:=(F4.trans (s4.rs.frP X5 hp0)).trans (s5a.frG Y5 hp0)
 rcases dN s5.rs.ok s5.rs.lp s5.rs.next s5.rs.wk s5.rs.sh (n+1) fu with⟨m6,g6,X6,r6⟩ | ⟨vgd,x6,t6,m6,g6,X6,w6,e6,_,i6,r6⟩
 ·refine .inl ⟨m6,?_,F5.trans (s5.rs.frP X6 hp0),by rw [pb2 hk];show pW [103,97,117,103,101] ws _=none;simp only [r0,r1,r2,r3,r4,r5,r6,avK]⟩
  rw [enter (sf:=f152) rfl rfl]
  simp [f152,C8,trD,G9,o9,l6,j3,j6,C9,o7,g0,g1,g2,g3,g4,g5,g6,st1,st2,st3,st4,st5]
 have s6a:=s5.call X6 w6 (fun w hw=>by rw [e6];simp [hw]) (by rw [e6];simp<;>omega)
 obtain⟨N6,st6,s6,Y6⟩:=s6a.store (off:=6) (vs:=[.int .i64 vgd]) (cs':=[.int .i64 vgid,.int .i64 vmade,.int .i64 vnom,.int .i64 vtlo,.int .i64 vthi,.int .i64 vgn,.int .i64 vgd,.int .i64 0]) (by simp) (by simp) rfl rfl
 have F6:=(F5.trans (s5.rs.frP X6 hp0)).trans (s6a.frG Y6 hp0)
 rcases dN s6.rs.ok s6.rs.lp s6.rs.next s6.rs.wk s6.rs.sh (n+1) fu with⟨m7,g7,X7,r7⟩ | ⟨vwear,x7,t7,m7,g7,X7,w7,e7,_,i7,r7⟩
 ·refine .inl ⟨m7,?_,F6.trans (s6.rs.frP X7 hp0),by rw [pb2 hk];show pW [103,97,117,103,101] ws _=none;simp only [r0,r1,r2,r3,r4,r5,r6,r7,avK]⟩
  rw [enter (sf:=f152) rfl rfl]
  simp [f152,C8,trD,G9,o9,l6,j3,j6,C9,o7,g0,g1,g2,g3,g4,g5,g6,g7,st1,st2,st3,st4,st5,st6]
 have s7a:=s6.call X7 w7 (fun w hw=>by rw [e7];simp [hw]) (by rw [e7];simp<;>omega)
 obtain⟨N7,st7,s7,Y7⟩:=s7a.store (off:=7) (vs:=[.int .i64 vwear]) (cs':=[.int .i64 vgid,.int .i64 vmade,.int .i64 vnom,.int .i64 vtlo,.int .i64 vthi,.int .i64 vgn,.int .i64 vgd,.int .i64 vwear]) (by simp) (by simp) rfl rfl
 have F7:=(F6.trans (s6.rs.frP X7 hp0)).trans (s7a.frG Y7 hp0)
 obtain⟨N,st,sN,Y⟩:=s7.rs.store (off:=6) (vs:=[.int .i64 vgid,.int .i64 vmade,.int .i64 vnom,.int .i64 vtlo,.int .i64 vthi,.int .i64 vgn,.int .i64 vgd,.int .i64 vwear]) (h':={h with gid:=vgid,made:=vmade,nom:=vnom,tlo:=vtlo,thi:=vthi,gn:=vgn,gd:=vgd,wear:=vwear}) (by simp) (by simp) rfl rfl
 have FN:=F7.trans (s7.rs.frQ Y hq0)
 have hload:=s7.cell
 refine .inr ⟨N,⟨{h with gid:=vgid,made:=vmade,nom:=vnom,tlo:=vtlo,thi:=vthi,gn:=vgn,gd:=vgd,wear:=vwear},[],[],[]⟩,t7,?_,FN,sN,⟨.inl ⟨hA,rfl⟩,.inl ⟨hB,rfl⟩,.inl ⟨hL,rfl⟩,i5,i6,ino⟩,by simp,by simp,by simp,?_⟩
 ·rw [enter (sf:=f152) rfl rfl]
  simp [f152,C8,trD,G9,o9,l6,j3,j6,C9,o7,hload,g0,g1,g2,g3,g4,g5,g6,g7,st1,st2,st3,st4,st5,st6,st7,st]
 ·rw [pb2 hk]
  show pW [103,97,117,103,101] ws _=_
  simp only [r0,r1,r2,r3,r4,r5,r6,r7]
  obtain⟨⟩:=h
  simp only at hA hB hL
  subst hA hB hL
  rfl
theorem pb5 {h:Fct}(hk:h.kind=5)(ws:List By):parseBody h ws=pW P5 ws fun ws=>pN ws fun cday ws=>pN ws fun diff ws=>pN ws fun err ws=>pN ws fun hlo ws=>pN ws fun hhi ws=>pW kA ws fun ws=>(pNs kB ws).bind fun p=>pW kB p.2 fun ws=>(pNs [] ws).bind fun q=>
  some ⟨{h with cday:=cday,diff:=diff,err:=err,hlo:=hlo,hhi:=hhi},p.1,q.1,[]⟩:=by
 unfold parseBody;rw [if_neg (show ¬ h.kind=1 by omega),if_neg (show ¬ h.kind=2 by omega),if_neg (show ¬ h.kind=3 by omega),if_neg (show ¬ h.kind=4 by omega),if_pos hk]
theorem Vd {m:Mem}{p q lo0 lo:Nat}{ws:List By}{h:Fct}(s:RS lo m p q ws h)(hk:h.kind=5)(hcid:h.cid=0)(hp0:lo0≤p)(hq0:lo0≤q)(hA:h.A=.nilSlice)(hB:h.B=.nilSlice)(hL:h.L=.nilSlice)(ig:aR h.gn)(id:aR h.gd)(ino:aR h.no)(n fu:Nat)(hfu:1001≤fu):Reads 158 (n+4) fu m p q lo0 lo ws h:=by
 rcases pJ s.ok s.lp s.wk [99,111,109,112,97,114,101] (n+1) fu with⟨m0,g0,X0,r0⟩ | ⟨t0,m0,g0,X0,w0,e0,r0⟩
 ·refine .inl ⟨m0,?_,s.frP X0 hp0,by rw [pb5 hk];exact r0 _ _⟩
  rw [enter (sf:=f158) rfl rfl]
  simp [f158,C8,trD,G9,o9,l6,j3,g0]
 have s0:=s.call X0 w0 (fun w hw=>by rw [e0];simp [hw]) (by rw [e0];simp)
 have F0:=s.frP (lo0:=lo0) X0 hp0
 rcases dN s0.ok s0.lp s0.next s0.wk s0.sh (n+1) fu with⟨m1,g1,X1,r1⟩ | ⟨vcday,x1,t1,m1,g1,X1,w1,e1,_,i1,r1⟩
 ·refine .inl ⟨m1,?_,F0.trans (s0.frP X1 hp0),by rw [pb5 hk];show pW [99,111,109,112,97,114,101] ws _=none;simp only [r0,r1,avK]⟩
  rw [enter (sf:=f158) rfl rfl]
  simp [f158,C8,trD,G9,o9,l6,j3,j6,C9,o7,g0,g1]
 have s1a:=s0.call X1 w1 (fun w hw=>by rw [e1];simp [hw]) (by rw [e1];simp<;>omega)
 have s1b:=GSt.make s1a [.int .i64 0,.int .i64 0,.nilSlice,.nilSlice,.int .i64 0,.int .i64 0,.int .i64 0,.int .i64 0]
 obtain⟨N1,st1,s1,Y1⟩:=s1b.store (off:=0) (vs:=[.int .i64 0,.int .i64 vcday,.nilSlice,.nilSlice,.int .i64 0,.int .i64 0,.int .i64 0,.int .i64 0]) (cs':=[.int .i64 0,.int .i64 vcday,.nilSlice,.nilSlice,.int .i64 0,.int .i64 0,.int .i64 0,.int .i64 0]) (by simp) (by simp) rfl rfl
 have F1:=((F0.trans (s0.frP X1 hp0)).trans (aaW s1a.ok _ (by have:=s1a.plo;have:=s1a.next;omega))).trans (s1b.frG Y1 hp0)
 rcases dN s1.rs.ok s1.rs.lp s1.rs.next s1.rs.wk s1.rs.sh (n+1) fu with⟨m2,g2,X2,r2⟩ | ⟨vdiff,x2,t2,m2,g2,X2,w2,e2,_,i2,r2⟩
 ·refine .inl ⟨m2,?_,F1.trans (s1.rs.frP X2 hp0),by rw [pb5 hk];show pW [99,111,109,112,97,114,101] ws _=none;simp only [r0,r1,r2,avK]⟩
  rw [enter (sf:=f158) rfl rfl]
  simp [f158,C8,trD,G9,o9,l6,j3,j6,C9,o7,g0,g1,g2,st1]
 have s2a:=s1.call X2 w2 (fun w hw=>by rw [e2];simp [hw]) (by rw [e2];simp<;>omega)
 obtain⟨N2,st2,s2,Y2⟩:=s2a.store (off:=4) (vs:=[.int .i64 vdiff]) (cs':=[.int .i64 0,.int .i64 vcday,.nilSlice,.nilSlice,.int .i64 vdiff,.int .i64 0,.int .i64 0,.int .i64 0]) (by simp) (by simp) rfl rfl
 have F2:=(F1.trans (s1.rs.frP X2 hp0)).trans (s2a.frG Y2 hp0)
 rcases dN s2.rs.ok s2.rs.lp s2.rs.next s2.rs.wk s2.rs.sh (n+1) fu with⟨m3,g3,X3,r3⟩ | ⟨verr,x3,t3,m3,g3,X3,w3,e3,_,i3,r3⟩
 ·refine .inl ⟨m3,?_,F2.trans (s2.rs.frP X3 hp0),by rw [pb5 hk];show pW [99,111,109,112,97,114,101] ws _=none;simp only [r0,r1,r2,r3,avK]⟩
  rw [enter (sf:=f158) rfl rfl]
  simp [f158,C8,trD,G9,o9,l6,j3,j6,C9,o7,g0,g1,g2,g3,st1,st2]
 have s3a:=s2.call X3 w3 (fun w hw=>by rw [e3];simp [hw]) (by rw [e3];simp<;>omega)
 obtain⟨N3,st3,s3,Y3⟩:=s3a.store (off:=5) (vs:=[.int .i64 verr]) (cs':=[.int .i64 0,.int .i64 vcday,.nilSlice,.nilSlice,.int .i64 vdiff,.int .i64 verr,.int .i64 0,.int .i64 0]) (by simp) (by simp) rfl rfl
 have F3:=(F2.trans (s2.rs.frP X3 hp0)).trans (s3a.frG Y3 hp0)
 rcases BF s3.rs.ok s3.rs.lp s3.rs.next s3.rs.wk s3.rs.sh (n) fu with⟨m4,g4,X4,r4⟩ | ⟨vhlo,vhhi,x4,y4,t4,m4,g4,X4,w4,e4,i4,j4,r4⟩
 ·refine .inl ⟨m4,?_,F3.trans (s3.rs.frP X4 hp0),by rw [pb5 hk];show pW [99,111,109,112,97,114,101] ws _=none;simp only [r0,r1,r2,r3,r4,avK]⟩
  rw [enter (sf:=f158) rfl rfl]
  simp [f158,C8,trD,G9,o9,l6,j3,j6,C9,o7,g0,g1,g2,g3,g4,st1,st2,st3]
 have s4a:=s3.call X4 w4 (fun w hw=>by rw [e4];simp [hw]) (by rw [e4];simp<;>omega)
 obtain⟨N4,st4,s4,Y4⟩:=s4a.store (off:=6) (vs:=[.int .i64 vhlo,.int .i64 vhhi]) (cs':=[.int .i64 0,.int .i64 vcday,.nilSlice,.nilSlice,.int .i64 vdiff,.int .i64 verr,.int .i64 vhlo,.int .i64 vhhi]) (by simp) (by simp) rfl rfl
 have F4:=(F3.trans (s3.rs.frP X4 hp0)).trans (s4a.frG Y4 hp0)
 rcases pJ s4.rs.ok s4.rs.lp s4.rs.wk [97] (n+1) fu with⟨m5,g5,X5,r5⟩ | ⟨t5,m5,g5,X5,w5,e5,r5⟩
 ·refine .inl ⟨m5,?_,F4.trans (s4.rs.frP X5 hp0),by rw [pb5 hk];show pW [99,111,109,112,97,114,101] ws _=none;simp only [r0,r1,r2,r3,r4,avK];exact r5 _ _⟩
  rw [enter (sf:=f158) rfl rfl]
  simp [f158,C8,trD,G9,o9,l6,j3,j6,C9,o7,g0,g1,g2,g3,g4,g5,st1,st2,st3,st4]
 have s5:=s4.call X5 w5 (fun w hw=>by rw [e5];simp [hw]) (by rw [e5];simp<;>omega)
 have F5:=F4.trans (s4.rs.frP X5 hp0)
 have R5:∀(α:Type) (k:List By→Option α),pW kA t4 k=k t5:=r5
 rcases FP (e:=[98]) s5.rs.ok s5.rs.lp s5.rs.next s5.rs.wk s5.rs.sh s5.rs.few n fu hfu with⟨m6,g6,X6,r6⟩ | ⟨vA,m6,lA,t6,g6,X6,oA,w6,r6,q6,u6⟩
 ·refine .inl ⟨m6,?_,F5.trans (s5.rs.frP X6 hp0),by rw [pb5 hk];show pW [99,111,109,112,97,114,101] ws _=none;simp only [r0,r1,r2,r3,r4,R5,avK];rw [show pNs kB t5=none from r6];rfl⟩
  rw [enter (sf:=f158) rfl rfl]
  simp [f158,C8,trD,G9,o9,l6,j3,j6,C9,o7,g0,g1,g2,g3,g4,g5,g6,st1,st2,st3,st4]
 have honeA:=oA.vs.J5
 have hcellA:=oA.vs.cells
 have hpanA:=fun {β:Type} (p:j5→β) q=>oA.vs.pan p q
 have s6a:=s5.call X6 w6 u6 (by omega)
 obtain⟨N6,st6,s6,Y6⟩:=s6a.store (off:=2) (vs:=[vA]) (cs':=[.int .i64 0,.int .i64 vcday,vA,.nilSlice,.int .i64 vdiff,.int .i64 verr,.int .i64 vhlo,.int .i64 vhhi]) (by simp) (by simp) (Mr honeA) rfl
 have F6:=(F5.trans (s5.rs.frP X6 hp0)).trans (s6a.frG Y6 hp0)
 have OA:=oA.Js Y6 s5.gn
 have R6:pNs kB t5=some (lA,t6):=r6
 rcases pJ s6.rs.ok s6.rs.lp s6.rs.wk [98] (n+1) fu with⟨m7,g7,X7,r7⟩ | ⟨t7,m7,g7,X7,w7,e7,r7⟩
 ·refine .inl ⟨m7,?_,F6.trans (s6.rs.frP X7 hp0),by rw [pb5 hk];show pW [99,111,109,112,97,114,101] ws _=none;simp only [r0,r1,r2,r3,r4,R5,R6,avK];exact r7 _ _⟩
  rw [enter (sf:=f158) rfl rfl]
  simp [f158,C8,trD,G9,o9,l6,j3,j6,C9,o7,g0,g1,g2,g3,g4,g5,g6,g7,st1,st2,st3,st4,st6,hcellA,hpanA]
 have s7:=s6.call X7 w7 (fun w hw=>by rw [e7];simp [hw]) (by rw [e7];simp<;>omega)
 have F7:=F6.trans (s6.rs.frP X7 hp0)
 have R7:∀(α:Type) (k:List By→Option α),pW kB t6 k=k t7:=r7
 rcases FP (e:=[]) s7.rs.ok s7.rs.lp s7.rs.next s7.rs.wk s7.rs.sh s7.rs.few n fu hfu with⟨m8,g8,X8,r8⟩ | ⟨vB,m8,lB,t8,g8,X8,oB,w8,r8,q8,u8⟩
 ·refine .inl ⟨m8,?_,F7.trans (s7.rs.frP X8 hp0),by rw [pb5 hk];show pW [99,111,109,112,97,114,101] ws _=none;simp only [r0,r1,r2,r3,r4,R5,R6,R7,avK];rw [show pNs [] t7=none from r8];rfl⟩
  rw [enter (sf:=f158) rfl rfl]
  simp [f158,C8,trD,G9,o9,l6,j3,j6,C9,o7,g0,g1,g2,g3,g4,g5,g6,g7,g8,st1,st2,st3,st4,st6,hcellA,hpanA]
 have honeB:=oB.vs.J5
 have hcellB:=oB.vs.cells
 have hpanB:=fun {β:Type} (p:j5→β) q=>oB.vs.pan p q
 have s8a:=s7.call X8 w8 u8 (by omega)
 obtain⟨N8,st8,s8,Y8⟩:=s8a.store (off:=3) (vs:=[vB]) (cs':=[.int .i64 0,.int .i64 vcday,vA,vB,.int .i64 vdiff,.int .i64 verr,.int .i64 vhlo,.int .i64 vhhi]) (by simp) (by simp) (Mr honeB) rfl
 have F8:=(F7.trans (s7.rs.frP X8 hp0)).trans (s8a.frG Y8 hp0)
 have OB:=oB.Js Y8 s7.gn
 have R8:pNs [] t7=some (lB,t8):=r8
 obtain⟨N,st,sN,Y⟩:=s8.rs.store (off:=20) (vs:=[.int .i64 0,.int .i64 vcday,vA,vB,.int .i64 vdiff,.int .i64 verr,.int .i64 vhlo,.int .i64 vhhi]) (h':={h with cid:=0,cday:=vcday,diff:=vdiff,err:=verr,hlo:=vhlo,hhi:=vhhi,A:=vA,B:=vB}) (by simp) (by simp) (by simp [honeA,honeB,show ∀k x,J5 (.int k x)=true from fun _ _=>rfl]) rfl
 have FN:=F8.trans (s8.rs.frQ Y hq0)
 have hload:=s8.cell
 have hf5:=s5.rs.few
 have hf7:=s7.rs.few
 refine .inr ⟨N,⟨{h with cid:=0,cday:=vcday,diff:=vdiff,err:=verr,hlo:=vhlo,hhi:=vhhi,A:=vA,B:=vB},lA,lB,[]⟩,t8,?_,FN,sN,⟨?_,(OB.Js Y (by have:=s7.rs.qlo;have:=s7.rs.next;omega)).sl,.inl ⟨hL,rfl⟩,ig,id,ino⟩,by simp;omega,by simp;omega,by simp,?_⟩
 ·rw [enter (sf:=f158) rfl rfl]
  simp [f158,C8,trD,G9,o9,l6,j3,j6,C9,o7,hload,g0,g1,g2,g3,g4,g5,g6,g7,g8,st1,st2,st3,st4,st6,st8,hcellA,hpanA,hcellB,hpanB,st]
 ·have O1:=OA.Js X7 (by have:=s5.rs.plo;have:=s5.rs.next;omega)
  have O2:=O1.Js X8 (by have:=s5.rs.plo;have:=s5.rs.next;omega)
  have O3:=O2.Js Y8 s5.gn
  exact (O3.Js Y (by have:=s5.rs.qlo;have:=s5.rs.next;omega)).sl
 ·rw [pb5 hk]
  show pW [99,111,109,112,97,114,101] ws _=_
  simp only [r0,r1,r2,r3,r4,R5,R6,R7,R8,avK]
  obtain⟨⟩:=h
  simp only at hA hB hL hcid
  subst hA hB hL hcid
  rfl
noncomputable def K7:List (j5×j5):=[(.int .i64 1,.agg [.func (.func 148) [] [],.func (.func 149) [] []]),(.int .i64 2,.agg [.func (.func 151) [] [],.func (.func 152) [] []]),(.int .i64 3,.agg [.func (.func 153) [] [],.func (.func 154) [] []]),(.int .i64 4,.agg [.func (.func 155) [] [],.func (.func 156) [] []]),(.int .i64 5,.agg [.func (.func 157) [] [],.func (.func 158) [] []]),(.int .i64 6,.agg [.func (.func 160) [] [],.func (.func 161) [] []]),(.int .i64 7,.agg [.func (.func 162) [] [],.func (.func 163) [] []])]
theorem uS (n fu:Nat)(m:Mem)(hm:m.Ok)(hl:m.lim≤m.next):D6 KW fu (n+1) (.func 81) [] m=some [⟨.map m.next,ext m [.map K7]⟩]:=by
 rw [enter (sf:=f81) rfl rfl]
 have hbl:Nat.blt m.next m.lim=false:=by have:=uP hl [];rwa [iR] at this
 simp [f81,C8,trD,G9,o9,l6,j3,x9,z8,O6 hm hl,C9,j6,o7,o8,J5,tJ,hbl,Fv,nL,K5,J8,K4,M9,K7]
theorem Pg {r s:FR}(h:r.cn=s.cn):r.a=s.a∧r.b=s.b∧r.l=s.l:=by
 refine⟨?_,?_,?_⟩
 ·have:r.cn.a=s.cn.a:=by rw [h]
  exact this
 ·have:r.cn.b=s.cn.b:=by rw [h]
  exact this
 ·have:r.cn.l=s.cn.l:=by rw [h]
  exact this
theorem xC {r:FR}(h:r.valid=true):r.small=true:=by
 have hb:=dh h
 obtain⟨e1,e2,e3⟩:=Pg (tO h)
 have e1:r.a=if r.f.kind=5 then r.a else []:=e1
 have e2:r.b=if r.f.kind=5 then r.b else []:=e2
 have e3:r.l=if r.f.kind=6 then r.l else []:=e3
 have h1:r.a.length≤9∧r.b.length≤9:=by
  by_cases h5:r.f.kind=5
  ·obtain⟨_,_,_,la,lb⟩:=hb.k5 h5
   omega
  ·rw [if_neg h5] at e1 e2
   rw [e1,e2];simp
 have h2:r.l.length≤9:=by
  by_cases h6:r.f.kind=6
  ·obtain⟨_,_,ll⟩:=hb.k6 h6
   omega
  ·rw [if_neg h6] at e3
   rw [e3];simp
 simp only [FR.small,avv,decide_eq_true_eq]
 exact⟨h1.1,h1.2,h2⟩
theorem DY (f:j5→j5→Bool):∀(l:List j5),(∀x∈l,f x x=true)→Ah f l l=true
 | [],_=>rfl
 | x::l,h=>by
  show bi (f x x) (Ah f l l) false=true
  rw [h x (by simp),DY f l (fun y hy=>h y (by simp [hy]))];rfl
theorem iC {m:Mem}{r:FR}(hr:eu m r):dH 100 (.agg r.f.cells) (.agg r.f.cells)=true:=by
 show Ah (dH 99) r.f.cells r.f.cells=true
 refine DY _ _ fun x hx=>?_
 have ha:dH 99 r.f.A r.f.A=true:=gF hr.a 98
 have hb:dH 99 r.f.B r.f.B=true:=gF hr.b 98
 have hl:dH 99 r.f.L r.f.L=true:=gF hr.l 98
 have hi:∀k n,dH 99 (.int k n) (.int k n)=true:=fun k n=>I6 98 k n
 simp only [Fct.cells,avL,awV,or_false] at hx
 rcases hx with rfl | rfl | rfl | rfl | rfl | rfl | rfl | rfl | rfl | rfl | rfl | rfl | rfl | rfl | rfl | rfl | rfl | rfl | rfl | rfl | rfl | rfl | rfl | rfl | rfl | rfl | rfl | rfl | rfl | rfl | rfl | rfl<;>first | exact hi _ _ | exact ha | exact hb | exact hl
theorem eu.at' {m:Mem}{r:FR}(k:eu m r)(ha:r.a.length<1000)(hb:r.b.length<1000)(hl:r.l.length<1000):aT m r.f r.a r.b r.l:=⟨k.a,k.b,k.l,ha,hb,hl⟩
theorem aaX {m:Mem}{r:FR}(hm:m.Ok)(hl:m.lim≤m.next)(hr:eu m r)(hv:r.valid=true)(hk:r.f.kind=1)(n fu:Nat)(hfu:1001≤fu):
  ∃m',D6 KW fu (n+3) (.func 148) [.agg r.f.cells] m=some [⟨.str (U7 r),m'⟩]∧Ext m m':=by
 have hb:=dh hv
 rw [U7,if_pos hk]
 exact⟨_,UJ hm hl (by simpa using hb.k1 hk) n fu hfu,D8 hm _⟩
theorem akI {m:Mem}{r:FR}(hm:m.Ok)(hl:m.lim≤m.next)(hr:eu m r)(hv:r.valid=true)(hk:r.f.kind=1)(n fu:Nat)(hfu:1001≤fu):
  ∃m',D6 KW fu (n+4) (.func 37) [.agg r.f.cells] m=some [⟨.str (N9 r),m'⟩]∧Ext m m':=by
 let L:List Blk:=[A9 r.f.cells,.cells 1 4 (T.ofList [[.int .i64 r.f.room],[.int .i64 r.f.no],[.int .i64 r.f.known],[.int .i64 r.f.kind]])]
 have c:D6 KW fu (n+3) (.func 80) [.str [102,97,99,116],.slice (m.next+1) 0 4 4] (ext m L)=some [⟨.str (J3 O4 (J7 r)),ext m L⟩]:=
  gQ (xs:=J7 r) (dO (xs:=J7 r) (by rw [l8 hm];rfl) (by simp [L]) rfl) (by simp [J7]) (jI hv) O4 (by simp [O4]) (n+1) fu hfu
 have c2:=uS (n+2) fu (ext m L) (J4 hm _) (by simp [L];omega)
 have hlook:∀(mp k:OF) ls env,mp ls env=.map (m.next+2)→k ls env=.int .i64 1→iU cO 1 (.agg [.nilFunc,.nilFunc]) false mp k ls env (ext m (L ++ [.map K7]))=some (.agg [.func (.func 148) [] [],.func (.func 149) [] []]):=by
  intro mp k ls env e1 e2
  rw [Z9 _ _ _ _ _ _ _ _ _ _ K7 e1 (by rw [l8 hm];rfl),e2]
  simp [K7,K5,J8,K4,M9]
  try rfl
 have E0:=D8 hm (L ++ [.map K7])
 obtain⟨m3,g3,E3⟩:=aaX (J4 hm (L ++ [.map K7])) (by simp [L];omega) (hr.ext E0) hv hk n fu hfu
 refine⟨m3,?_,E0.trans E3⟩
 have l1:=eH hv
 have l2:=gI hv
 have s1:bG (J3 O4 (J7 r)) [10]=some (.str (J3 O4 (J7 r) ++ [10])):=Q9 (by simp;omega)
 have s2:bG (J3 O4 (J7 r) ++ [10]) (U7 r)=some (.str (J3 O4 (J7 r) ++ [10]++U7 r)):=Q9 (by simp;omega)
 have s3:bG (J3 O4 (J7 r)++10::U7 r) [10]=some (.str (N9 r)):=by
  have:=Q9 (a:=J3 O4 (J7 r)++10::U7 r) (b:=[10]) (by simp;omega)
  rw [this];simp [N9]
 have sm:=iC hr
 rw [enter (sf:=f37) rfl rfl]
 simp only [L,awG,avT] at c c2 g3 hlook
 rw [hk] at c c2 g3 hlook
 simp [f37,C8,trD,G9,o9,l6,j3,x9,z8,O6 hm hl,C9,j6,o7,o8,J5,M4,U4,U3,isVoid,I6,avw,hk,c,c2,hlook,g3,s1,s2,s3,sm]
theorem aaY {m:Mem}{r:FR}(hm:m.Ok)(hl:m.lim≤m.next)(hr:eu m r)(hv:r.valid=true)(hk:r.f.kind=2)(n fu:Nat)(hfu:1001≤fu):
  ∃m',D6 KW fu (n+3) (.func 151) [.agg r.f.cells] m=some [⟨.str (U7 r),m'⟩]∧Ext m m':=by
 have hb:=dh hv
 rw [U7,if_neg (show ¬ r.f.kind=1 by omega),if_pos hk]
 exact⟨_,UK hm hl (by simpa using hb.k2 hk) n fu hfu,D8 hm _⟩
theorem akJ {m:Mem}{r:FR}(hm:m.Ok)(hl:m.lim≤m.next)(hr:eu m r)(hv:r.valid=true)(hk:r.f.kind=2)(n fu:Nat)(hfu:1001≤fu):
  ∃m',D6 KW fu (n+4) (.func 37) [.agg r.f.cells] m=some [⟨.str (N9 r),m'⟩]∧Ext m m':=by
 let L:List Blk:=[A9 r.f.cells,.cells 1 4 (T.ofList [[.int .i64 r.f.room],[.int .i64 r.f.no],[.int .i64 r.f.known],[.int .i64 r.f.kind]])]
 have c:D6 KW fu (n+3) (.func 80) [.str [102,97,99,116],.slice (m.next+1) 0 4 4] (ext m L)=some [⟨.str (J3 O4 (J7 r)),ext m L⟩]:=
  gQ (xs:=J7 r) (dO (xs:=J7 r) (by rw [l8 hm];rfl) (by simp [L]) rfl) (by simp [J7]) (jI hv) O4 (by simp [O4]) (n+1) fu hfu
 have c2:=uS (n+2) fu (ext m L) (J4 hm _) (by simp [L];omega)
 have hlook:∀(mp k:OF) ls env,mp ls env=.map (m.next+2)→k ls env=.int .i64 2→iU cO 1 (.agg [.nilFunc,.nilFunc]) false mp k ls env (ext m (L ++ [.map K7]))=some (.agg [.func (.func 151) [] [],.func (.func 152) [] []]):=by
  intro mp k ls env e1 e2
  rw [Z9 _ _ _ _ _ _ _ _ _ _ K7 e1 (by rw [l8 hm];rfl),e2]
  simp [K7,K5,J8,K4,M9]
  try rfl
 have E0:=D8 hm (L ++ [.map K7])
 obtain⟨m3,g3,E3⟩:=aaY (J4 hm (L ++ [.map K7])) (by simp [L];omega) (hr.ext E0) hv hk n fu hfu
 refine⟨m3,?_,E0.trans E3⟩
 have l1:=eH hv
 have l2:=gI hv
 have s1:bG (J3 O4 (J7 r)) [10]=some (.str (J3 O4 (J7 r) ++ [10])):=Q9 (by simp;omega)
 have s2:bG (J3 O4 (J7 r) ++ [10]) (U7 r)=some (.str (J3 O4 (J7 r) ++ [10]++U7 r)):=Q9 (by simp;omega)
 have s3:bG (J3 O4 (J7 r)++10::U7 r) [10]=some (.str (N9 r)):=by
  have:=Q9 (a:=J3 O4 (J7 r)++10::U7 r) (b:=[10]) (by simp;omega)
  rw [this];simp [N9]
 have sm:=iC hr
 rw [enter (sf:=f37) rfl rfl]
 simp only [L,awG,avT] at c c2 g3 hlook
 rw [hk] at c c2 g3 hlook
 simp [f37,C8,trD,G9,o9,l6,j3,x9,z8,O6 hm hl,C9,j6,o7,o8,J5,M4,U4,U3,isVoid,I6,avw,hk,c,c2,hlook,g3,s1,s2,s3,sm]
theorem aaZ {m:Mem}{r:FR}(hm:m.Ok)(hl:m.lim≤m.next)(hr:eu m r)(hv:r.valid=true)(hk:r.f.kind=3)(n fu:Nat)(hfu:1001≤fu):
  ∃m',D6 KW fu (n+3) (.func 153) [.agg r.f.cells] m=some [⟨.str (U7 r),m'⟩]∧Ext m m':=by
 have hb:=dh hv
 rw [U7,if_neg (show ¬ r.f.kind=1 by omega),if_neg (show ¬ r.f.kind=2 by omega),if_pos hk]
 exact⟨_,UL hm hl (by simpa using hb.k3 hk) n fu hfu,D8 hm _⟩
theorem akK {m:Mem}{r:FR}(hm:m.Ok)(hl:m.lim≤m.next)(hr:eu m r)(hv:r.valid=true)(hk:r.f.kind=3)(n fu:Nat)(hfu:1001≤fu):
  ∃m',D6 KW fu (n+4) (.func 37) [.agg r.f.cells] m=some [⟨.str (N9 r),m'⟩]∧Ext m m':=by
 let L:List Blk:=[A9 r.f.cells,.cells 1 4 (T.ofList [[.int .i64 r.f.room],[.int .i64 r.f.no],[.int .i64 r.f.known],[.int .i64 r.f.kind]])]
 have c:D6 KW fu (n+3) (.func 80) [.str [102,97,99,116],.slice (m.next+1) 0 4 4] (ext m L)=some [⟨.str (J3 O4 (J7 r)),ext m L⟩]:=
  gQ (xs:=J7 r) (dO (xs:=J7 r) (by rw [l8 hm];rfl) (by simp [L]) rfl) (by simp [J7]) (jI hv) O4 (by simp [O4]) (n+1) fu hfu
 have c2:=uS (n+2) fu (ext m L) (J4 hm _) (by simp [L];omega)
 have hlook:∀(mp k:OF) ls env,mp ls env=.map (m.next+2)→k ls env=.int .i64 3→iU cO 1 (.agg [.nilFunc,.nilFunc]) false mp k ls env (ext m (L ++ [.map K7]))=some (.agg [.func (.func 153) [] [],.func (.func 154) [] []]):=by
  intro mp k ls env e1 e2
  rw [Z9 _ _ _ _ _ _ _ _ _ _ K7 e1 (by rw [l8 hm];rfl),e2]
  simp [K7,K5,J8,K4,M9]
  try rfl
 have E0:=D8 hm (L ++ [.map K7])
 obtain⟨m3,g3,E3⟩:=aaZ (J4 hm (L ++ [.map K7])) (by simp [L];omega) (hr.ext E0) hv hk n fu hfu
 refine⟨m3,?_,E0.trans E3⟩
 have l1:=eH hv
 have l2:=gI hv
 have s1:bG (J3 O4 (J7 r)) [10]=some (.str (J3 O4 (J7 r) ++ [10])):=Q9 (by simp;omega)
 have s2:bG (J3 O4 (J7 r) ++ [10]) (U7 r)=some (.str (J3 O4 (J7 r) ++ [10]++U7 r)):=Q9 (by simp;omega)
 have s3:bG (J3 O4 (J7 r)++10::U7 r) [10]=some (.str (N9 r)):=by
  have:=Q9 (a:=J3 O4 (J7 r)++10::U7 r) (b:=[10]) (by simp;omega)
  rw [this];simp [N9]
 have sm:=iC hr
 rw [enter (sf:=f37) rfl rfl]
 simp only [L,awG,avT] at c c2 g3 hlook
 rw [hk] at c c2 g3 hlook
 simp [f37,C8,trD,G9,o9,l6,j3,x9,z8,O6 hm hl,C9,j6,o7,o8,J5,M4,U4,U3,isVoid,I6,avw,hk,c,c2,hlook,g3,s1,s2,s3,sm]
theorem ab0 {m:Mem}{r:FR}(hm:m.Ok)(hl:m.lim≤m.next)(hr:eu m r)(hv:r.valid=true)(hk:r.f.kind=4)(n fu:Nat)(hfu:1001≤fu):
  ∃m',D6 KW fu (n+3) (.func 155) [.agg r.f.cells] m=some [⟨.str (U7 r),m'⟩]∧Ext m m':=by
 have hb:=dh hv
 rw [U7,if_neg (show ¬ r.f.kind=1 by omega),if_neg (show ¬ r.f.kind=2 by omega),if_neg (show ¬ r.f.kind=3 by omega),if_pos hk]
 exact⟨_,UM hm hl (by simpa using hb.k4 hk) n fu hfu,D8 hm _⟩
theorem akL {m:Mem}{r:FR}(hm:m.Ok)(hl:m.lim≤m.next)(hr:eu m r)(hv:r.valid=true)(hk:r.f.kind=4)(n fu:Nat)(hfu:1001≤fu):
  ∃m',D6 KW fu (n+4) (.func 37) [.agg r.f.cells] m=some [⟨.str (N9 r),m'⟩]∧Ext m m':=by
 let L:List Blk:=[A9 r.f.cells,.cells 1 4 (T.ofList [[.int .i64 r.f.room],[.int .i64 r.f.no],[.int .i64 r.f.known],[.int .i64 r.f.kind]])]
 have c:D6 KW fu (n+3) (.func 80) [.str [102,97,99,116],.slice (m.next+1) 0 4 4] (ext m L)=some [⟨.str (J3 O4 (J7 r)),ext m L⟩]:=
  gQ (xs:=J7 r) (dO (xs:=J7 r) (by rw [l8 hm];rfl) (by simp [L]) rfl) (by simp [J7]) (jI hv) O4 (by simp [O4]) (n+1) fu hfu
 have c2:=uS (n+2) fu (ext m L) (J4 hm _) (by simp [L];omega)
 have hlook:∀(mp k:OF) ls env,mp ls env=.map (m.next+2)→k ls env=.int .i64 4→iU cO 1 (.agg [.nilFunc,.nilFunc]) false mp k ls env (ext m (L ++ [.map K7]))=some (.agg [.func (.func 155) [] [],.func (.func 156) [] []]):=by
  intro mp k ls env e1 e2
  rw [Z9 _ _ _ _ _ _ _ _ _ _ K7 e1 (by rw [l8 hm];rfl),e2]
  simp [K7,K5,J8,K4,M9]
  try rfl
 have E0:=D8 hm (L ++ [.map K7])
 obtain⟨m3,g3,E3⟩:=ab0 (J4 hm (L ++ [.map K7])) (by simp [L];omega) (hr.ext E0) hv hk n fu hfu
 refine⟨m3,?_,E0.trans E3⟩
 have l1:=eH hv
 have l2:=gI hv
 have s1:bG (J3 O4 (J7 r)) [10]=some (.str (J3 O4 (J7 r) ++ [10])):=Q9 (by simp;omega)
 have s2:bG (J3 O4 (J7 r) ++ [10]) (U7 r)=some (.str (J3 O4 (J7 r) ++ [10]++U7 r)):=Q9 (by simp;omega)
 have s3:bG (J3 O4 (J7 r)++10::U7 r) [10]=some (.str (N9 r)):=by
  have:=Q9 (a:=J3 O4 (J7 r)++10::U7 r) (b:=[10]) (by simp;omega)
  rw [this];simp [N9]
 have sm:=iC hr
 rw [enter (sf:=f37) rfl rfl]
 simp only [L,awG,avT] at c c2 g3 hlook
 rw [hk] at c c2 g3 hlook
 simp [f37,C8,trD,G9,o9,l6,j3,x9,z8,O6 hm hl,C9,j6,o7,o8,J5,M4,U4,U3,isVoid,I6,avw,hk,c,c2,hlook,g3,s1,s2,s3,sm]
theorem ab1 {m:Mem}{r:FR}(hm:m.Ok)(hl:m.lim≤m.next)(hr:eu m r)(hv:r.valid=true)(hk:r.f.kind=5)(n fu:Nat)(hfu:1001≤fu):
  ∃m',D6 KW fu (n+3) (.func 157) [.agg r.f.cells] m=some [⟨.str (U7 r),m'⟩]∧Ext m m':=by
 have hb:=dh hv
 rw [U7,if_neg (show ¬ r.f.kind=1 by omega),if_neg (show ¬ r.f.kind=2 by omega),if_neg (show ¬ r.f.kind=3 by omega),if_neg (show ¬ r.f.kind=4 by omega),if_pos hk]
 exact by
  obtain⟨q1,q2,q3,_,_⟩:=hb.k5 hk
  exact UR hm hl hr (xC hv) (by simpa using q1) q2 q3 n fu hfu
theorem akM {m:Mem}{r:FR}(hm:m.Ok)(hl:m.lim≤m.next)(hr:eu m r)(hv:r.valid=true)(hk:r.f.kind=5)(n fu:Nat)(hfu:1001≤fu):
  ∃m',D6 KW fu (n+4) (.func 37) [.agg r.f.cells] m=some [⟨.str (N9 r),m'⟩]∧Ext m m':=by
 let L:List Blk:=[A9 r.f.cells,.cells 1 4 (T.ofList [[.int .i64 r.f.room],[.int .i64 r.f.no],[.int .i64 r.f.known],[.int .i64 r.f.kind]])]
 have c:D6 KW fu (n+3) (.func 80) [.str [102,97,99,116],.slice (m.next+1) 0 4 4] (ext m L)=some [⟨.str (J3 O4 (J7 r)),ext m L⟩]:=
  gQ (xs:=J7 r) (dO (xs:=J7 r) (by rw [l8 hm];rfl) (by simp [L]) rfl) (by simp [J7]) (jI hv) O4 (by simp [O4]) (n+1) fu hfu
 have c2:=uS (n+2) fu (ext m L) (J4 hm _) (by simp [L];omega)
 have hlook:∀(mp k:OF) ls env,mp ls env=.map (m.next+2)→k ls env=.int .i64 5→iU cO 1 (.agg [.nilFunc,.nilFunc]) false mp k ls env (ext m (L ++ [.map K7]))=some (.agg [.func (.func 157) [] [],.func (.func 158) [] []]):=by
  intro mp k ls env e1 e2
  rw [Z9 _ _ _ _ _ _ _ _ _ _ K7 e1 (by rw [l8 hm];rfl),e2]
  simp [K7,K5,J8,K4,M9]
  try rfl
 have E0:=D8 hm (L ++ [.map K7])
 obtain⟨m3,g3,E3⟩:=ab1 (J4 hm (L ++ [.map K7])) (by simp [L];omega) (hr.ext E0) hv hk n fu hfu
 refine⟨m3,?_,E0.trans E3⟩
 have l1:=eH hv
 have l2:=gI hv
 have s1:bG (J3 O4 (J7 r)) [10]=some (.str (J3 O4 (J7 r) ++ [10])):=Q9 (by simp;omega)
 have s2:bG (J3 O4 (J7 r) ++ [10]) (U7 r)=some (.str (J3 O4 (J7 r) ++ [10]++U7 r)):=Q9 (by simp;omega)
 have s3:bG (J3 O4 (J7 r)++10::U7 r) [10]=some (.str (N9 r)):=by
  have:=Q9 (a:=J3 O4 (J7 r)++10::U7 r) (b:=[10]) (by simp;omega)
  rw [this];simp [N9]
 have sm:=iC hr
 rw [enter (sf:=f37) rfl rfl]
 simp only [L,awG,avT] at c c2 g3 hlook
 rw [hk] at c c2 g3 hlook
 simp [f37,C8,trD,G9,o9,l6,j3,x9,z8,O6 hm hl,C9,j6,o7,o8,J5,M4,U4,U3,isVoid,I6,avw,hk,c,c2,hlook,g3,s1,s2,s3,sm]
theorem ab2 {m:Mem}{r:FR}(hm:m.Ok)(hl:m.lim≤m.next)(hr:eu m r)(hv:r.valid=true)(hk:r.f.kind=6)(n fu:Nat)(hfu:1001≤fu):
  ∃m',D6 KW fu (n+3) (.func 160) [.agg r.f.cells] m=some [⟨.str (U7 r),m'⟩]∧Ext m m':=by
 have hb:=dh hv
 rw [U7,if_neg (show ¬ r.f.kind=1 by omega),if_neg (show ¬ r.f.kind=2 by omega),if_neg (show ¬ r.f.kind=3 by omega),if_neg (show ¬ r.f.kind=4 by omega),if_neg (show ¬ r.f.kind=5 by omega),if_pos hk]
 exact by
  obtain⟨q1,q2,_⟩:=hb.k6 hk
  exact⟨_,UQ hm hl hr (xC hv) q1 q2 n fu hfu,D8 hm _⟩
theorem akN {m:Mem}{r:FR}(hm:m.Ok)(hl:m.lim≤m.next)(hr:eu m r)(hv:r.valid=true)(hk:r.f.kind=6)(n fu:Nat)(hfu:1001≤fu):
  ∃m',D6 KW fu (n+4) (.func 37) [.agg r.f.cells] m=some [⟨.str (N9 r),m'⟩]∧Ext m m':=by
 let L:List Blk:=[A9 r.f.cells,.cells 1 4 (T.ofList [[.int .i64 r.f.room],[.int .i64 r.f.no],[.int .i64 r.f.known],[.int .i64 r.f.kind]])]
 have c:D6 KW fu (n+3) (.func 80) [.str [102,97,99,116],.slice (m.next+1) 0 4 4] (ext m L)=some [⟨.str (J3 O4 (J7 r)),ext m L⟩]:=
  gQ (xs:=J7 r) (dO (xs:=J7 r) (by rw [l8 hm];rfl) (by simp [L]) rfl) (by simp [J7]) (jI hv) O4 (by simp [O4]) (n+1) fu hfu
 have c2:=uS (n+2) fu (ext m L) (J4 hm _) (by simp [L];omega)
 have hlook:∀(mp k:OF) ls env,mp ls env=.map (m.next+2)→k ls env=.int .i64 6→iU cO 1 (.agg [.nilFunc,.nilFunc]) false mp k ls env (ext m (L ++ [.map K7]))=some (.agg [.func (.func 160) [] [],.func (.func 161) [] []]):=by
  intro mp k ls env e1 e2
  rw [Z9 _ _ _ _ _ _ _ _ _ _ K7 e1 (by rw [l8 hm];rfl),e2]
  simp [K7,K5,J8,K4,M9]
  try rfl
 have E0:=D8 hm (L ++ [.map K7])
 obtain⟨m3,g3,E3⟩:=ab2 (J4 hm (L ++ [.map K7])) (by simp [L];omega) (hr.ext E0) hv hk n fu hfu
 refine⟨m3,?_,E0.trans E3⟩
 have l1:=eH hv
 have l2:=gI hv
 have s1:bG (J3 O4 (J7 r)) [10]=some (.str (J3 O4 (J7 r) ++ [10])):=Q9 (by simp;omega)
 have s2:bG (J3 O4 (J7 r) ++ [10]) (U7 r)=some (.str (J3 O4 (J7 r) ++ [10]++U7 r)):=Q9 (by simp;omega)
 have s3:bG (J3 O4 (J7 r)++10::U7 r) [10]=some (.str (N9 r)):=by
  have:=Q9 (a:=J3 O4 (J7 r)++10::U7 r) (b:=[10]) (by simp;omega)
  rw [this];simp [N9]
 have sm:=iC hr
 rw [enter (sf:=f37) rfl rfl]
 simp only [L,awG,avT] at c c2 g3 hlook
 rw [hk] at c c2 g3 hlook
 simp [f37,C8,trD,G9,o9,l6,j3,x9,z8,O6 hm hl,C9,j6,o7,o8,J5,M4,U4,U3,isVoid,I6,avw,hk,c,c2,hlook,g3,s1,s2,s3,sm]
theorem ab3 {m:Mem}{r:FR}(hm:m.Ok)(hl:m.lim≤m.next)(hr:eu m r)(hv:r.valid=true)(hk:r.f.kind=7)(n fu:Nat)(hfu:1001≤fu):
  ∃m',D6 KW fu (n+3) (.func 162) [.agg r.f.cells] m=some [⟨.str (U7 r),m'⟩]∧Ext m m':=by
 have hb:=dh hv
 rw [U7,if_neg (show ¬ r.f.kind=1 by omega),if_neg (show ¬ r.f.kind=2 by omega),if_neg (show ¬ r.f.kind=3 by omega),if_neg (show ¬ r.f.kind=4 by omega),if_neg (show ¬ r.f.kind=5 by omega),if_neg (show ¬ r.f.kind=6 by omega),if_pos hk]
 exact⟨_,UO hm hl (by simpa using hb.k7 hk) n fu hfu,D8 hm _⟩
theorem akO {m:Mem}{r:FR}(hm:m.Ok)(hl:m.lim≤m.next)(hr:eu m r)(hv:r.valid=true)(hk:r.f.kind=7)(n fu:Nat)(hfu:1001≤fu):
  ∃m',D6 KW fu (n+4) (.func 37) [.agg r.f.cells] m=some [⟨.str (N9 r),m'⟩]∧Ext m m':=by
 let L:List Blk:=[A9 r.f.cells,.cells 1 4 (T.ofList [[.int .i64 r.f.room],[.int .i64 r.f.no],[.int .i64 r.f.known],[.int .i64 r.f.kind]])]
 have c:D6 KW fu (n+3) (.func 80) [.str [102,97,99,116],.slice (m.next+1) 0 4 4] (ext m L)=some [⟨.str (J3 O4 (J7 r)),ext m L⟩]:=
  gQ (xs:=J7 r) (dO (xs:=J7 r) (by rw [l8 hm];rfl) (by simp [L]) rfl) (by simp [J7]) (jI hv) O4 (by simp [O4]) (n+1) fu hfu
 have c2:=uS (n+2) fu (ext m L) (J4 hm _) (by simp [L];omega)
 have hlook:∀(mp k:OF) ls env,mp ls env=.map (m.next+2)→k ls env=.int .i64 7→iU cO 1 (.agg [.nilFunc,.nilFunc]) false mp k ls env (ext m (L ++ [.map K7]))=some (.agg [.func (.func 162) [] [],.func (.func 163) [] []]):=by
  intro mp k ls env e1 e2
  rw [Z9 _ _ _ _ _ _ _ _ _ _ K7 e1 (by rw [l8 hm];rfl),e2]
  simp [K7,K5,J8,K4,M9]
  try rfl
 have E0:=D8 hm (L ++ [.map K7])
 obtain⟨m3,g3,E3⟩:=ab3 (J4 hm (L ++ [.map K7])) (by simp [L];omega) (hr.ext E0) hv hk n fu hfu
 refine⟨m3,?_,E0.trans E3⟩
 have l1:=eH hv
 have l2:=gI hv
 have s1:bG (J3 O4 (J7 r)) [10]=some (.str (J3 O4 (J7 r) ++ [10])):=Q9 (by simp;omega)
 have s2:bG (J3 O4 (J7 r) ++ [10]) (U7 r)=some (.str (J3 O4 (J7 r) ++ [10]++U7 r)):=Q9 (by simp;omega)
 have s3:bG (J3 O4 (J7 r)++10::U7 r) [10]=some (.str (N9 r)):=by
  have:=Q9 (a:=J3 O4 (J7 r)++10::U7 r) (b:=[10]) (by simp;omega)
  rw [this];simp [N9]
 have sm:=iC hr
 rw [enter (sf:=f37) rfl rfl]
 simp only [L,awG,avT] at c c2 g3 hlook
 rw [hk] at c c2 g3 hlook
 simp [f37,C8,trD,G9,o9,l6,j3,x9,z8,O6 hm hl,C9,j6,o7,o8,J5,M4,U4,U3,isVoid,I6,avw,hk,c,c2,hlook,g3,s1,s2,s3,sm]
theorem Ms {m:Mem}{r:FR}(hm:m.Ok)(hl:m.lim≤m.next)(hr:eu m r)(hv:r.valid=true)(n fu:Nat)(hfu:1001≤fu):
  ∃m',D6 KW fu (n+4) (.func 37) [.agg r.f.cells] m=some [⟨.str (N9 r),m'⟩]∧Ext m m':=by
 obtain⟨k1,k2⟩:=dY hv
 by_cases h1:r.f.kind=1
 ·exact akI hm hl hr hv h1 n fu hfu
 by_cases h2:r.f.kind=2
 ·exact akJ hm hl hr hv h2 n fu hfu
 by_cases h3:r.f.kind=3
 ·exact akK hm hl hr hv h3 n fu hfu
 by_cases h4:r.f.kind=4
 ·exact akL hm hl hr hv h4 n fu hfu
 by_cases h5:r.f.kind=5
 ·exact akM hm hl hr hv h5 n fu hfu
 by_cases h6:r.f.kind=6
 ·exact akN hm hl hr hv h6 n fu hfu
 by_cases h7:r.f.kind=7
 ·exact akO hm hl hr hv h7 n fu hfu
 omega
theorem akP {m:Mem}{r:FR}(hm:m.Ok)(hl:m.lim≤m.next)(hr:eu m r)(ha:r.a.length<1000)(hb:r.b.length<1000)(hc:r.l.length<1000)(n fu:Nat)(hfu:1001≤fu):
  ∃m',D6 KW fu (n+12) (.func 9) [.agg r.f.cells] m=some [⟨if r.valid=true then .tuple [.str (N9 r),.int .i64 0] else .tuple [.str [],.int .i64 1],m'⟩]∧Ext m m':=by
 have E0:=D8 hm [A9 r.f.cells]
 have hr0:=hr.ext E0
 obtain⟨m1,g1,E1⟩:=LX (J4 hm [A9 r.f.cells]) (by simp;omega) (hr0.at' ha hb hc) n fu (by omega) hr.ga hr.gb
 have E01:=E0.trans E1
 have q1:m1.get m.next=some (A9 r.f.cells):=by rw [E1.old _ (by simp),l5 hm];rfl
 by_cases hv:r.valid=true
 ·obtain⟨m2,g2,E2⟩:=Ms E01.ok (by rw [E01.lim];have:=E01.next;omega) (hr.ext E01) hv (n+7) fu hfu
  refine⟨m2,?_,E01.trans E2⟩
  have hv':dB r.f r.a r.b r.l=true:=hv
  rw [enter (sf:=f9) rfl rfl,if_pos hv]
  simp [f9,C8,trD,G9,o9,l6,j3,x9,z8,O6 hm hl,C9,j6,o7,o8,J5,g1,hv',q1,g2]
 ·refine⟨m1,?_,E01⟩
  have hv':dB r.f r.a r.b r.l=false:=avO.2 hv
  rw [enter (sf:=f9) rfl rfl,if_neg hv]
  simp [f9,C8,trD,G9,o9,l6,j3,x9,z8,O6 hm hl,C9,j6,o7,o8,J5,g1,hv',q1]
theorem GY {a b:Nat}(ha:a<2147483647)(hb:b<256):w64 (31*(a:Int))=31*(a:Int)∧w64 (31*(a:Int)+(b:Int))=31*(a:Int)+(b:Int)∧w64 (31*(a:Int)+(b:Int)+1)=31*(a:Int)+(b:Int)+1∧
  Jy .i64 (31*(a:Int)+(b:Int)+1) 2147483647=some (.int .i64 (((31*a+b+1)%2147483647:Nat):Int)):=by
 refine⟨aN (by omega) (by omega),aN (by omega) (by omega),aN (by omega) (by omega),?_⟩
 have:=rE .i64 (31*a+b+1) 2147483647 (by decide)
 rw [← this];congr 1
theorem Ve {m:Mem}(s:By)(hs:s.length≤100000)(n fu:Nat):∀(j i:Nat),i+j=s.length→∀(a3 a5:j5) (N:Nat),j+1≤N→
  ∃a5',aj (fun env m k=>Lv (D6 KW fu n) fu none env m k) N (.nd (.nd (.nd .e a3 .e) (.int .i64 (i:Int)) (.nd .e a5 .e)) (.str s) (.nd (.nd .e (.int .i64 (Bz (s.take i):Int)) .e) (.int .i64 (s.length:Int)) (.nd .e (.int .i64 0) .e))) m []=some [⟨.exit 0,(.nd (.nd (.nd .e (.bool false) .e) (.int .i64 (s.length:Int)) (.nd .e a5' .e)) (.str s) (.nd (.nd .e (.int .i64 (Bz s:Int)) .e) (.int .i64 (s.length:Int)) (.nd .e (.int .i64 0) .e))),m,[],none⟩]:=by
 intro j
 induction j with
 | zero=>
  intro i hi a3 a5 N hN
  obtain⟨N,rfl⟩:∃k,N=k+1:=⟨N-1,by omega⟩
  obtain rfl:i=s.length:=by omega
  refine⟨a5,?_⟩
  rw [G5,avQ (D5 _)]
  simp [Lv,C8,trD,G9,o9,l6,j3]
 | succ j ih=>
  intro i hi a3 a5 N hN
  obtain⟨N,rfl⟩:∃k,N=k+1:=⟨N-1,by omega⟩
  have hlt:i<s.length:=by omega
  obtain⟨c1,c2,c3,c4⟩:=GY (BA (s.take i)) (axi s[i])
  rw [← DW hlt] at c4
  have p:=fun x lo ls env hx hl=>rO (x:=x) (lo:=lo) (ls:=ls) (env:=env) (s:=s) (l:=i) hx hl hlt
  have e1:decide ((i:Int)<(s.length:Int))=true:=decide_eq_true (by omega)
  have cw:∀k:Int,0≤k→k<256→jL .i64 k=k:=fun k h1 h2=>aN (by omega) (by omega)
  have cb:=cw ((s[i].toNat:Nat):Int) (by omega) (by have:=axi s[i];omega)
  obtain⟨a5',g⟩:=ih (i+1) (by omega) (.bool true) (.int .i64 (i:Int)) N (by omega)
  refine⟨a5',?_⟩
  rw [G5,← g]
  simp [Lv,C8,trD,G9,o9,l6,j3,e1,hlt,p,c1,c2,c3,c4,cb,U6 (i:=i) (by omega)]
theorem ab4 (s:By)(hs:s.length≤100000)(n fu:Nat)(hfu:s.length+1≤fu)(m:Mem):D6 KW fu (n+1) (.func 82) [.str s] m=some [⟨.int .i64 (Bz s:Int),m⟩]:=by
 obtain⟨a5,g⟩:=Ve (m:=m) s hs n fu s.length 0 (by omega) .undef .undef fu (by omega)
 have g':aj (fun env m k=>Lv (D6 KW fu n) fu none env m k) fu (.nd (.nd (.nd .e .undef .e) (.int .i64 0) (.nd .e .undef .e)) (.str s) (.nd (.nd .e (.int .i64 0) .e) (.int .i64 (s.length:Int)) (.nd .e (.int .i64 0) .e))) m []=_:=g
 rw [enter (sf:=f82) rfl rfl]
 simp [f82,C8,trD,G9,o9,l6,j3,g']
theorem FT {x y:OF}{ls:List j5}{env:T j5}{a b:Nat}(hx:x ls env=.int .i64 (a:Int))(hy:y ls env=.int .i64 (b:Int)):pMm false x [y] ls env=some (.int .i64 ((min a b:Nat):Int)):=by
 show ob (mm2 false (x ls env) (y ls env)) some=_
 rw [hx,hy]
 show some (j5.int .i64 (bi (oK (b:Int) (a:Int)) (b:Int) (a:Int)))=_
 by_cases h:b<a
 ·rw [show oK (b:Int) (a:Int)=true from by rw [fU];simp;omega,aJ,axW (by omega)]
 ·rw [show oK (b:Int) (a:Int)=false from by rw [fU];simp;omega,aY,axA (by omega)]
theorem GZ (s:By):s.take (min s.length 64)=s.take 64:=by
 by_cases h:s.length≤64
 ·rw [axA h,avQ (D5 _),avQ h]
 ·rw [axW (by omega)]
theorem Ph (s:By):s.drop (min s.length 64)=s.drop 64:=by
 by_cases h:s.length≤64
 ·rw [axA h,avD (D5 _),avD h]
 ·rw [axW (by omega)]
theorem xD {m:Mem}(hm:m.Ok)(v:j5):kH (m.new (A9 [v])) (.slice m.next 0 1 1) [v]:=.inr ⟨m.next,0,.inl ⟨1,rfl,D5 _⟩,by simp,.inr ⟨1,.nd .e [v] .e,by
 rw [Mem.T9 hm,if_pos rfl];rfl,by simp,fun i hi=>by
 obtain rfl:i=0:=by simp at hi;omega
 rfl⟩⟩
theorem FU {lo:Nat}{m:Mem}(hm:m.Ok)(hlo:lo≤m.next)(v:j5)(h1:O7 [v]=true):dz lo (m.new (A9 [v])) (.slice m.next 0 1 1) [v]:=by
 obtain⟨_,h⟩:=qj hm hlo [v] h1
 rcases h with⟨h,_⟩ | ⟨id,q1,q2,q3,q4,q5⟩
 ·cases h
 ·rcases q5 with q5 | q5
  ·cases q5
  ·cases q5
   exact .inr ⟨m.next,q1,q2,q3,q4,.inl rfl⟩
theorem Vf {lo:Nat}(f p t no res:j5)(cf:K8)(fu:Nat):∀(k:Nat) (s:By),s.length≤k→∀(l:List By) (m:Mem) (out a4 a6:j5) (N:Nat),m.Ok→m.lim≤lo→lo≤m.next→dz lo m out (strs l)→l.length+s.length≤50000→k+1≤N→
  ∃out' a6' m',aj (fun env m k=>Lj cf fu none env m k) N (.nd (.nd (.nd (.nd .e no .e) (.str s) .e) p (.nd .e out .e)) f (.nd (.nd (.nd .e res .e) a4 .e) t (.nd .e a6 .e))) m []=some [⟨.exit 0,(.nd (.nd (.nd (.nd .e no .e) (.str []) .e) p (.nd .e out' .e)) f (.nd (.nd (.nd .e res .e) (.bool false) .e) t (.nd .e a6' .e))),m',[],none⟩]∧Fr lo lo m m'∧dz lo m' out' (strs (l++chunks s)):=by
 intro k
 induction k with
 | zero=>
  intro s hs l m out a4 a6 N hm hl hlo ho hb hN
  obtain⟨N,rfl⟩:∃k,N=k+1:=⟨N-1,by omega⟩
  obtain rfl:=avW.1 (show s.length=0 by omega)
  refine⟨out,a6,m,?_,Fr.refl hm,by rw [ji,awo];exact ho⟩
  rw [G5]
  simp [Lj,C8,trD,G9,o9,l6,j3]
 | succ k ih=>
  intro s hs l m out a4 a6 N hm hl hlo ho hb hN
  obtain⟨N,rfl⟩:∃k,N=k+1:=⟨N-1,by omega⟩
  by_cases h0:s=[]
  ·subst h0
   refine⟨out,a6,m,?_,Fr.refl hm,by rw [ji,awo];exact ho⟩
   rw [G5]
   simp [Lj,C8,trD,G9,o9,l6,j3]
  ·have hp:=aws.2 h0
   have po:=fun {β:Type} (p:j5→β) q=>ho.vs.pan p q
   have pm:=fun x y ls env hx hy=>FT (x:=x) (y:=y) (ls:=ls) (env:=env) (a:=s.length) (b:=64) hx hy
   have p1:=fun x hi ls env hx hh=>Ou (x:=x) (hi:=hi) (ls:=ls) (env:=env) (s:=s) (h:=min s.length 64) hx hh (ax5 _ _)
   have p2:=fun x lo ls env hx hh=>GH (x:=x) (lo:=lo) (ls:=ls) (env:=env) (s:=s) (l:=min s.length 64) hx hh (ax5 _ _)
   rw [GZ] at p1
   rw [Ph] at p2
   have E2:=(Ext.refl hm).new (A9 [.str (s.take 64)])
   have ho2:=ho.ext E2
   obtain⟨out2,m3,ga,ho3,F3⟩:=rJ (bytes:=16) E2.ok (by show m.lim≤lo;omega) (avz hlo E2.next) ho2 (xD hm (.str (s.take 64))) rfl (by rw [R3];simp at hb ⊢;omega) ⟨by omega,by omega⟩
   have FF:Fr lo lo m m3:=(E2.fr hlo).trans F3
   have ho3':dz lo m3 out2 (strs (l ++ [s.take 64])):=by rw [vE];exact ho3
   have po2:=fun {β:Type} (p:j5→β) q=>ho3.vs.pan p q
   have hbs:∀z ps ls env nid,List.length z=1→J2 1 1 z ps ls env nid=ob (lay ps ls env z) fun cells=>if cells.length=1 then some (.slice nid 0 1 1,some (A9 cells)) else none:=fun z ps ls env nid h=>L9 1 z ps ls env nid h
   obtain⟨out',a6',m',g,F,ho'⟩:=ih (s.drop 64) (by simp;omega) (l ++ [s.take 64]) m3 out2 (.bool true) (.int .i64 ((min s.length 64:Nat):Int)) N FF.ok (by rw [FF.lim];exact hl) (avz hlo FF.next) ho3' (by simp;omega) (by omega)
   refine⟨out',a6',m',?_,FF.trans F,by rw [qz h0];simpa using ho'⟩
   rw [G5,← g]
   simp [Lj,C8,trD,G9,o9,l6,j3,h0,pm,p1,p2,po,po2,hbs,C9,ga]
theorem ab5 {m:Mem}{r:FR}(hm:m.Ok)(hl:m.lim≤m.next)(hr:eu m r)(hv:r.valid=true)(no:Int)(hno:Sm no)(n fu:Nat)(hfu:1001≤fu):
  ∃v m',D6 KW fu (n+5) (.func 39) [.int .i64 no,.agg r.f.cells] m=some [⟨v,m'⟩]∧Ext m m'∧kH m' v (strs (afa no (N9 r))):=by
 have E0:=D8 hm [A9 r.f.cells]
 obtain⟨m1,g1,E1⟩:=Ms (J4 hm [A9 r.f.cells]) (by simp;omega) (hr.ext E0) hv n fu hfu
 have E01:=E0.trans E1
 have tl:=xB hv
 have l1:m1.lim≤m1.next:=by rw [E01.lim];have:=E01.next;omega
 obtain⟨out,a6,m2,g2,F2,ho⟩:=Vf (lo:=m1.next) (.agg r.f.cells) (.ptr m.next 0) (.str (N9 r)) (.int .i64 no) .nilSlice (D6 KW fu (n+4)) fu (N9 r).length (N9 r) (D5 _) [] m1 .nilSlice .undef .undef fu E1.ok l1 (D5 _) (dz.nil _ _) (by simp;omega) (by omega)
 have E2:Ext m1 m2:=F2.ext (D5 _) (D5 _)
 rw [avT] at ho
 have hclen:=oF _ _ (D5 (N9 r).length)
 have g3:=ab4 (N9 r) (by omega) (n+3) fu (by omega) m2
 let b4:Blk:=.cells 1 4 (T.ofList [[.int .i64 no],[.int .i64 ((chunks (N9 r)).length:Int)],[.int .i64 ((N9 r).length:Int)],[.int .i64 (Bz (N9 r):Int)]])
 have E3:=D8 E2.ok [b4]
 have hS:=BA (N9 r)
 have hsm:∀x∈[no,((chunks (N9 r)).length:Int),((N9 r).length:Int),(Bz (N9 r):Int)],Sm x:=by
  intro x hx
  simp only [avL,awV,or_false] at hx
  rcases hx with rfl | rfl | rfl | rfl
  ·exact hno
  all_goals unfold Sm;omega
 have g4:D6 KW fu (n+4) (.func 80) [.str [114,101,99,111,114,100],.slice m2.next 0 4 4] (ext m2 [b4])=some [⟨.str (J3 nP [no,((chunks (N9 r)).length:Int),((N9 r).length:Int),(Bz (N9 r):Int)]),ext m2 [b4]⟩]:=
  gQ (xs:=[no,((chunks (N9 r)).length:Int),((N9 r).length:Int),(Bz (N9 r):Int)]) (dO (by rw [l5 E2.ok];rfl) (by simp) rfl) (by simp) hsm nP (by simp [nP]) (n+2) fu hfu
 let L:=J3 nP [no,((chunks (N9 r)).length:Int),((N9 r).length:Int),(Bz (N9 r):Int)]
 have E4:=D8 E2.ok [b4,A9 [.str L]]
 have hlim:(ext m2 [b4,A9 [.str L]]).lim≤m2.next+1:=by
  rw [E4.lim,E2.lim];have:=E2.next;omega
 have ho1:dz (m2.next+1) (ext m2 [b4,A9 [.str L]]) (.slice (m2.next+1) 0 1 1) [.str L]:=by
  have:=FU (lo:=m2.next+1) (m:=ext m2 [b4]) (J4 E2.ok _) (by simp) (.str L) rfl
  rw [x9] at this
  simpa [z8] using this
 obtain⟨v,m5,ga,ho5,F5⟩:=rJ (bytes:=16) (lo:=m2.next+1) E4.ok hlim (by simp) ho1 (ho.ext E4).vs (Bh _) (by rw [R3];simp;omega) ⟨by omega,by omega⟩
 have E5:Ext m2 m5:=⟨F5.ok,avz E4.next F5.next,by rw [F5.lim];exact E4.lim,fun i hi=>by rw [F5.old i (by omega) (by omega)];exact E4.old i hi⟩
 have po:=fun {β:Type} (p:j5→β) q=>ho.vs.pan p q
 have po5:=fun {β:Type} (p:j5→β) q=>ho5.vs.pan p q
 have hlen:=ho.vs.len
 rw [R3] at hlen
 have hbs:∀z ps ls env nid,List.length z=1→J2 1 1 z ps ls env nid=ob (lay ps ls env z) fun cells=>if cells.length=1 then some (.slice nid 0 1 1,some (A9 cells)) else none:=fun z ps ls env nid h=>L9 1 z ps ls env nid h
 have q1:m1.get m.next=some (A9 r.f.cells):=by rw [E1.old _ (by simp),l5 hm];rfl
 refine⟨v,m5,?_,(E01.trans E2).trans E5,ho5.vs⟩
 simp only [b4,L] at g4 ga
 rw [enter (sf:=f39) rfl rfl]
 simp [f39,C8,trD,G9,o9,l6,j3,x9,z8,O6 hm hl,C9,j6,o7,o8,J5,g1,g2,g3,g4,ga,po,po5,hlen,hbs,M4,U4,U3]
theorem ab6 {m:Mem}{r:FR}(hm:m.Ok)(hl:m.lim≤m.next)(hr:eu m r)(ha:r.a.length<1000)(hb:r.b.length<1000)(hc:r.l.length<1000)(no:Int)(n fu:Nat)(hfu:1001≤fu):
  ∃v e m',D6 KW fu (n+12) (.func 10) [.int .i64 no,.agg r.f.cells] m=some [⟨.tuple [v,.int .i64 e],m'⟩]∧Ext m m'∧
   (((1≤no∧no≤200)∧r.valid=true∧e=0∧kH m' v (strs (afa no (N9 r))))∨(¬ ((1≤no∧no≤200)∧r.valid=true)∧e=1∧v=.nilSlice)):=by
 have E0:=D8 hm [A9 r.f.cells]
 have hr0:=hr.ext E0
 have c:=O9 (n+10) fu no 1 200 (ext m [A9 r.f.cells])
 by_cases h1:1≤no∧no≤200
 ·have e1:(decide (1≤no)&&decide (no≤200))=true:=by simp;exact h1
  rw [e1] at c
  obtain⟨m1,g1,E1⟩:=LX (J4 hm [A9 r.f.cells]) (by simp;omega) (hr0.at' ha hb hc) n fu (by omega) hr.ga hr.gb
  have E01:=E0.trans E1
  have q1:m1.get m.next=some (A9 r.f.cells):=by rw [E1.old _ (by simp),l5 hm];rfl
  by_cases hv:r.valid=true
  ·obtain⟨v,m2,g2,E2,hv2⟩:=ab5 E01.ok (by rw [E01.lim];have:=E01.next;omega) (hr.ext E01) hv no (by unfold Sm;omega) (n+6) fu hfu
   refine⟨v,0,m2,?_,E01.trans E2,.inl ⟨h1,hv,rfl,hv2⟩⟩
   have hv':dB r.f r.a r.b r.l=true:=hv
   have pv:=fun {β:Type} (p:j5→β) q=>hv2.pan p q
   rw [enter (sf:=f10) rfl rfl]
   simp [f10,C8,trD,G9,o9,l6,j3,x9,z8,O6 hm hl,C9,j6,o7,o8,J5,c,g1,hv',q1,g2,pv]
  ·refine⟨.nilSlice,1,m1,?_,E01,.inr ⟨fun h=>hv h.2,rfl,rfl⟩⟩
   have hv':dB r.f r.a r.b r.l=false:=avO.2 hv
   rw [enter (sf:=f10) rfl rfl]
   simp [f10,C8,trD,G9,o9,l6,j3,x9,z8,O6 hm hl,C9,j6,o7,o8,J5,c,g1,hv',q1]
 ·have e1:(decide (1≤no)&&decide (no≤200))=false:=by rw [avO];simp;omega
  rw [e1] at c
  refine⟨.nilSlice,1,ext m [A9 r.f.cells],?_,E0,.inr ⟨fun h=>h1 h.1,rfl,rfl⟩⟩
  rw [enter (sf:=f10) rfl rfl]
  simp [f10,C8,trD,G9,o9,l6,j3,x9,z8,O6 hm hl,C9,j6,o7,o8,J5,c]
theorem RS.ext {lo:Nat}{m m':Mem}{p q:Nat}{ws:List By}{h:Fct}(s:RS lo m p q ws h)(E:Ext m m'):RS lo m' p q ws h:=
 ⟨E.ok,by rw [E.lim];exact s.lp,by rw [E.lim];exact s.lq,s.pq,s.qlo,avz s.next E.next,s.wk.ext s.next E,by rw [E.old q (avu s.qlo s.next)];exact s.cell,s.sh,s.few⟩
theorem Mt {h:Fct}(hk:1≤h.kind∧h.kind≤7):∃w rd,(∀(mp k:OF) ls env (m:Mem) (id:Nat),mp ls env=.map id→k ls env=.int .i64 h.kind→m.get id=some (.map K7)→
   iU cO 1 (.agg [.nilFunc,.nilFunc]) true mp k ls env m=some (.tuple [.agg [.func (.func w) [] [],.func (.func rd) [] []],.bool true]))∧
  (∀(n fu:Nat) (m:Mem) (p q lo0 lo:Nat) (ws:List By),RS lo m p q ws h→lo0≤p→lo0≤q→h.A=.nilSlice→h.B=.nilSlice→h.L=.nilSlice→h.cid=0→aR h.gn→aR h.gd→aR h.no→1001≤fu→Reads rd (n+4) fu m p q lo0 lo ws h):=by
 obtain⟨k1,k2⟩:=hk
 by_cases h1:h.kind=1
 ·refine⟨148,149,fun mp k ls env m id e1 e2 hg=>?_,fun n fu m p q lo0 lo ws s hp hq hA hB hL hcid ig id ino hfu=>?_⟩
  ·rw [Z9 _ _ _ _ _ _ _ _ _ _ K7 e1 hg,e2]
   simp [K7,K5,J8,K4,M9,h1]
   try rfl
  ·exact UU s h1 hp hq hA hB hL ig id ino n fu
 by_cases h2:h.kind=2
 ·refine⟨151,152,fun mp k ls env m id e1 e2 hg=>?_,fun n fu m p q lo0 lo ws s hp hq hA hB hL hcid ig id ino hfu=>?_⟩
  ·rw [Z9 _ _ _ _ _ _ _ _ _ _ K7 e1 hg,e2]
   simp [K7,K5,J8,K4,M9,h2]
   try rfl
  ·exact Vb s h2 hp hq hA hB hL ig id ino n fu hfu
 by_cases h3:h.kind=3
 ·refine⟨153,154,fun mp k ls env m id e1 e2 hg=>?_,fun n fu m p q lo0 lo ws s hp hq hA hB hL hcid ig id ino hfu=>?_⟩
  ·rw [Z9 _ _ _ _ _ _ _ _ _ _ K7 e1 hg,e2]
   simp [K7,K5,J8,K4,M9,h3]
   try rfl
  ·exact UW s h3 hp hq hA hB hL ig id ino n fu
 by_cases h4:h.kind=4
 ·refine⟨155,156,fun mp k ls env m id e1 e2 hg=>?_,fun n fu m p q lo0 lo ws s hp hq hA hB hL hcid ig id ino hfu=>?_⟩
  ·rw [Z9 _ _ _ _ _ _ _ _ _ _ K7 e1 hg,e2]
   simp [K7,K5,J8,K4,M9,h4]
   try rfl
  ·exact UY s h4 hp hq hA hB hL ig id ino n fu
 by_cases h5:h.kind=5
 ·refine⟨157,158,fun mp k ls env m id e1 e2 hg=>?_,fun n fu m p q lo0 lo ws s hp hq hA hB hL hcid ig id ino hfu=>?_⟩
  ·rw [Z9 _ _ _ _ _ _ _ _ _ _ K7 e1 hg,e2]
   simp [K7,K5,J8,K4,M9,h5]
   try rfl
  ·exact Vd s h5 hcid hp hq hA hB hL ig id ino n fu hfu
 by_cases h6:h.kind=6
 ·refine⟨160,161,fun mp k ls env m id e1 e2 hg=>?_,fun n fu m p q lo0 lo ws s hp hq hA hB hL hcid ig id ino hfu=>?_⟩
  ·rw [Z9 _ _ _ _ _ _ _ _ _ _ K7 e1 hg,e2]
   simp [K7,K5,J8,K4,M9,h6]
   try rfl
  ·exact Va s h6 hp hq hA hB hL ig id ino n fu hfu
 by_cases h7:h.kind=7
 ·refine⟨162,163,fun mp k ls env m id e1 e2 hg=>?_,fun n fu m p q lo0 lo ws s hp hq hA hB hL hcid ig id ino hfu=>?_⟩
  ·rw [Z9 _ _ _ _ _ _ _ _ _ _ K7 e1 hg,e2]
   simp [K7,K5,J8,K4,M9,h7]
   try rfl
  ·exact UZ s h7 hp hq hA hB hL ig id ino n fu
 omega
theorem Mv {kind:Int}(hk:¬ (1≤kind∧kind≤7))(mp k:OF)(ls:List j5)(env:T j5)(m:Mem)(id:Nat)(e1:mp ls env=.map id)(e2:k ls env=.int .i64 kind)(hg:m.get id=some (.map K7)):
  iU cO 1 (.agg [.nilFunc,.nilFunc]) true mp k ls env m=some (.tuple [.agg [.nilFunc,.nilFunc],.bool false]):=by
 have h1:¬ kind=1:=by omega
 have h2:¬ kind=2:=by omega
 have h3:¬ kind=3:=by omega
 have h4:¬ kind=4:=by omega
 have h5:¬ kind=5:=by omega
 have h6:¬ kind=6:=by omega
 have h7:¬ kind=7:=by omega
 rw [Z9 _ _ _ _ _ _ _ _ _ _ K7 e1 hg,e2]
 simp [K7,K5,J8,K4,M9,h1,h2,h3,h4,h5,h6,h7]
 try rfl
theorem xE {m:Mem}{r:FR}(hr:eu m r):O7 r.f.cells=true:=by
 have h1:=hr.a.J5
 have h2:=hr.b.J5
 have h3:=hr.l.J5
 have hi:∀k x,J5 (.int k x)=true:=fun _ _=>rfl
 simp [Fct.cells,h1,h2,h3,hi,-Fct.Q0]
theorem bW.vg {p:Nat}{m m':Mem}{v:j5}{xs:List Int}(h:bW m v xs)(X:kL p m m')(hp:∀n rows,m.get p≠some (.cells 1 n rows)):bW m' v xs:=by
 rcases h with h | ⟨id,h1,h2,h3⟩
 ·exact .inl h
 ·refine .inr ⟨id,h1,avu h2 X.next,?_⟩
  rcases h3 with h3 | ⟨c,rows,h4,h5⟩
  ·exact .inl h3
  ·refine .inr ⟨c,rows,?_,h5⟩
   rw [X.old id.1 h2 (by rintro rfl;exact hp _ _ h4)];exact h4
theorem He (room no known kind:Int):(zF room no known kind).cells=(zK room no known kind):=rfl
set_option maxHeartbeats 40000000
theorem K6 {a b c:Mem}{p:Nat}(E:Ext a b)(X:kL p b c)(hp:a.next≤p):Ext a c:=⟨X.ok,avz E.next X.next,by rw [X.lim];exact E.lim,fun i hi=>by rw [X.old i (avu hi E.next) (by omega)];exact E.old i hi⟩
theorem tV {a b c:Mem}{lo:Nat}(E:Ext a b)(F:Fr lo lo b c)(hp:a.next≤lo):Ext a c:=⟨F.ok,avz E.next F.next,by rw [F.lim];exact E.lim,fun i hi=>by rw [F.old i (by omega) (by omega)];exact E.old i hi⟩
theorem ab7 {m:Mem}(hm:m.Ok)(hl:m.lim≤m.next)(s:By)(hs:s.length≤1000)(n fu:Nat)(hfu:1001≤fu):
  (∃m',D6 KW fu (n+12) (.func 41) [.str s] m=some [⟨.pan UN,m'⟩]∧Ext m m'∧∀r,¬ iB s r)∨
  (∃r m',D6 KW fu (n+12) (.func 41) [.str s] m=some [⟨.agg r.f.cells,m'⟩]∧Ext m m'∧eu m' r∧r.a.length<1000∧r.b.length<1000∧r.l.length<1000∧iB s r):=by
 have E0:=D8 hm [A9 zr]
 obtain⟨v,m1,g1,E1,hv⟩:=LB s (by omega) (n+10) fu E0.ok
 have E01:=E0.trans E1
 have n1:m.next+1≤m1.next:=by have:=E1.next;simpa using this
 obtain⟨fl1,fl2⟩:=FM s
 have hpan:=fun {β:Type} (p:j5→β) q=>hv.vs.pan p q
 have hcell:=hv.vs.cells
 have hsl:∀i o l c,v=.slice i o l c→i<m1.next:=by
  obtain⟨id,off,c,h1,_,h3,_⟩:=hv
  rintro i o l c' rfl
  cases h1;exact h3
 have E2:=D8 E1.ok [A9 [v]]
 have E02:=E01.trans E2
 have w2:WS (m1.next+1) (ext m1 [A9 [v]]) m1.next (Lib.fieldsD s):=⟨by omega,v,by rw [l5 E1.ok];rfl,hv.ext E2,fun i o l c h=>by have:=hsl i o l c h;omega⟩
 have lim2:(ext m1 [A9 [v]]).lim≤m1.next:=by rw [E02.lim];omega
 have fail:∀k:Option FR,parse (Lib.fieldsD s)=k→k=none→∀r,¬ iB s r:=fun k h1 h2 r hr=>by
  rw [mo hr] at h1
  rw [h2] at h1;cases h1
 have q0:∀i,i<m.next+1→∀M,Ext (ext m [A9 zr]) M→M.get i=(ext m [A9 zr]).get i:=fun i hi M E=>E.old i (by simpa using hi)
 rcases pJ E2.ok lim2 w2 [102,97,99,116] (n+9) fu with⟨m3,g3,X3,r3⟩ | ⟨t3,m3,g3,X3,w3,e3,r3⟩
 ·refine .inl ⟨m3,?_,?_,fail _ rfl (r3 _ _)⟩
  ·rw [enter (sf:=f41) rfl rfl]
   simp [f41,C8,trD,G9,o9,l6,j3,x9,z8,O6 hm hl,C9,j6,o7,o8,J5,hpan,hcell,g1,g3]
  ·exact E01.trans ⟨X3.ok,avz E2.next X3.next,by rw [X3.lim];exact E2.lim,fun i hi=>by rw [X3.old i (avu hi E2.next) (by omega)];exact E2.old i hi⟩
 have E03:Ext m m3:=E01.trans ⟨X3.ok,avz E2.next X3.next,by rw [X3.lim];exact E2.lim,fun i hi=>by rw [X3.old i (avu hi E2.next) (by omega)];exact E2.old i hi⟩
 have n3:m1.next+1≤m3.next:=by have:=X3.next;simpa using this
 have lim3:m3.lim≤m1.next:=by rw [E03.lim];omega
 have sh2:∀w∈Lib.fieldsD s,w.length<1000000:=fun w hw=>by have:=fl2 w hw;omega
 have sh3:∀w∈t3,w.length<1000000:=fun w hw=>sh2 w (by rw [e3];simp [hw])
 have few3:t3.length<1000:=by have:(Lib.fieldsD s).length=t3.length+1:=by rw [e3];rfl
                              omega
 rcases dN X3.ok lim3 n3 w3 sh3 (n+9) fu with⟨m4,g4,X4,r4⟩ | ⟨room,x4,t4,m4,g4,X4,w4,e4,_,i4,r4⟩
 ·refine .inl ⟨m4,?_,K6 E03 X4 (by omega),fail _ rfl ((r3 _ _).trans (r4 _ _))⟩
  rw [enter (sf:=f41) rfl rfl]
  simp [f41,C8,trD,G9,o9,l6,j3,x9,z8,O6 hm hl,C9,j6,o7,o8,J5,hpan,hcell,g1,g3,g4]
 have E04:Ext m m4:=K6 E03 X4 (by omega)
 have n4:m1.next+1≤m4.next:=avz n3 X4.next
 have lim4:m4.lim≤m4.next:=by rw [E04.lim];omega
 have hm4:=X4.ok
 have E5:=D8 X4.ok [A9 (zK room 0 0 0)]
 have E05:=E04.trans E5
 have s5:RS (m4.next+1) (ext m4 [A9 (zK room 0 0 0)]) m1.next m4.next t4 (zF room 0 0 0):=
  ⟨E5.ok,by rw [E05.lim];omega,by rw [E05.lim];omega,by omega,by omega,by simp,(w4.ext n4 E5).mono (by omega),by rw [l5 X4.ok];rfl,fun w hw=>sh3 w (by rw [e4];simp [hw]),by rw [e4] at few3;simp at few3;omega⟩
 have F5:Fr (m.next+1) (m.next+1) (ext m [A9 zr]) (ext m4 [A9 (zK room 0 0 0)]):=by
  have a1:Fr (m.next+1) (m.next+1) (ext m [A9 zr]) m1:=E1.fr (by simp)
  have a2:Fr (m.next+1) (m.next+1) m1 (ext m1 [A9 [v]]):=E2.fr (by omega)
  have a3:Fr (m.next+1) (m.next+1) (ext m1 [A9 [v]]) m3:=(X3.fr (lo:=m.next+1) (by simp;omega)).mono (by omega)
  have a4:Fr (m.next+1) (m.next+1) m3 m4:=(X4.fr (lo:=m.next+1) (by omega)).mono (by omega)
  exact (((a1.trans a2).trans a3).trans a4).trans (E5.fr (by omega))
 rcases dN s5.ok s5.lp s5.next s5.wk s5.sh (n+9) fu with⟨m6,g6,X6,r6⟩ | ⟨no,x6,t6,m6,g6,X6,w6,e6,_,i6,r6⟩
 ·refine .inl ⟨m6,?_,tV E0 (F5.trans (s5.frP (lo0:=m.next+1) X6 (by omega))) (by omega),fail _ rfl ((r3 _ _).trans ((r4 _ _).trans (r6 _ _)))⟩
  rw [enter (sf:=f41) rfl rfl]
  simp [f41,C8,trD,G9,o9,l6,j3,x9,z8,O6 hm hl,C9,j6,o7,o8,J5,hpan,hcell,g1,x9,z8,O6 hm4 lim4,g3,g4,g6]
 have s6a:=s5.call X6 w6 (fun w hw=>by rw [e6];simp [hw]) (by rw [e6];simp<;>omega)
 obtain⟨N6,st6,s6,Y6⟩:=s6a.store (off:=1) (vs:=[.int .i64 no]) (h':=zF room no 0 0) (by simp) (by simp) rfl rfl
 have F6:=(F5.trans (s5.frP (lo0:=m.next+1) X6 (by omega))).trans (s6a.frQ (lo0:=m.next+1) Y6 (by omega))
 rcases dN s6.ok s6.lp s6.next s6.wk s6.sh (n+9) fu with⟨m7,g7,X7,r7⟩ | ⟨known,x7,t7,m7,g7,X7,w7,e7,_,i7,r7⟩
 ·refine .inl ⟨m7,?_,tV E0 (F6.trans (s6.frP (lo0:=m.next+1) X7 (by omega))) (by omega),fail _ rfl ((r3 _ _).trans ((r4 _ _).trans ((r6 _ _).trans (r7 _ _))))⟩
  rw [enter (sf:=f41) rfl rfl]
  simp [f41,C8,trD,G9,o9,l6,j3,x9,z8,O6 hm hl,C9,j6,o7,o8,J5,hpan,hcell,g1,x9,z8,O6 hm4 lim4,g3,g4,g6,g7,st6]
 have s7a:=s6.call X7 w7 (fun w hw=>by rw [e7];simp [hw]) (by rw [e7];simp<;>omega)
 obtain⟨N7,st7,s7,Y7⟩:=s7a.store (off:=2) (vs:=[.int .i64 known]) (h':=zF room no known 0) (by simp) (by simp) rfl rfl
 have F7:=(F6.trans (s6.frP (lo0:=m.next+1) X7 (by omega))).trans (s7a.frQ (lo0:=m.next+1) Y7 (by omega))
 rcases dN s7.ok s7.lp s7.next s7.wk s7.sh (n+9) fu with⟨m8,g8,X8,r8⟩ | ⟨kind,x8,t8,m8,g8,X8,w8,e8,_,i8,r8⟩
 ·refine .inl ⟨m8,?_,tV E0 (F7.trans (s7.frP (lo0:=m.next+1) X8 (by omega))) (by omega),fail _ rfl ((r3 _ _).trans ((r4 _ _).trans ((r6 _ _).trans ((r7 _ _).trans (r8 _ _)))))⟩
  rw [enter (sf:=f41) rfl rfl]
  simp [f41,C8,trD,G9,o9,l6,j3,x9,z8,O6 hm hl,C9,j6,o7,o8,J5,hpan,hcell,g1,x9,z8,O6 hm4 lim4,g3,g4,g6,g7,g8,st6,st7]
 have s8a:=s7.call X8 w8 (fun w hw=>by rw [e8];simp [hw]) (by rw [e8];simp<;>omega)
 obtain⟨N8,st8,s8,Y8⟩:=s8a.store (off:=3) (vs:=[.int .i64 kind]) (h':=zF room no known kind) (by simp) (by simp) rfl rfl
 have F8:=(F7.trans (s7.frP (lo0:=m.next+1) X8 (by omega))).trans (s8a.frQ (lo0:=m.next+1) Y8 (by omega))
 have lim8:N8.lim≤N8.next:=by have:=s8.lp;have:=s8.plo;have:=s8.next;omega
 have hq8:m4.next<N8.next:=avu s8.qlo s8.next
 have hld:∀M:Mem,M.get m4.next=some (A9 (zF room no known kind).cells)→ld1 (M.get m4.next) 3=some (.int .i64 kind):=fun M h=>by rw [h,He];simp [jX]
 have hb8:∀b,(N8.new b).get m4.next=some (A9 (zF room no known kind).cells):=fun b=>by rw [Mem.T9 s8.ok,if_neg (by omega)];exact s8.cell
 have hc8:∀bs,(ext N8 bs).get m4.next=some (A9 (zF room no known kind).cells):=fun bs=>by rw [G6 s8.ok _ hq8];exact s8.cell
 have hl8:=hld _ s8.cell
 have hlb8:=fun bs=>hld _ (hc8 bs)
 have c81:=uS (n+10) fu (ext N8 [.void]) (J4 s8.ok _) (by simp;omega)
 have hP:parse (Lib.fieldsD s)=parseBody (zF room no known kind) t8:=(r3 _ _).trans ((r4 _ _).trans ((r6 _ _).trans ((r7 _ _).trans (r8 _ _))))
 by_cases hk:1≤kind∧kind≤7
 ·obtain⟨w,rd,hlook,hread⟩:=Mt (h:=zF room no known kind) hk
  let L:List Blk:=[A9 [.func (.func w) [] [],.func (.func rd) [] []],.map K7]
  have hlook':=fun (mp k:OF) ls env (e1:mp ls env=.map (N8.next+1)) (e2:k ls env=.int .i64 kind)=>hlook mp k ls env (ext N8 [.void,.map K7]) (N8.next+1) e1 e2 (by rw [l8 s8.ok];rfl)
  have E9:=D8 s8.ok L
  have s9:=s8.ext E9
  have F9:=F8.trans (E9.fr (lo:=m.next+1) (by omega))
  rcases hread (n+7) fu (ext N8 L) m1.next m4.next (m.next+1) (m4.next+1) t8 s9 (by omega) (by omega) rfl rfl rfl rfl (by unfold aR;simp [zF,M0]) (by unfold aR;simp [zF,M0]) i6 hfu with⟨m10,g10,F10,r10⟩ | ⟨m10,r,t10,g10,F10,s10,hr10,la,lb,lc,r10⟩
  ·refine .inl ⟨m10,?_,tV E0 (F9.trans F10) (by omega),fail _ rfl (hP.trans r10)⟩
   simp only [L] at g10
   rw [enter (sf:=f41) rfl rfl]
   simp [f41,C8,trD,G9,o9,l6,j3,x9,z8,O6 hm hl,C9,j6,o7,o8,J5,hpan,hcell,g1,x9,z8,O6 hm4 lim4,g3,g4,g6,g7,g8,st6,st7,st8,c81,hl8,hlb8,hlook',g10,x9,z8,O6 s8.ok lim8,isVoid,I6,avw]
  have hR:parse (Lib.fieldsD s)=some r.cn:=hP.trans r10
  have hU:∀r',iB s r'→r'.cn=r.cn:=fun r' h'=>avA ((mo h').symm.trans hR)
  have F11a:=F9.trans F10
  have E10:=tV E0 F11a (by omega)
  have hfa:=hr10.at' la lb lc
  obtain⟨m11,g11,E11⟩:=LX s10.ok (by rw [E10.lim];have:=E10.next;omega) hfa n fu (by omega) hr10.ga hr10.gb
  have E11m:=E10.trans E11
  have c10:=s10.cell
  have hq10:m4.next<m10.next:=avu s10.qlo s10.next
  have c11:m11.get m4.next=some (A9 r.f.cells):=by rw [E11.old _ hq10];exact c10
  by_cases hv:r.valid=true
  ·have hv':dB r.f r.a r.b r.l=true:=hv
   obtain⟨m12,g12,E12⟩:=Ms E11.ok (by rw [E11m.lim];have:=E11m.next;omega) (hr10.ext E11) hv (n+7) fu hfu
   have E12m:=E11m.trans E12
   have c12:m12.get m4.next=some (A9 r.f.cells):=by rw [E12.old _ (avu hq10 E11.next)];exact c11
   have F12:Fr (m.next+1) (m.next+1) (ext m [A9 zr]) m12:=(F11a.trans (E11.fr (by omega))).trans (E12.fr (by have:=E11.next;omega))
   have c0:m12.get m.next=some (A9 zr):=by rw [F12.old _ (by omega) (by omega),l5 hm];rfl
   have hx:m.next<m12.next:=by have:=F12.next;simp at this;omega
   obtain⟨N,st,gN,XN⟩:=U9 (off:=0) (vs:=r.f.cells) F12.ok hx (by rw [E12m.lim];exact hl) c0 (by rw [Fct.len];simp) (by rw [Fct.len];omega) (xE hr10)
   have gN':N.get m.next=some (A9 r.f.cells):=by
    rw [gN,Fct.len];simp
   by_cases ht:N9 r=s
   ·have no1:∀n rows,m12.get m.next≠some (.cells 1 n rows):=fun n rows e=>by
     rw [c0] at e
     have e:Blk.cells 32 1 _=.cells 1 n rows:=avA e
     injection e with e1
     cases e1
    have hr12:=(hr10.ext E11).ext E12
    refine .inr ⟨r,N,?_,K6 E12m XN (D5 _),⟨bW.vg hr12.a XN no1,bW.vg hr12.b XN no1,bW.vg hr12.l XN no1,hr12.ga,hr12.gb,hr12.nb⟩,la,lb,lc,hv,ht⟩
    simp only [L] at g10
    rw [enter (sf:=f41) rfl rfl]
    simp [f41,C8,trD,G9,o9,l6,j3,x9,z8,O6 hm hl,C9,j6,o7,o8,J5,hpan,hcell,g1,x9,z8,O6 hm4 lim4,g3,g4,g6,g7,g8,st6,st7,st8,c81,hl8,hlb8,hlook',g10,g11,g12,hv',c10,c11,c12,ht,st,gN',x9,z8,O6 s8.ok lim8,isVoid,I6,avw]
   ·refine .inl ⟨m12,?_,E12m,fun r' h'=>ht ?_⟩
    ·simp only [L] at g10
     rw [enter (sf:=f41) rfl rfl]
     simp [f41,C8,trD,G9,o9,l6,j3,x9,z8,O6 hm hl,C9,j6,o7,o8,J5,hpan,hcell,g1,x9,z8,O6 hm4 lim4,g3,g4,g6,g7,g8,st6,st7,st8,c81,hl8,hlb8,hlook',g10,g11,g12,hv',c10,c11,c12,ht,x9,z8,O6 s8.ok lim8,isVoid,I6,avw]
    ·rw [← Bv r,← hU r' h',Bv r'];exact h'.2
  ·have hv':dB r.f r.a r.b r.l=false:=avO.2 hv
   refine .inl ⟨m11,?_,E11m,fun r' h'=>hv ?_⟩
   ·simp only [L] at g10
    rw [enter (sf:=f41) rfl rfl]
    simp [f41,C8,trD,G9,o9,l6,j3,x9,z8,O6 hm hl,C9,j6,o7,o8,J5,hpan,hcell,g1,x9,z8,O6 hm4 lim4,g3,g4,g6,g7,g8,st6,st7,st8,c81,hl8,hlb8,hlook',g10,g11,hv',c10,c11,x9,z8,O6 s8.ok lim8,isVoid,I6,avw]
   ·rw [← vG r,← hU r' h',vG r'];exact h'.1
 ·have hlook':=fun (mp k:OF) ls env (e1:mp ls env=.map (N8.next+1)) (e2:k ls env=.int .i64 kind)=>Mv hk mp k ls env (ext N8 [.void,.map K7]) (N8.next+1) e1 e2 (by rw [l8 s8.ok];rfl)
  have hpb:parseBody (zF room no known kind) t8=none:=by
   have ek:(zF room no known kind).kind=kind:=rfl
   unfold parseBody
   rw [ek,if_neg (by omega),if_neg (by omega),if_neg (by omega),if_neg (by omega),if_neg (by omega),if_neg (by omega),if_neg (by omega)]
  have E9:=D8 s8.ok [A9 [.nilFunc,.nilFunc],.map K7]
  refine .inl ⟨ext N8 [A9 [.nilFunc,.nilFunc],.map K7],?_,tV E0 (F8.trans (E9.fr (lo:=m.next+1) (by omega))) (by omega),fail _ rfl (hP.trans hpb)⟩
  rw [enter (sf:=f41) rfl rfl]
  simp [f41,C8,trD,G9,o9,l6,j3,x9,z8,O6 hm hl,C9,j6,o7,o8,J5,hpan,hcell,g1,x9,z8,O6 hm4 lim4,g3,g4,g6,g7,g8,st6,st7,st8,c81,hl8,hlb8,hlook',x9,z8,O6 s8.ok lim8,isVoid,I6,avw]
theorem akQ (cf:K8)(fu:Nat)(env:T j5)(m:Mem):dEv (.reg [⟨.e .recover,none,none⟩,⟨.p (.mov (.loc 0)),some 0,none⟩]) cf fu env m none=some [⟨⟨.normal,trD (some 0) .nilIface env,m,[],none⟩,none⟩]:=by
 rw [GN (h:=rfl)];rfl
theorem akR (cf:K8)(fu:Nat)(env:T j5)(m:Mem)(x:j5):dEv (.reg [⟨.e .recover,none,none⟩,⟨.p (.mov (.loc 0)),some 0,none⟩]) cf fu env m (some x)=some [⟨⟨.normal,trD (some 0) x env,m,[],none⟩,none⟩]:=by
 rw [GN (h:=rfl)];rfl
theorem akS:trC (.reg [⟨.p (.mov (.slot 0)),none,none⟩,⟨.p (.eq true .iface (.loc 0) (.con j5.nilIface)),some 1,none⟩])=l9 (rcP (pNe jm zlw zmD) zmO D7):=rfl
theorem ab8 (cf:K8)(fu:Nat)(env:T j5)(m:Mem)(md:Option j5):dEv (.reg [⟨.p (.mov (.slot 0)),none,none⟩,⟨.p (.eq true .iface (.loc 0) (.con j5.nilIface)),some 1,none⟩]) cf fu env m md=bnd (l9 (rcP (pNe jm zlw zmD) zmO D7) cf fu none env m []) (Ox md):=by
 rw [rP (h:=rfl),akS]
theorem akT:trC (.reg [⟨.p (.mov (.slot 0)),none,none⟩,⟨.p (.assert 95 (A []) true (.loc 0)),none,none⟩,⟨.p (.mov (.loc 0)),none,none⟩,⟨.p (.ext (.loc 0) 0),none,none⟩,⟨.p (.ext (.loc 1) 1),none,none⟩,⟨.a (.alloc []),none,none⟩,⟨.e (.store 0 (.loc 0) (.loc 2)),none,none⟩,⟨.p (.mov (.loc 2)),some 2,none⟩])=l9 (r9 (pQ 95 (A []) true zlw) (r9 zdi (r9 zdA (dZ (iI []) (I8 (O5 0 oL0 oL2) zlt))))):=rfl
theorem ab9 (cf:K8)(fu:Nat)(env:T j5)(m:Mem)(md:Option j5):dEv (.reg [⟨.p (.mov (.slot 0)),none,none⟩,⟨.p (.assert 95 (A []) true (.loc 0)),none,none⟩,⟨.p (.mov (.loc 0)),none,none⟩,⟨.p (.ext (.loc 0) 0),none,none⟩,⟨.p (.ext (.loc 1) 1),none,none⟩,⟨.a (.alloc []),none,none⟩,⟨.e (.store 0 (.loc 0) (.loc 2)),none,none⟩,⟨.p (.mov (.loc 2)),some 2,none⟩]) cf fu env m md=bnd (l9 (r9 (pQ 95 (A []) true zlw) (r9 zdi (r9 zdA (dZ (iI []) (I8 (O5 0 oL0 oL2) zlt))))) cf fu none env m []) (Ox md):=by
 rw [rP (h:=rfl),akT]
theorem akU:trC (.reg [⟨.p (.mov (.slot 2)),none,none⟩,⟨.p (.not (.loc 0)),some 3,none⟩])=l9 (rcP ziO zan D7):=rfl
theorem abb (cf:K8)(fu:Nat)(env:T j5)(m:Mem)(md:Option j5):dEv (.reg [⟨.p (.mov (.slot 2)),none,none⟩,⟨.p (.not (.loc 0)),some 3,none⟩]) cf fu env m md=bnd (l9 (rcP ziO zan D7) cf fu none env m []) (Ox md):=by
 rw [rP (h:=rfl),akU]
theorem akV:trC (.reg [⟨.p (.mov (.slot 0)),none,none⟩,⟨.e (.panic (.loc 0)),none,none⟩])=l9 (I8 (vN zlw) D7):=rfl
theorem abd (cf:K8)(fu:Nat)(env:T j5)(m:Mem)(md:Option j5):dEv (.reg [⟨.p (.mov (.slot 0)),none,none⟩,⟨.e (.panic (.loc 0)),none,none⟩]) cf fu env m md=bnd (l9 (I8 (vN zlw) D7) cf fu none env m []) (Ox md):=by
 rw [rP (h:=rfl),akV]
theorem akW:trC (.reg [⟨.p (.build zab []),none,none⟩,⟨.e (.store 32 (.slot 4) (.loc 0)),none,none⟩,⟨.e (.store 1 (.slot 5) (.con (j5.int .i64 (Int.ofNat 7)))),none,none⟩])=l9 (r9 zau (I8 (O5 32 zaj oL0) (I8 (O5 1 zar zcL) D7))):=rfl
theorem akX (cf:K8)(fu:Nat)(env:T j5)(m:Mem)(md:Option j5):dEv (.reg [⟨.p (.build zab []),none,none⟩,⟨.e (.store 32 (.slot 4) (.loc 0)),none,none⟩,⟨.e (.store 1 (.slot 5) (.con (j5.int .i64 (Int.ofNat 7)))),none,none⟩]) cf fu env m md=bnd (l9 (r9 zau (I8 (O5 32 zaj oL0) (I8 (O5 1 zar zcL) D7))) cf fu none env m []) (Ox md):=by
 rw [rP (h:=rfl),akW]
theorem arL:trO (.slot 1)=zaf:=rfl
theorem arM:trO (.slot 3)=zam:=rfl
theorem DZ {x:OF}{ls:List j5}{env:T j5}(h:x ls env=UN):pQ 95 (.agg []) true x ls env=some (.tuple [.agg [],.bool true]):=by
 unfold pQ
 rw [h];rfl
theorem abe:stB (some (A9 [])) 0 []=some (A9 []):=rfl
theorem QZ (cf:K8)(fu:Nat)(env:T j5)(m:Mem)(md:Option j5):dEv (.reg [⟨.p (.build zr []),none,none⟩,⟨.e (.store 32 (.slot 4) (.loc 0)),none,none⟩,⟨.e (.store 1 (.slot 5) (.con (.int .i64 7))),none,none⟩]) cf fu env m md=bnd (l9 (r9 zau (I8 (O5 32 zaj oL0) (I8 (O5 1 zar zcL) D7))) cf fu none env m []) (Ox md):=akX cf fu env m md
theorem Ra (cf:K8)(fu:Nat)(args:List j5)(md:Option j5)(m:Mem):Ch KW cf fu 40 args md m=aef cf fu f40 args md m:=by
 show ob (KW.fns 40) _=_
 have h:fns 40=some f40:=rfl
 show ob ((fns 40).map _) _=_
 rw [h];rfl
theorem Pj (cf:K8)(fu:Nat)(a b:Nat)(m:Mem):Ch KW cf fu 40 [.ptr a 0,.ptr b 0] none m=some [(m,none)]:=by
 rw [Ra]
 simp [aef,f40,Lc,GL,GQ,akQ,ab8,ab9,abb,abd,QZ,DF,trC,arL,arM,DZ,abe,C8,trD,G9,o9,l6,j3]
theorem Pk {M:Mem}(hM:M.Ok)(cf:K8)(fu:Nat)(a b:Nat){x:j5}{ca:List j5}(hla:M.lim≤a)(hlb:M.lim≤b)(ha:a<M.next)(hb:b<M.next)(hab:a≠b)(ga:M.get a=some (A9 ca))(hca:ca.length=32)(gb:M.get b=some (A9 [x])):
  ∃M',Ch KW cf fu 40 [.ptr a 0,.ptr b 0] (some UN) M=some [(M',none)]∧M'.Ok∧M.next≤M'.next∧M'.lim=M.lim∧(∀i,i<M.next→i≠a→i≠b→M'.get i=M.get i)∧M'.get a=some (A9 zr)∧M'.get b=some (A9 [.int .i64 7]):=by
 rw [Ra]
 have E:=D8 hM [A9 []]
 have g0:(ext M [A9 []]).get a=some (A9 ca):=by rw [E.old a ha];exact ga
 obtain⟨N1,st1,q1,X1⟩:=U9 (off:=0) (vs:=zr) E.ok (avu ha E.next) (by rw [E.lim];exact hla) g0 (by rw [hca];simp) (by simp) rfl
 have q1:N1.get a=some (A9 zr):=by
  rw [q1];simp [hca,avD]
 have g1:N1.get b=some (A9 [x]):=by rw [X1.old b (avu hb E.next) (axu hab),E.old b hb];exact gb
 obtain⟨N2,st2,q2,X2⟩:=tT (off:=0) (v:=.int .i64 7) X1.ok (avu (avu hb E.next) X1.next) (by rw [X1.lim,E.lim];exact hlb) g1 (by simp) rfl
 refine⟨N2,?_,X2.ok,avz (avz E.next X1.next) X2.next,by rw [X2.lim,X1.lim];exact E.lim,fun i hi h1 h2=>?_,?_,by simpa using q2⟩
 ·have hl:M.lim≤M.next:=by omega
  simp [aef,f40,Lc,GL,GQ,akR,ab8,ab9,abb,abd,QZ,DF,trC,arL,arM,DZ,abe,C8,trD,G9,o9,l6,j3,x9,z8,O6 hM hl,C9,j6,o7,o8,J5,st1,st2]
 ·rw [X2.old i (avu (avu hi E.next) X1.next) h2,X1.old i (avu hi E.next) h1,E.old i hi]
 ·rw [X2.old a (avu (avu ha E.next) X1.next) hab];exact q1
theorem abf {m:Mem}(hm:m.Ok)(hl:m.lim≤m.next)(s:By)(hs:s.length≤1000)(n fu:Nat)(hfu:1001≤fu):
  (∃r m',D6 KW fu (n+13) (.func 11) [.str s] m=some [⟨.tuple [.agg r.f.cells,.int .i64 0],m'⟩]∧Ext m m'∧eu m' r∧r.a.length<1000∧r.b.length<1000∧r.l.length<1000∧iB s r)∨
  (∃m',D6 KW fu (n+13) (.func 11) [.str s] m=some [⟨.tuple [.agg zr,.int .i64 7],m'⟩]∧Ext m m'∧∀r,¬ iB s r):=by
 have E0:=D8 hm [A9 zr,A9 [.int .i64 0]]
 have ga0:(ext m [A9 zr,A9 [.int .i64 0]]).get m.next=some (A9 zr):=by rw [l5 hm];rfl
 have gb0:(ext m [A9 zr,A9 [.int .i64 0]]).get (m.next+1)=some (A9 [.int .i64 0]):=by rw [l8 hm];rfl
 rcases ab7 E0.ok (by simp;omega) s hs n fu hfu with⟨m1,g1,E1,hno⟩ | ⟨r,m1,g1,E1,hr,la,lb,lc,ht⟩
 ·have hn1:m.next+2≤m1.next:=by have:=E1.next;simpa using this
  have ga:m1.get m.next=some (A9 zr):=by rw [E1.old _ (by simp)];exact ga0
  have gb:m1.get (m.next+1)=some (A9 [.int .i64 0]):=by rw [E1.old _ (by simp)];exact gb0
  have hlim:m1.lim≤m.next:=by rw [E1.lim,E0.lim];exact hl
  obtain⟨M,g2,k1,k2,k3,k4,k5,k6⟩:=Pk E1.ok (D6 KW fu (n+12)) fu m.next (m.next+1) hlim (by omega) (by omega) (by omega) (by omega) ga rfl gb
  refine .inr ⟨M,?_,⟨k1,by omega,by rw [k3,E1.lim];exact E0.lim,fun i hi=>by rw [k4 i (by omega) (by omega) (by omega),E1.old i (by simp;omega)];exact E0.old i hi⟩,hno⟩
  rw [enter (sf:=f11) rfl rfl]
  simp [f11,C8,trD,G9,o9,l6,j3,x9,z8,O6 hm hl,C9,j6,o7,o8,J5,g1,Lb,g2,k5,k6]
 ·have hn1:m.next+2≤m1.next:=by have:=E1.next;simpa using this
  have ga:m1.get m.next=some (A9 zr):=by rw [E1.old _ (by simp)];exact ga0
  have gb:m1.get (m.next+1)=some (A9 [.int .i64 0]):=by rw [E1.old _ (by simp)];exact gb0
  have hlim:m1.lim≤m.next:=by rw [E1.lim,E0.lim];exact hl
  obtain⟨N1,st1,q1,X1⟩:=U9 (off:=0) (vs:=r.f.cells) E1.ok (by omega) hlim ga (by rw [Fct.len];simp) (by rw [Fct.len];omega) (xE hr)
  have q1:N1.get m.next=some (A9 r.f.cells):=by rw [q1,Fct.len];simp
  have gb1:N1.get (m.next+1)=some (A9 [.int .i64 0]):=by rw [X1.old _ (by omega) (by omega)];exact gb
  have hn2:m.next+1<N1.next:=avu (by omega) X1.next
  obtain⟨N2,st2,q2,X2⟩:=tT (off:=0) (v:=.int .i64 0) X1.ok hn2 (by rw [X1.lim];omega) gb1 (by simp) rfl
  have q2:N2.get (m.next+1)=some (A9 [.int .i64 0]):=by simpa using q2
  have q3:N2.get m.next=some (A9 r.f.cells):=by rw [X2.old _ (by omega) (by omega)];exact q1
  have a1:∀n rows,m1.get m.next≠some (.cells 1 n rows):=fun n rows e=>by
   rw [ga] at e
   have e:Blk.cells 32 1 _=.cells 1 n rows:=avA e
   injection e with e1
   cases e1
  have E12:Ext N1 N2:=⟨X2.ok,X2.next,X2.lim,fun i hi=>by
   by_cases h:i=m.next+1
   ·rw [h,q2,gb1]
   ·exact X2.old i hi h⟩
  have g2:=Pj (D6 KW fu (n+12)) fu m.next (m.next+1) N2
  refine .inl ⟨r,N2,?_,⟨X2.ok,by have:=X1.next;have:=X2.next;omega,by rw [X2.lim,X1.lim,E1.lim];exact E0.lim,fun i hi=>by rw [E12.old i (by have:=X1.next;omega),X1.old i (by omega) (by omega),E1.old i (by simp;omega)];exact E0.old i hi⟩,
   ⟨(bW.vg hr.a X1 a1).ext E12,(bW.vg hr.b X1 a1).ext E12,(bW.vg hr.l X1 a1).ext E12,hr.ga,hr.gb,hr.nb⟩,la,lb,lc,ht⟩
  rw [enter (sf:=f11) rfl rfl]
  simp [f11,C8,trD,G9,o9,l6,j3,x9,z8,O6 hm hl,C9,j6,o7,o8,J5,g1,Lb,g2,st1,st2,q2,q3]
end Go.Proofs.YtfnlnpllpfhhnaaGreatDoor.TT
