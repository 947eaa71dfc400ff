/- A part of an evaluator for the model, proved sound: what it answers holds of the model; it speaks of every program, no condition. -/
import Derived.Test.YteecnooaopfkeaaGreatDoorLA2
import Derived.Lib.UnsafeStr
import Derived.RangeFuncLeaves
import Derived.RangeFuncRecord
import Derived.RangeFuncNested
import Derived.LoopNIn
import Derived.OrdersIn
set_option linter.unusedSimpArgs false
set_option linter.unusedVariables false
namespace Go.AM
open Go
noncomputable section
section
variable {P:Program}{G:Mem}{ι:Inj}{m:Mem}{w:World}{slots:List Nat}{done:List (Option Nat)}{ls:List j3}{env:T j3}{a:Act}
theorem yu (s:St P ι (m.nm ι) slots done ls env a.tmps)(hm:RM P G ι m w.heap){t:TypeId}(hu:P.underlying t=some .string)
  {x:Operand} {x':Opd} (hx:J7 P slots done x=some x') {cf:y8} {outs:List VM} (hv:trE (.rangeS x') cf ls env m=some outs):
  ∀o:Oper,o.op=.range t x→Does P a.eval o w (O5 P G ι m w outs):=by
 intro o ho
 obtain⟨e1,_⟩:=l9 s hx
 obtain⟨str,h1,h⟩:=aZ hv
 cases h
 have h1:trO x' ls env=.str str:=h1
 have hl:=Laid.new hm.ok hm.limn (.siter str 0) rfl
 refine E5 (v:=.pointer (some ⟨w.heap.size,0,none⟩)) (w':={w with heap:=w.heap.push (.stringIter ⟨str.toArray⟩ 0)}) ?_
  ⟨_,List.mem_singleton.2 rfl,ι.upd m.next ⟨w.heap.size,0,0,none⟩,Step.lay (w':={w with heap:=w.heap.push (.stringIter ⟨str.toArray⟩ 0)}) hm hl (o:=.stringIter ⟨str.toArray⟩ 0) (l:=⟨w.heap.size,0,0,none⟩) ⟨rfl,rfl,rfl,rfl⟩ rfl rfl ⟨rfl,Q7⟩ (by intro _ _ _ h;cases h),hl.self,by simp [l6,Inj.at]⟩
 simp [execOp,ho,Instr.range,run_underlying hu,e1,h1,l6,run_newObj]
theorem FB {β:Type}{b:Option Blk}{k:List UInt8→Nat→Option β}{r:β}(h:Bu b k=some r):∃s p,b=some (.siter s p)∧k s p=some r:=by
 match b,h with
 | some (.siter s p),h=>exact⟨s,p,rfl,h⟩
theorem Ak (s:St P ι (m.nm ι) slots done ls env a.tmps)(hm:RM P G ι m w.heap)
  {x:Operand} {x':Opd} (hx:J7 P slots done x=some x') {cf:y8} {outs:List VM} (hv:trE (.nextS x') cf ls env m=some outs):
  ∀o:Oper,o.op=.next x true→Does P a.eval o w (O5 P G ι m w outs):=by
 intro o ho
 obtain⟨e1,_⟩:=l9 s hx
 obtain⟨id,off,h1,h⟩:=V6 hv
 have h1:trO x' ls env=.ptr id off:=h1
 obtain⟨h0,h⟩:=p9 h
 obtain rfl:off=0:=Nat.eq_of_beq_eq_true h0
 obtain⟨h2,h⟩:=dR h
 have hid:=bT h2
 obtain⟨str,p,hg,h⟩:=FB h
 obtain⟨b0,b1⟩:=hm.blk id _ hg
 have hsp:=hm.spot id _ hg rfl
 have hgi:=U6 (P:=P) b1 (by intro _ _ _ e;cases e)
 have hput:=fun o=>jM (P:=P) (o:=o) b1 (by intro _ _ _ e;cases e)
 have hsz:ByteArray.size ⟨str.toArray⟩=str.length:=gJ str
 have had:a.eval x=.pointer (some ⟨(ι id).b,0,none⟩):=by rw [e1,h1];simp [l6,Inj.at,b0,hsp]
 rw [C8] at h
 cases hlt:Nat.blt p str.length with
 | false=>
  rw [hlt] at h
  cases h
  have hlt:¬ p<str.length:=by have:=bT hlt;omega
  refine E5 (v:=.tuple #[.bool false]) (w':=w) ?_ ⟨_,List.mem_singleton.2 rfl,ι,Step.refl hm,by simp [j3.lt,ltL],by simp [l6,l8]⟩
  simp [execOp,ho,had,Instr.next,hgi,hsz,hlt]
 | true=>
  rw [hlt] at h
  cases h
  have hlt:p<str.length:=Eq.mp Nat.blt_eq hlt
  refine E5 (v:=.tuple #[.bool true,.int .i64 p,.int .i32 (Utf8.decode ⟨str.toArray⟩ p).1]) (w':={w with heap:=w.heap.setIfInBounds (ι id).b (.stringIter ⟨str.toArray⟩ (p+(Utf8.decode ⟨str.toArray⟩ p).2))}) ?_
   ⟨_,List.mem_singleton.2 rfl,ι,Step.set hm hid hg rfl rfl (o:=.stringIter ⟨str.toArray⟩ (p+(Utf8.decode ⟨str.toArray⟩ p).2)) ⟨rfl,rfl,rfl,rfl⟩ ⟨b0,aK b1⟩ (by intro _ _ _ h;cases h),by simp [j3.lt,ltL],by simp [l6,l8]⟩
  simp [execOp,ho,had,Instr.next,hgi,hsz,hlt,hput,goInt]
theorem uG {e:TypeId}(h:xG P e=true):P.underlying e=some (.int .u8)∧aS P e=some 1∧Z5 P e=some 1∧∃z,En P e=some z∧z.length=1:=by
 unfold xG at h
 simp only [Bool.and_eq_true,beq_iff_eq] at h
 obtain⟨⟨⟨h1,h2⟩,h3⟩,h4⟩:=h
 obtain⟨z,hz⟩:=Option.isSome_iff_exists.1 h4
 refine⟨?_,h2,h3,z,hz,?_⟩
 ·split at h1
  ·assumption
  ·cases h1
 ·have:=(fZ hz).2
  rw [h2] at this
  exact (Option.some.inj this).symm
theorem FC (t:List UInt8):G7 (bytesOf t)=true:=by
 induction t with
 | nil=>rfl
 | cons b t ih=>show bi true (G7 (bytesOf t)) false=true;rw [ih];rfl
theorem rE (ι:Inj)(t:List UInt8)(j:Nat):(l8 ι (bytesOf t))[j]?=(t[j]?).map fun b=>Value.int .u8 (b.toNat:Int):=by
 rw [K7,gq,List.getElem?_map]
 cases t[j]? <;> simp [l6]
theorem aM (t:List UInt8):(bytesOf t).length=t.length:=by rw [gq,List.length_map]
theorem Dj (s:St P ι (m.nm ι) slots done ls env a.tmps)(hm:RM P G ι m w.heap){c:Call}{t u e:TypeId}{x y:Operand}{x' y':Opd}(hc:c.callee=.builtin .append)
  (hts:c.argTypes.toList=[t,u]) (has:c.args.toList=[x,y]) (hu:P.underlying t=some (.slice e)) (hd:P.underlying u=some .string) (hbt:xG P e=true)
  (hx:J7 P slots done x=some x') (hy:J7 P slots done y=some y') {cf:y8} {outs:List VM} (hv:trE (.appB e x' y') cf ls env m=some outs):
  ∀o:Oper,o.op=.call c→Does P a.eval o w (O5 P G ι m w outs):=by
 obtain⟨_,hes,hby,z,hz,hzl⟩:=uG hbt
 have old:trE (.app 1 false z 1 x' y') cf ls env m=some outs→∀o:Oper,o.op=.call c→Does P a.eval o w (O5 P G ι m w outs):=
  fun h=>yj s hm hc hts has hu hd hes hz hby hx hy h
 obtain⟨e1,g1⟩:=l9 s hx
 obtain⟨e2,g2⟩:=l9 s hy
 have hts':c.argTypes=#[t,u]:=by rw [← hts,Array.toArray_toList]
 have has':c.args=#[x,y]:=by rw [← has,Array.toArray_toList]
 obtain⟨hz',_⟩:=fZ hz
 have fin:∀{str:List UInt8} {base:Option Addr} {sLen sCap:Nat} {v:Value} {w':World},trO y' ls env=.str str→l6 ι (trO x' ls env)=.slice base sLen sCap→
   (eB false e 1 sLen sCap base (l6 ι (.str str)) str.length).run P w=.ok v w'→O5 P G ι m w outs v w'→∀o:Oper,o.op=.call c→Does P a.eval o w (O5 P G ι m w outs):=by
  intro str base sLen sCap v w' q1 q2 q3 q4 o ho
  refine E5 (v:=v) (w':=w') ?_ q4
  have hn:TG P w (Fx .string) 1 str.length (l6 ι (.str str)):=.inl ⟨rfl,kL (v:=.str str) (by simp [lenOf]) w⟩
  have h3:(eB (Fx .string) e 1 sLen sCap base (l6 ι (.str str)) str.length).run P w=.ok v w':=q3
  rw [← rD (T:=o.type) hu hes hd hby hn] at h3
  simp [execOp,ho,resolve,hc,has',hts',invoke,builtin,e1,e2,q1,q2,h3]
 have hnew:∀(str:List UInt8) (w':World),w'.heap=w.heap→(if (!false)=true then Builtin.firstCells 1 str.length (l6 ι (.str str)) else if str.length*1=0 then pure #[] else do pure (Builtin.zeroCells (← zeroValue e).cells str.length):Sem (Array Value)).run P w'=.ok (l8 ι (bytesOf str)).toArray w':=by
  intro str w' hw
  have:cK m 1 str.length (.str str)=some (bytesOf str):=by simp [cK]
  exact (aL (w:=w') (by rw [hw];exact hm) this).1
 have lay:∀{m0:Mem} (st:Step P G ι m w ι m0 w) (s0 str:List UInt8) (capN:Nat) (rest:List Value),m0.next=m.next→s0.length+str.length≤capN→rest.length=(capN-(s0.length+str.length))*z.length→
   outs=[⟨.sliceU m.next 0 (s0.length+str.length) 1,m0.new (.buf e (s0++str))⟩]→
   O5 P G ι m w outs (.slice (some ⟨w.heap.size,0,none⟩) (s0.length+str.length) capN) {w with heap:=w.heap.push (.cells (l8 ι (bytesOf s0)++l8 ι (bytesOf str)++rest).toArray e),drawn:=w.drawn+1}:=by
  intro m0 st s0 str capN rest hnx hcap hrest hout
  subst hout
  have hl:=Laid.new st.rm.ok st.rm.limn (.buf e (s0++str)) rfl
  rw [hnx] at hl
  have hsz:(l8 ι (bytesOf s0)++l8 ι (bytesOf str)++rest).toArray.size=capN:=by
   simp only [List.size_toArray,List.length_append,G9,aM,hrest,hzl];omega
  have hst:=st.trans (Step.lay (w':={w with heap:=w.heap.push (.cells (l8 ι (bytesOf s0)++l8 ι (bytesOf str)++rest).toArray e),drawn:=w.drawn+1}) st.rm hl (o:=.cells (l8 ι (bytesOf s0)++l8 ι (bytesOf str)++rest).toArray e) ⟨rfl,rfl,rfl,rfl⟩ (l:=⟨w.heap.size,0,capN,none⟩) rfl rfl
   ⟨rfl,_,_,Q7,by simp;omega,by rw [hsz];exact Nat.le_refl _,fun j b hj=>?_⟩ (by intro c' e' fz h k hk;cases h;simp))
  ·exact gu rfl hst hl.self (by omega) (need:=s0.length+str.length) (by simpa using hcap) (by simp)
  ·have hjl:=(List.getElem?_eq_some_iff.1 hj).1
   rw [List.getElem?_toArray,List.getElem?_append_left (by simpa [aM] using hjl)]
   by_cases h1:j<s0.length
   ·rw [List.getElem?_append_left h1] at hj
    rw [List.getElem?_append_left (by simpa [aM] using h1),rE,hj];rfl
   ·rw [List.getElem?_append_right (by omega)] at hj
    rw [List.getElem?_append_right (by simp [aM];omega),rE]
    simp only [G9,aM]
    rw [hj];rfl
 change ED e (trO x') (trO y') cf ls env m=some outs at hv
 unfold ED at hv
 split at hv
 ·rename_i hx0
  obtain⟨str,hy0,hv⟩:=aZ hv
  cases str with
  | nil=>
   refine old ?_
   show tX 1 1 (trO x') (trO y') cf ls env m=some outs
   unfold tX
   rw [hy0,hx0];exact hv
  | cons b0 t0=>
   generalize hstr:b0::t0=str at *
   have hv:bi (big (len' str) 1 1) (one (.sliceU m.next 0 (len' str) 1) (m.new (.buf e str))) none=some outs:=by rw [← hstr] at hv ⊢;exact hv
   obtain⟨hb,hv⟩:=p9 hv
   rw [C8] at hb hv
   obtain⟨b1,_,b3⟩:=mh hb
   have hout:outs=[⟨.sliceU m.next 0 (([]:List UInt8).length+str.length) 1,m.new (.buf e ([]++str))⟩]:=by cases hv;simp
   have hpos:0<str.length:=by rw [← hstr];simp
   obtain⟨capN,rest,r1,r2,r3⟩:=bV (P:=P) (w:=w) (zs:=false) (e:=e) (es:=1) (sLen:=0) (sCap:=0) (base:=none) (x:=l6 ι (.str str)) (n:=str.length) (old:=[]) hby hz' (by omega) (by simpa using b1) b3
    (fun w' _=>by simp [Builtin.firstCells]) (hnew str)
   refine fin hy0 (by rw [hx0];rfl) r3 ?_
   have:=lay (Step.refl hm) [] str capN rest rfl (by simpa using r1) (by simpa using r2) hout
   simpa [bytesOf,l8] using this
 ·rename_i id off len es hx0
  split at hv
  ·rename_i ty' s0 hg
   obtain⟨str,hy0,hv⟩:=aZ hv
   obtain⟨k1,hv1⟩:=p9 hv
   obtain⟨k2,hv2⟩:=p9 hv1
   obtain⟨k3,hv3⟩:=p9 hv2
   obtain⟨k4,hv4⟩:=p9 hv3
   obtain⟨k5,hv5⟩:=p9 hv4
   clear hv hv1 hv2 hv3 hv4
   rw [C8] at k4
   have hlim:m.lim≤id:=Nat.le_of_ble_eq_true k5
   obtain rfl:e=ty':=Nat.eq_of_beq_eq_true k1
   obtain rfl:off=0:=Nat.eq_of_beq_eq_true k2
   obtain rfl:es=1:=Nat.eq_of_beq_eq_true k3
   obtain rfl:len=s0.length:=Nat.eq_of_beq_eq_true k4
   have hv:=hv5
   clear hv5
   cases str with
   | nil=>
    refine old ?_
    show tX 1 1 (trO x') (trO y') cf ls env m=some outs
    unfold tX
    rw [hy0,hx0];exact hv
   | cons b0 t0=>
    generalize hstr:b0::t0=str at *
    have hv:bi (big (Nat.add s0.length (len' str)) 1 1) (one (.sliceU m.next 0 (Nat.add s0.length (len' str)) 1) ((m.set id .dead).new (.buf e (dz s0 str)))) none=some outs:=by rw [← hstr] at hv ⊢;exact hv
    obtain⟨hb,hv⟩:=p9 hv
    rw [C8] at hb hv
    rw [L9] at hv
    obtain⟨b1,_,b3⟩:=mh hb
    have hout:outs=[⟨.sliceU m.next 0 (s0.length+str.length) 1,(m.set id .dead).new (.buf e (s0++str))⟩]:=by cases hv;rfl
    have hpos:0<str.length:=by rw [← hstr];simp
    obtain⟨q0,cs,fz,q1,q2,q3,q4⟩:=hm.blk id _ hg
    have hsp:=hm.spot id _ hg rfl
    have hcx:l6 ι (trO x' ls env)=.slice (some ⟨(ι id).b,0,none⟩) s0.length (ι id).cap:=by rw [hx0];simp [l6,Inj.at,q0,hsp]
    have hfree:=(hm.own id _ hlim hg rfl).free cs e fz q1
    have hcell:∀w':World,w'.heap=w.heap→∀(j:Nat) (v:j3),(bytesOf s0)[j]?=some v→w'.cell? (ι.at id (0+j))=some (l6 ι v):=by
     intro w' hw j v hj
     rw [gq,List.getElem?_map] at hj
     cases hb':s0[j]? with
     | none=>rw [hb'] at hj;cases hj
     | some b'=>
      rw [hb'] at hj
      cases hj
      have:=q4 j b' hb'
      simp [World.cell?,hw,Inj.at,q0,hsp,q1,l6,this]
    by_cases hfit:s0.length+str.length≤(ι id).cap
    ·
     have hrun:=fE (P:=P) (l8 ι (bytesOf str)) cs (s0.length*1) 0 w q1 (by simp [aM];omega) hfree (fun v hv=>by
      rw [N8] at hv
      obtain⟨u',hu',rfl⟩:=List.mem_map.1 hv
      exact ru (gV (FC str) u' hu'))
     refine fin hy0 hcx (bU hfit (hnew str w rfl) (by
      have:(⟨(ι id).b,0,none⟩:Addr).add (s0.length*1)=⟨(ι id).b,s0.length*1,none⟩:=by simp [Addr.add];intro h;simp [h]
      simp only [this];exact hrun)) ?_
     subst hout
     have hlaid:=Laid.new (Step.kill hm hlim hg).rm.ok (Step.kill hm hlim hg).rm.limn (.buf e (s0++str)) rfl
     have hst:=Step.OL (l:=⟨(ι id).b,0,(ι id).cap,none⟩) (o:=.cells (over cs (s0.length*1+0) (l8 ι (bytesOf str))) e fz) (w':={w with heap:=w.heap.setIfInBounds (ι id).b (.cells (over cs (s0.length*1+0) (l8 ι (bytesOf str))) e fz)})
      (b':=.buf e (s0++str)) hm hlim hg rfl rfl ⟨rfl,rfl,rfl,rfl⟩ rfl rfl ⟨rfl,_,_,aK q1,by simpa using hfit,by simpa using q3,fun j b hj=>?_⟩ (by intro c' e' fz' h k hk;cases h;exact hfree k (by simpa using hk))
     ·have:=gu rfl hst hlaid.self (Nat.le_refl 1) (need:=s0.length+str.length) (by simpa using hfit) (cap:=(ι id).cap) (by simp)
      simpa using this
     ·have hjl:=(List.getElem?_eq_some_iff.1 hj).1
      rw [List.length_append] at hjl
      rw [qg _ _ _ (by simp [aM];omega)]
      by_cases h1:j<s0.length
      ·rw [List.getElem?_append_left h1] at hj
       rw [if_pos (by omega)];exact q4 j b hj
      ·rw [List.getElem?_append_right (by omega)] at hj
       rw [if_neg (by omega),if_pos (by simp [aM];omega),rE,show j-(s0.length*1+0)=j-s0.length from by omega,hj];rfl
    ·obtain⟨capN,rest,r1,r2,r3⟩:=bV (P:=P) (w:=w) (zs:=false) (e:=e) (es:=1) (sLen:=s0.length) (sCap:=(ι id).cap) (base:=some ⟨(ι id).b,0,none⟩) (x:=l6 ι (.str str)) (n:=str.length) (old:=l8 ι (bytesOf s0)) hby hz' hfit b1 b3
      (fun w' hw=>by
       have:=Z0 (P:=P) (ι:=ι) (w:=w') (id:=id) (off:=0) (len:=s0.length) (cap:=(ι id).cap) (es:=1) (n:=s0.length) (l:=bytesOf s0) (by rw [aM,Nat.mul_one]) (hcell w' hw)
       simpa [Inj.at,q0,hsp] using this) (hnew str)
     exact fin hy0 hcx r3 (lay (Step.kill hm hlim hg) s0 str capN rest rfl r1 r2 hout)
  ·exact old hv
 ·exact old hv
theorem Dk {w:World}{b:Nat}{c:Array Value}{e:TypeId}{fz:Nat×Nat}(h:w.heap[b]?=some (.cells c e fz))(n:Nat):∃fz',w.freeze ⟨b,0,none⟩ n={w with heap:=w.heap.setIfInBounds b (.cells c e fz')}:=by
 have hlt:=(Array.getElem?_eq_some_iff.1 h).1
 have hb:w.heap[b]=.cells c e fz:=(Array.getElem?_eq_some_iff.1 h).2
 have key:∀(f:Obj→Obj) fz',f (.cells c e fz)=.cells c e fz'→w.heap.modify b f=w.heap.setIfInBounds b (.cells c e fz'):=by
  intro f fz' hf
  apply Array.ext_getElem?
  intro j
  rw [Array.getElem?_modify,Array.getElem?_setIfInBounds]
  by_cases hj:b=j
  ·subst hj;simp [h,hf,hlt,hb]
  ·simp [hj]
 unfold World.freeze
 split
 ·refine⟨fz,?_⟩
  have hid:w.heap.modify b id=w.heap:=by
   apply Array.ext_getElem?
   intro j
   rw [Array.getElem?_modify]
   split<;>simp
  rw [← key id fz rfl,hid]
 ·obtain⟨lo,hi⟩:=fz
  exact⟨_,by congr 1;exact key _ _ rfl⟩
theorem Lf {β:Type}{v:j3}{k:Nat→Option β}{r:β}(h:Tv v k=some r):∃n:Nat,v=.int .i64 (n:Int)∧k n=some r:=by
 unfold Tv at h
 split at h
 ·exact⟨_,rfl,h⟩
 ·cases h
theorem Dl (s:St P ι (m.nm ι) slots done ls env a.tmps)(hm:RM P G ι m w.heap){c:Call}{t u e:TypeId}{x y:Operand}{x' y':Opd}(hc:c.callee=.builtin .unsafeString)
  (hts:c.argTypes.toList=[t,u]) (has:c.args.toList=[x,y]) (hu:P.underlying t=some (.pointer e)) (hbt:xG P e=true)
  (hx:J7 P slots done x=some x') (hy:J7 P slots done y=some y') {cf:y8} {outs:List VM} (hv:trE (.ustr e x' y') cf ls env m=some outs):
  ∀o:Oper,o.op=.call c→Does P a.eval o w (O5 P G ι m w outs):=by
 intro o ho
 obtain⟨_,hes,_⟩:=uG hbt
 obtain⟨e1,_⟩:=l9 s hx
 obtain⟨e2,_⟩:=l9 s hy
 have hts:c.argTypes=#[t,u]:=by rw [← hts,Array.toArray_toList]
 have has:c.args=#[x,y]:=by rw [← has,Array.toArray_toList]
 obtain⟨n,h1,hv⟩:=Lf hv
 have h1:trO y' ls env=.int .i64 (n:Int):=h1
 change (match trO x' ls env with
  | .nilPtr=>bi (Nat.beq n 0) (one (.str []) m) none
  | .ptr id off=>bi (Nat.beq off 0) (bi (Nat.ble m.lim id) (match m.get id with
   | some (.buf ty' s)=>bi (Nat.beq e ty') (bi (Nat.beq n (len' s)) (bi (Nat.ble n 9223372036854775807) (one (.str s) (m.set id .dead)) none) none) none
   | _=>none) none) none
  | _=>none)=some outs at hv
 split at hv
 ·rename_i h2
  obtain⟨h3,hv1⟩:=p9 hv
  clear hv
  cases hv1
  obtain rfl:n=0:=Nat.eq_of_beq_eq_true h3
  refine E5 (v:=.string .empty) (w':=w) ?_ ⟨_,List.mem_singleton.2 rfl,ι,Step.refl hm,trivial,rfl⟩
  have:=Lib.run_unsafeString_none (P:=P) w t u o.type none
  simp [execOp,ho,resolve,hc,has,hts,invoke,builtin,e1,e2,h1,h2,l6,this]
 ·rename_i id off h2
  obtain⟨h3,hv1⟩:=p9 hv
  obtain⟨h4,hv2⟩:=p9 hv1
  clear hv hv1
  obtain rfl:off=0:=Nat.eq_of_beq_eq_true h3
  have hlim:m.lim≤id:=Nat.le_of_ble_eq_true h4
  split at hv2
  ·rename_i ty' str hg
   obtain⟨h5,hv3⟩:=p9 hv2
   obtain⟨h6,hv4⟩:=p9 hv3
   obtain⟨h7,hv5⟩:=p9 hv4
   clear hv2 hv3 hv4
   rw [C8] at h6
   cases hv5
   obtain rfl:e=ty':=Nat.eq_of_beq_eq_true h5
   obtain rfl:n=str.length:=Nat.eq_of_beq_eq_true h6
   have h63:str.length≤9223372036854775807:=Nat.le_of_ble_eq_true h7
   obtain⟨q0,cs,fz,q1,q2,q3,q4⟩:=hm.blk id _ hg
   have hsp:=hm.spot id _ hg rfl
   obtain⟨fz',hfz⟩:=Dk q1 str.length
   have hst:Step P G ι m w ι (m.set id .dead) (w.freeze ⟨(ι id).b,0,none⟩ str.length):=by
    rw [hfz]
    exact Step.set' hm hlim hg rfl rfl (o:=.cells cs e fz') ⟨rfl,rfl,rfl,rfl⟩ trivial (fun h=>by cases h)
   refine E5 (v:=.string ⟨str.toArray⟩) (w':=w.freeze ⟨(ι id).b,0,none⟩ str.length) ?_ ⟨_,List.mem_singleton.2 rfl,ι,hst,trivial,rfl⟩
   have had:a.eval x=.pointer (some ⟨(ι id).b,0,none⟩):=by rw [e1,h2];simp [l6,Inj.at,q0,hsp]
   by_cases h0:str=[]
   ·subst h0
    have:=Lib.run_unsafeString_none (P:=P) w t u o.type (some ⟨(ι id).b,0,none⟩)
    simp [execOp,ho,resolve,hc,has,hts,invoke,builtin,had,e2,h1,l6,this,World.freeze]
    rfl
   ·have:=Lib.run_unsafeString_row (P:=P) w t u o.type e hu (nM hes) (ι id).b cs.size (by simp [World.shape?,q1]) str h0 (by omega) h63 (fun j b hj=>by
     have:=q4 j b hj
     by_cases h0:j=0
     ·subst h0;simpa [World.cell?,Addr.add,q1] using this
     ·simpa [World.cell?,Addr.add,q1,h0] using this)
    simp [execOp,ho,resolve,hc,has,hts,invoke,builtin,had,e2,h1,l6,this]
  ·cases hv2
 ·cases hv
end
section
variable {P:Program}{G:Mem}{ι:Inj}{m:Mem}{w:World}{slots:List Nat}{done:List (Option Nat)}{ls:List j3}{env:T j3}{a:Act}
def Dm (P:Program)(f:FuncId):Prop:=∃fn,P.funcs[f]?=some fn∧fn.body.isSome=true∧fn.name≠ "runtime.NumGoroutine"
def F9 (P:Program)(G:Mem)(ι:Inj)(m:Mem)(w:World)(outs:List VM)(e:Ending)(w':World):Prop:=
 (∃v,e=.returned v∧O5 P G ι m w outs v w')∨
  ∃r∈outs,∃x ι',r.v=.pan x∧Step P G ι m w ι' r.m w'∧x.lt (r.m.nm ι')∧e=.panicked [{v:=l6 ι' x,recovered:=false}]
def iK (P:Program)(ρ:Operand→Value)(o:Oper)(w:World)(R:Ending→World→Prop):Prop:=
 match (execOp ρ o).run P w with
 | .ok (.value v) w'=>R (.returned v) w'
 | .ok .skip w'=>R (.returned undef) w'
 | .ok (.enter f args) w'=>CallsIn Fence.wide 0 P f args w' R
 | .ok (.round l f tmps assign body) w'=>RoundIn Fence.wide 0 P l f tmps assign body w' R
 | .halt (.panic v) w'=>R (.panicked [{v,recovered:=false}]) w'
 | _=>False
theorem J4 {ρ:Operand→Value}{o:Oper}{outs:List VM}(h:Does P ρ o w (O5 P G ι m w outs)):iK P ρ o w (F9 P G ι m w outs):=by
 unfold Does at h
 unfold iK
 generalize (execOp ρ o).run P w=res at h
 cases res with
 | halt=>exact h.elim
 | ok x w'=>
  cases x with
  | value v=>exact .inl ⟨_,rfl,h⟩
  | skip=>exact .inl ⟨_,rfl,h⟩
  | enter f args=>exact CallsIn.mono h fun e w'' hh=>.inl hh
  | round l f tmps assign body=>exact RoundIn.mono h fun e w'' hh=>.inl hh
  | _=>exact h.elim
theorem Dn {ρ:Operand→Value}{o:Oper}{R:Value→World→Prop}(h:Does P ρ o w R):iK P ρ o w (fun e w'=>∃v,e=.returned v∧R v w'):=by
 unfold Does at h
 unfold iK
 generalize (execOp ρ o).run P w=res at h
 cases res with
 | halt=>exact h.elim
 | ok x w'=>
  cases x with
  | value v=>exact⟨_,rfl,h⟩
  | skip=>exact⟨_,rfl,h⟩
  | enter f args=>exact h
  | round l f tmps assign body=>exact h
  | _=>exact h.elim
structure qj (P:Program)(G:Mem)(cf:y8):Prop where
 func:∀{f:FuncId} {args:List j3} {m:Mem} {outs:List VM},cf (.func f) args m=some outs→Dm P f∧∀{ι:Inj} {w:World},RM P G ι m w.heap→ltL (m.nm ι) args→
  CallsIn Fence.wide 0 P f (l8 ι args).toArray w (F9 P G ι m w outs)
 yield:∀{l:Nat} {args:List j3} {m:Mem} {outs:List VM},cf (.yield l) args m=some outs→∀{ι:Inj} {w:World},RM P G ι m w.heap→ltL (m.nm ι) args→
  ∃L:Loop,w.heap[(ι l).b]?=some (.loop L)∧args.length=L.params.size∧
   RoundIn Fence.wide 0 P (ι l).b L.fn ((L.params.zip (l8 ι args).toArray).foldl (fun t (p,v)=>t.setIfInBounds p v) L.tmps) L.assign L.body w (F9 P G ι m w outs)
 other:∀{fn:Fn} {args:List j3} {m:Mem} {outs:List VM},cf fn args m=some outs→(∃f,fn=.func f)∨∃l,fn=.yield l
theorem fA {f:FuncId}(h:Dm P f)(args:Array Value)(w:World):(callFunc f args).run P w=.ok (.enter f args) w:=by
 obtain⟨fn,h1,h2,h3⟩:=h
 cases hb:fn.body with
 | none=>rw [hb] at h2;cases h2
 | some c=>simp [callFunc,h1,h3,hb]
theorem bW (ι:Inj)(l r:List j3):l8 ι (l++r)=l8 ι l++l8 ι r:=by simp [N8]
theorem bA {n:Nm}{l r:List j3}(h:ltL n l)(h':ltL n r):ltL n (l++r):=R5.2 fun v hv=>(List.mem_append.1 hv).elim (E8 h) (E8 h')
theorem Al (s:St P ι (m.nm ι) slots done ls env a.tmps){as:Array Operand}{os:List Opd}(h:fT P slots done as.toList=some os):
  as.map a.eval=(l8 ι (evs (iE os) ls env)).toArray∧ltL (m.nm ι) (evs (iE os) ls env):=by
 obtain⟨h1,h2⟩:=dJ s h
 refine⟨?_,h2⟩
 rw [← h1,← Array.toList_map,Array.toArray_toList]
theorem Dp {cf:y8}(hcf:qj P G cf)(s:St P ι (m.nm ι) slots done ls env a.tmps)(hm:RM P G ι m w.heap){c:Call}{f:FuncId}{as:List Opd}(hc:c.callee=.value (.func f))
  (has:fT P slots done c.args.toList=some as) {outs:List VM} (hv:trE (.call f as) cf ls env m=some outs):
  ∀o:Oper,o.op=.call c→iK P a.eval o w (F9 P G ι m w outs):=by
 intro o ho
 obtain⟨e1,e2⟩:=Al s has
 have hv:cf (.func f) (evs (iE as) ls env) m=some outs:=hv
 obtain⟨hf,hcall⟩:=hcf.func hv
 have hrun:(execOp a.eval o).run P w=.ok (.enter f (l8 ι (evs (iE as) ls env)).toArray) w:=by
  simp [execOp,ho,resolve,hc,Act.eval,Deferred.ofValue,invoke,e1,fA hf]
 unfold iK
 rw [hrun]
 exact hcall hm e2
theorem Am {cf:y8}(hcf:qj P G cf)(s:St P ι (m.nm ι) slots done ls env a.tmps)(hm:RM P G ι m w.heap){c:Call}{f:Operand}{f':Opd}{as:List Opd}(hc:c.callee=.value f)
  (hf':J7 P slots done f=some f') (has:fT P slots done c.args.toList=some as) {outs:List VM} (hv:trE (.callv f' as) cf ls env m=some outs):
  ∀o:Oper,o.op=.call c→iK P a.eval o w (F9 P G ι m w outs):=by
 intro o ho
 obtain⟨e1,e2⟩:=Al s has
 obtain⟨e3,e4⟩:=l9 s hf'
 obtain⟨fn,x,y,h1,h⟩:=zU hv
 have h1:trO f' ls env=.func fn x y:=h1
 rw [h1] at e3 e4
 obtain⟨_,hx,hy⟩:=e4
 cases fn with
 | func g=>
  have h:cf (.func g) (dz x (dz (evs (iE as) ls env) y)) m=some outs:=h
  rw [L9,L9] at h
  obtain⟨hf,hcall⟩:=hcf.func h
  have hrun:(execOp a.eval o).run P w=.ok (.enter g (l8 ι (x++(evs (iE as) ls env++y))).toArray) w:=by
   simp [execOp,ho,resolve,hc,e3,l6,dS,Deferred.ofValue,invoke,e1,fA hf,bW]
  unfold iK
  rw [hrun]
  exact hcall hm (bA hx (bA e2 hy))
 | yield l=>
  have h:cf (.yield l) (dz x (evs (iE as) ls env)) m=some outs:=h
  rw [L9] at h
  obtain⟨L,g1,g2,g3⟩:=hcf.yield h hm (bA hx e2)
  have hrun:(execOp a.eval o).run P w=.ok (.round (ι l).b L.fn ((L.params.zip (l8 ι (x++evs (iE as) ls env)).toArray).foldl (fun t (p,v)=>t.setIfInBounds p v) L.tmps) L.assign L.body) w:=by
   have hy:=run_yield (P:=P) (args:=(l8 ι (x++evs (iE as) ls env)).toArray) g1 (by simpa using g2)
   rw [bW,← List.append_toArray] at hy ⊢
   simp only [execOp,ho,resolve,hc,e3,l6,dS,Deferred.ofValue,invoke,e1,Sem.run_bind,Sem.run_pure,Result.andThen_ok,hy]
  unfold iK
  rw [hrun]
  exact g3
 | method=>cases h
 | methodOf=>cases h
 | via=>cases h
theorem Ao (s:St P ι (m.nm ι) slots done ls env a.tmps)(hm:RM P G ι m w.heap){x:Operand}{x':Opd}(hx:J7 P slots done x=some x'){cf:y8}{outs:List VM}(hv:trE (.panic x') cf ls env m=some outs):
  ∀o:Oper,o.op=.panic x→iK P a.eval o w (F9 P G ι m w outs):=by
 intro o ho
 obtain⟨e1,e2⟩:=l9 s hx
 have hv:Rw (trO x' ls env) m=some outs:=hv
 generalize trO x' ls env=v at *
 cases v with
 | iface t y=>
  have hv:some [(⟨.pan (.iface t y),m⟩:VM)]=some outs:=hv
  cases hv
  have hrun:(execOp a.eval o).run P w=.halt (.panic (l6 ι (.iface t y))) w:=by
   simp [execOp,ho,e1,l6,Instr.panic,goPanic]
  unfold iK
  rw [hrun]
  exact .inr ⟨_,List.mem_singleton.2 rfl,_,ι,rfl,Step.refl hm,e2,rfl⟩
 | _=>cases hv
theorem rF {cf:y8}(hcf:qj P G cf)(s:St P ι (m.nm ι) slots done ls env a.tmps)(hm:RM P G ι m w.heap){op:Op}{eo:EOp}(h:cOp P slots done op=some (.e eo)){outs:List VM}(hv:trE eo cf ls env m=some outs):
  ∀o:Oper,o.op=op→iK P a.eval o w (F9 P G ι m w outs):=by
 cases qU h with
 | store h1 h2 h3=>exact fun o ho=>J4 (Ae s hm h1 h2 h3 hv o ho)
 | mapUpdate h1 h2 h3 h4 h5=>exact fun o ho=>J4 (oV s hm h1 h2 h3 h4 h5 hv o (.inl ho))
 | insert h1 h2 h3 h4 h5=>exact fun o ho=>J4 (oV s hm h1 h2 h3 h4 h5 hv o (.inr ho))
 | range h1 h2=>exact fun o ho=>J4 (Af s hm h1 h2 hv o ho)
 | next h1=>exact fun o ho=>J4 (Dh s hm h1 hv o ho)
 | app h1 h2 h3 h4 h5 h6 h7 h8 h9 h10=>exact fun o ho=>J4 (yj s hm h2 h3 h4 h5 h1 h6 h7 h8 h9 h10 (by rw [← Le];exact hv) o ho)
 | copy h1 h2 h3 h4 h5 h6 h7=>exact fun o ho=>J4 (Di s hm h1 h2 h3 h4 h5 h6 h7 hv o ho)
 | clear h1 h2 h3 h4 h5 h6=>exact fun o ho=>J4 (Ah s hm h1 h2 h3 h4 h5 h6 hv o ho)
 | call h1 h2 h3 h4 h5=>exact Dp hcf s hm h1 h5 hv
 | callv h1 h2 h3=>exact Am hcf s hm h1 h2 h3 hv
 | panic h1=>exact Ao s hm h1 hv
 | rangeS h1 h2=>exact fun o ho=>J4 (yu s hm h1 h2 hv o ho)
 | nextS h1=>exact fun o ho=>J4 (Ak s hm h1 hv o ho)
 | appB h1 h2 h3 h4 h5 h6 h7 h8=>exact fun o ho=>J4 (Dj s hm h2 h3 h4 h5 h1 h6 h7 h8 hv o ho)
 | ustr h1 h2 h3 h4 h5 h6 h7=>exact fun o ho=>J4 (Dl s hm h1 h2 h3 h4 h5 h6 h7 hv o ho)
 | defer=>cases hv
 | recover=>cases hv
end
section
variable {f:Opd→Opd}{ls ls':List j3}{env env':T j3}
def Sm (f:Opd→Opd)(ls:List j3)(env:T j3)(ls':List j3)(env':T j3)(x:Opd):Prop:=trO (f x) ls' env'=trO x ls env
theorem jh {l:List Opd}(h:∀x∈l,Sm f ls env ls' env' x):evs (iE (l.map f)) ls' env'=evs (iE l) ls env:=by
 rw [evs_eq',evs_eq']
 rw [List.map_map]
 exact List.map_congr_left h
where
 evs_eq' {l:List Opd} {ls:List j3} {env:T j3}:evs (iE l) ls env=l.map fun x=>trO x ls env:=by
  induction l with
  | nil=>rfl
  | cons x l ih=>show trO x ls env::evs (iE l) ls env=_;rw [ih];rfl
theorem yw {ps:List (Nat×Nat×Opd)}(h:∀x∈ps.map (·.2.2),Sm f ls env ls' env' x)(cs:List j3):
  lay (CP (ps.map fun p=>(p.1,p.2.1,f p.2.2))) ls' env' cs=lay (CP ps) ls env cs:=by
 induction ps generalizing cs with
 | nil=>rfl
 | cons p ps ih=>
  have h0:trO (f p.2.2) ls' env'=trO p.2.2 ls env:=h _ (by simp)
  show bi (Nat.beq (len' (trO (f p.2.2) ls' env').cells) p.2.1) (bi (Nat.ble (Nat.add p.1 p.2.1) (len' cs)) (lay (CP (ps.map fun p=>(p.1,p.2.1,f p.2.2))) ls' env' (iO p.1 (trO (f p.2.2) ls' env').cells cs)) none) none =
   bi (Nat.beq (len' (trO p.2.2 ls env).cells) p.2.1) (bi (Nat.ble (Nat.add p.1 p.2.1) (len' cs)) (lay (CP ps) ls env (iO p.1 (trO p.2.2 ls env).cells cs)) none) none
  rw [h0,ih (fun x hx=>h x (List.mem_cons_of_mem _ hx))]
theorem aC {β:Type}{o:Option Opd}(h:∀x∈o.toList,Sm f ls env ls' env' x)(d:Nat)(k:Nat→Option β):aH (ny (o.map f)) d ls' env' k=aH (ny o) d ls env k:=by
 cases o with
 | none=>rfl
 | some x=>
  have h0:trO (f x) ls' env'=trO x ls env:=h x (by simp)
  show kU (trO (f x) ls' env') k=kU (trO x ls env) k
  rw [h0]
theorem yx {o:POp}(h:∀x∈iL o,Sm f ls env ls' env' x):trP (mZ f o) ls' env'=trP o ls env:=by
 have e:∀x∈iL o,trO (f x) ls' env'=trO x ls env:=h
 cases o with
 | build z ps=>show ob (lay (CP (ps.map fun p=>(p.1,p.2.1,f p.2.2))) ls' env' z) _=ob (lay (CP ps) ls env z) _;rw [yw h]
 | mkFunc fn a b=>
  show some (j3.func fn (evs (iE (a.map f)) ls' env') (evs (iE (b.map f)) ls' env'))=some (j3.func fn (evs (iE a) ls env) (evs (iE b) ls env))
  rw [jh fun x hx=>h x (List.mem_append_left _ hx),jh fun x hx=>h x (List.mem_append_right _ hx)]
 | slStr x lo hi=>
  have h0:=e x (by simp [iL])
  have h1:∀y∈lo.toList,Sm f ls env ls' env' y:=fun y hy=>h y (List.mem_cons_of_mem _ (List.mem_append_left _ hy))
  have h2:∀y∈hi.toList,Sm f ls env ls' env' y:=fun y hy=>h y (List.mem_cons_of_mem _ (List.mem_append_right _ hy))
  simp only [mZ,trP,aW,h0,aC h1,aC h2]
 | slArr es n x lo hi=>
  have h0:=e x (by simp [iL])
  have h1:∀y∈lo.toList,Sm f ls env ls' env' y:=fun y hy=>h y (List.mem_cons_of_mem _ (List.mem_append_left _ hy))
  have h2:∀y∈hi.toList,Sm f ls env ls' env' y:=fun y hy=>h y (List.mem_cons_of_mem _ (List.mem_append_right _ hy))
  simp only [mZ,trP,Bo,h0,aC h1,aC h2]
 | mm mx x xs=>
  show Ew mx (evs (iE (xs.map f)) ls' env') (trO (f x) ls' env')=Ew mx (evs (iE xs) ls env) (trO x ls env)
  rw [jh fun x hx=>h x (List.mem_cons_of_mem _ hx),e x (by simp [iL])]
 | ib op x y=>
  have h0:=e x (by simp [iL])
  have h1:=e y (by simp [iL])
  cases op<;>simp only [mZ,trP,pIb,Tp,Nw,h0,h1]
 | eq neg k x y=>
  have h0:=e x (by simp [iL])
  have h1:=e y (by simp [iL])
  cases neg<;>simp only [mZ,trP,pEq,pNe,h0,h1]
 | fld off size x=>
  have h0:=e x (by simp [iL])
  cases size<;>simp only [mZ,trP,KN,KO,h0]
 | iArr es n size x i=>
  have h0:=e x (by simp [iL])
  have h1:=e i (by simp [iL])
  cases size<;>simp only [mZ,trP,Bp,JY,h0,h1]
 | pick a b c=>simp only [mZ,trP,Z8,e a (by simp [iL]),e b (by simp [iL]),e c (by simp [iL])]
 | iAddr es x i=>simp only [mZ,trP,G8,e x (by simp [iL]),e i (by simp [iL])]
 | iAddrArr es n x i=>simp only [mZ,trP,kX,e x (by simp [iL]),e i (by simp [iL])]
 | iStr x i=>simp only [mZ,trP,nC,e x (by simp [iL]),e i (by simp [iL])]
 | mov x=>simp only [mZ,trP,J6,e x (by simp [iL])]
 | nilCheck x=>simp only [mZ,trP,O7,e x (by simp [iL])]
 | not x=>simp only [mZ,trP,JX,e x (by simp [iL])]
 | neg x=>simp only [mZ,trP,KM,e x (by simp [iL])]
 | inv x=>simp only [mZ,trP,Tq,e x (by simp [iL])]
 | conv k x=>simp only [mZ,trP,kI,e x (by simp [iL])]
 | mkIface t x=>simp only [mZ,trP,oD,e x (by simp [iL])]
 | fAddr o x=>simp only [mZ,trP,D8,e x (by simp [iL])]
 | ext x i=>simp only [mZ,trP,pExt,e x (by simp [iL])]
 | len x=>simp only [mZ,trP,Ei,e x (by simp [iL])]
 | lenS x=>simp only [mZ,trP,tq,e x (by simp [iL])]
 | cap x=>simp only [mZ,trP,Tt,e x (by simp [iL])]
 | assert t z ok x=>simp only [mZ,trP,Ez,e x (by simp [iL])]
theorem yA {o:ROp}(h:∀x∈Bn o,Sm f ls env ls' env' x)(m:Mem):trR (CU f o) ls' env' m=trR o ls env m:=by
 have e:∀x∈Bn o,trO (f x) ls' env'=trO x ls env:=h
 cases o with
 | load size x=>cases size<;>simp only [CU,trR,iF,I5,e x (by simp [Bn])]
 | look k z ok x y=>simp only [CU,trR,xu,e x (by simp [Bn]),e y (by simp [Bn])]
 | lenM x=>simp only [CU,trR,Ou,e x (by simp [Bn])]
 | bytesStr x=>simp only [CU,trR,U0,e x (by simp [Bn])]
 | entry x=>simp only [CU,trR,kY,e x (by simp [Bn])]
 | slData x=>simp only [CU,trR,EA,e x (by simp [Bn])]
 | toUns x=>simp only [CU,trR,oF,e x (by simp [Bn])]
 | fromUns l x=>simp only [CU,trR,eU,e x (by simp [Bn])]
theorem yB {o:LOp}(h:∀x∈opsL o,Sm f ls env ls' env' x)(nid:Nat):trL (Iu f o) ls' env' nid=trL o ls env nid:=by
 have e:∀x∈opsL o,trO (f x) ls' env'=trO x ls env:=h
 cases o with
 | alloc z=>rfl
 | mkMap=>rfl
 | box x=>simp only [Iu,trL,Ny,e x (by simp [opsL])]
 | allocT t z=>rfl
 | boxT t k x=>simp only [Iu,trL,Ov,e x (by simp [opsL])]
 | buildSlice es len z ps=>
  show ob (lay (CP (ps.map fun p=>(p.1,p.2.1,f p.2.2))) ls' env' (I4 z len)) _=ob (lay (CP ps) ls env (I4 z len)) _
  rw [yw h]
 | mkSlice es b z l c=>simp only [Iu,trL,Bq,e l (by simp [opsL]),e c (by simp [opsL])]
 | strBytes x=>simp only [Iu,trL,qz,e x (by simp [opsL])]
 | sl es x lo hi=>
  have h0:=e x (by simp [opsL])
  have h1:∀y∈lo.toList,Sm f ls env ls' env' y:=fun y hy=>h y (List.mem_cons_of_mem _ (List.mem_append_left _ hy))
  cases hi with
  | none=>
   show aH (ny (lo.map f)) 0 ls' env' (fun l=>F3 nid es (trO (f x) ls' env') l none)=aH (ny lo) 0 ls env (fun l=>F3 nid es (trO x ls env) l none)
   rw [aC h1,h0]
  | some y=>
   have h2:=e y (by simp [opsL])
   show aH (ny (lo.map f)) 0 ls' env' (fun l=>kU (trO (f y) ls' env') fun h=>F3 nid es (trO (f x) ls' env') l (some h))=aH (ny lo) 0 ls env (fun l=>kU (trO y ls env) fun h=>F3 nid es (trO x ls env) l (some h))
   rw [aC h1,h0,h2]
theorem yC {o:EOp}(h:∀x∈opsE o,Sm f ls env ls' env' x)(cf:y8)(m:Mem):trE (wW f o) cf ls' env' m=trE o cf ls env m:=by
 have e:∀x∈opsE o,trO (f x) ls' env'=trO x ls env:=h
 cases o with
 | store s a x=>simp only [wW,trE,C9,e a (by simp [opsE]),e x (by simp [opsE])]
 | storeAp s a x b=>simp only [wW,trE,vE,C9,e a (by simp [opsE]),e x (by simp [opsE]),e b (by simp [opsE])]
 | mapSet k a b c=>simp only [wW,trE,y5,e a (by simp [opsE]),e b (by simp [opsE]),e c (by simp [opsE])]
 | range x=>simp only [wW,trE,iU,e x (by simp [opsE])]
 | next x=>simp only [wW,trE,xw,e x (by simp [opsE])]
 | app es zs z b s x=>cases zs<;>simp only [wW,trE,tX,Ox,e s (by simp [opsE]),e x (by simp [opsE])]
 | copy es d s=>simp only [wW,trE,KP,e d (by simp [opsE]),e s (by simp [opsE])]
 | clear z x=>simp only [wW,trE,Bt,e x (by simp [opsE])]
 | call g as=>
  show cf (.func g) (evs (iE (as.map f)) ls' env') m=cf (.func g) (evs (iE as) ls env) m
  rw [jh (l:=as) h]
 | callv g as=>simp only [wW,trE,U1,e g (by simp [opsE]),jh fun x hx=>h x (List.mem_cons_of_mem _ hx)]
 | bad=>rfl
 | defer f as=>rfl
 | recover=>rfl
 | panic x=>simp only [wW,trE,Bv,e x (by simp [opsE])]
 | rangeS x=>simp only [wW,trE,qA,e x (by simp [opsE])]
 | nextS x=>simp only [wW,trE,tY,e x (by simp [opsE])]
 | appB t s x=>simp only [wW,trE,ED,tX,e s (by simp [opsE]),e x (by simp [opsE])]
 | ustr t p n=>simp only [wW,trE,Oy,e p (by simp [opsE]),e n (by simp [opsE])]
end
section
variable {P:Program}{G:Mem}{ι:Inj}{n:Nm}{m:Mem}{w:World}{slots:List Nat}{done:List (Option Nat)}{ls:List j3}{env:T j3}{a:Act}
def FR (r:Option Nat):Fence:={Fence.wide with round:=r}
theorem dM:l6 ι .undef=undef:=by simp only [l6];rfl
theorem nP {α β:Type}(f:α→Option (List β))(a:α)(l:List α):zN f (a::l)=ob (f a) fun x=>ob (zN f l) fun y=>some (x++y):=rfl
theorem uH {α β:Type}{f:α→Option (List β)}:∀{l:List α} {outs:List β},zN f l=some outs→∀r∈l,∃os,f r=some os∧∀o∈os,o∈outs
 | [],_,_,r,hr=>by cases hr
 | a::l,outs,h,r,hr=>by
  rw [nP] at h
  obtain⟨x,hx,h⟩:=r9 h
  obtain⟨y,hy,h⟩:=r9 h
  cases h
  rcases List.mem_cons.1 hr with rfl | hr
  ·exact⟨x,hx,fun o ho=>List.mem_append_left _ ho⟩
  ·obtain⟨os,h1,h2⟩:=uH hy r hr
   exact⟨os,h1,fun o ho=>List.mem_append_right _ (h2 o ho)⟩
theorem L8 {α β:Type}{x:Option (List α)}{f:α→Option (List β)}{outs:List β}(h:bnd x f=some outs):∃l,x=some l∧∀r∈l,∃os,f r=some os∧∀o∈os,o∈outs:=by
 cases x with
 | none=>cases h
 | some l=>
  refine⟨l,rfl,?_⟩
  match l,h with
  | [],_=>intro r hr;cases hr
  | [a],h=>
   intro r hr
   obtain rfl:=List.mem_singleton.1 hr
   exact⟨outs,h,fun o ho=>ho⟩
  | a::b::t,h=>exact uH (l:=a::b::t) h
def evA (cf:y8)(o:AOp)(ls:List j3)(env:T j3)(m:Mem):iR:=match o with
 | .p o=>ob (trP o ls env) fun v=>one v m
 | .r o=>ob (trR o ls env m) fun v=>one v m
 | .a o=>ob (trL o ls env m.next) fun r=>one r.1 (iM m r.2)
 | .e o=>trE o cf ls env m
def evG (cf:y8)(g:Option (Opd×Bool))(o:AOp)(ls:List j3)(env:T j3)(m:Mem):iR:=match g with
 | none=>evA cf o ls env m
 | some (x,w)=>bi (isB w (trO x ls env)) (evA cf o ls env m) (one .undef m)
theorem uI {α β γ:Type}(o:Option α)(g:α→β)(f:β→Option (List γ)):bnd (ob o fun a=>some [g a]) f=ob o fun a=>f (g a):=by
 cases o<;>rfl
theorem FD {β γ:Type}(b:Bool)(x y:Option (List β))(f:β→Option (List γ)):bnd (bi b x y) f=bi b (bnd x f) (bnd y f):=by
 cases b<;>rfl
theorem Lg {α β:Type}(b:Bool)(x y:Option α)(f:α→Option β):ob (bi b x y) f=bi b (ob x f) (ob y f):=by
 cases b<;>rfl
def tN:AOp→Bool
 | .e _=>true
 | _=>false
def Kl (e:Bool)(d:Option Nat)(k:RC)(cf:y8)(ls:List j3)(env:T j3)(r:VM):Option (List EM):=
 bi e (fM r.v (fun x=>some [⟨env,r.m,some x,[]⟩]) (k cf (r.v::ls) (trD d r.v env) r.m)) (k cf (r.v::ls) (trD d r.v env) r.m)
theorem Km (o:AOp)(d:Option Nat)(g:Option (Opd×Bool))(k:RC)(cf:y8)(ls:List j3)(env:T j3)(m:Mem):
  trI o d g k cf ls env m=bnd (evG cf g o ls env m) (Kl (tN o) d k cf ls env):=by
 cases o with
 | p o=>
  have h:trI (.p o) d g k cf ls env m=ob (Ej g (trP o) ls env) (fun v=>k cf (v::ls) (trD d v env) m):=by cases d<;>rfl
  rw [h]
  cases g with
  | none=>exact (uI (trP o ls env) (fun v=>(⟨v,m⟩:VM)) (fun r=>k cf (r.v::ls) (trD d r.v env) r.m)).symm
  | some p=>
   obtain⟨x,wt⟩:=p
   show ob (bi (isB wt (trO x ls env)) (trP o ls env) (some .undef)) _=bnd (bi (isB wt (trO x ls env)) (ob (trP o ls env) fun v=>some [⟨v,m⟩]) (one .undef m)) _
   rw [FD,Lg,uI];rfl
 | r o=>
  have h:trI (.r o) d g k cf ls env m=ob (Bw g (trR o) ls env m) (fun v=>k cf (v::ls) (trD d v env) m):=by cases d<;>rfl
  rw [h]
  cases g with
  | none=>exact (uI (trR o ls env m) (fun v=>(⟨v,m⟩:VM)) (fun r=>k cf (r.v::ls) (trD d r.v env) r.m)).symm
  | some p=>
   obtain⟨x,wt⟩:=p
   show ob (bi (isB wt (trO x ls env)) (trR o ls env m) (some .undef)) _=bnd (bi (isB wt (trO x ls env)) (ob (trR o ls env m) fun v=>some [⟨v,m⟩]) (one .undef m)) _
   rw [FD,Lg,uI];rfl
 | a o=>
  have h:trI (.a o) d g k cf ls env m=ob (KR g (trL o) ls env m.next) (fun r=>k cf (r.1::ls) (trD d r.1 env) (iM m r.2)):=by cases d<;>rfl
  rw [h]
  cases g with
  | none=>exact (uI (trL o ls env m.next) (fun r=>(⟨r.1,iM m r.2⟩:VM)) (fun r=>k cf (r.v::ls) (trD d r.v env) r.m)).symm
  | some p=>
   obtain⟨x,wt⟩:=p
   show ob (bi (isB wt (trO x ls env)) (trL o ls env m.next) (some (.undef,none))) _=bnd (bi (isB wt (trO x ls env)) (ob (trL o ls env m.next) fun r=>some [⟨r.1,iM m r.2⟩]) (one .undef m)) _
   rw [FD,Lg,uI];rfl
 | e o=>
  have h:trI (.e o) d g k cf ls env m=bnd (Ir g (trE o) cf ls env m) (Kl true d k cf ls env):=by cases d<;>rfl
  rw [h]
  cases g with
  | none=>rfl
  | some p=>rfl
theorem ql {o:AOp}{d:Option Nat}{g:Option (Opd×Bool)}{k:RC}{cf:y8}{outs:List EM}(h:trI o d g k cf ls env m=some outs):
  ∃l,evG cf g o ls env m=some l∧∀r∈l,∃os,Kl (tN o) d k cf ls env r=some os∧∀o∈os,o∈outs:=by
 rw [Km] at h;exact L8 h
theorem FE {β:Type}{v:j3}{p:j3→β}{q:β}(h:v.lt n):fM v p q=q:=by
 cases v<;>first | rfl | exact h.elim
theorem Lh {e:Bool}{d:Option Nat}{k:RC}{cf:y8}{r:VM}(h:r.v.lt n):Kl e d k cf ls env r=k cf (r.v::ls) (trD d r.v env) r.m:=by
 cases e with
 | false=>rfl
 | true=>exact FE h
theorem nQ {op:Op}{o:Oper}(ho:o.op=op){v:j3}(hm:RM P G ι m w.heap)(hg:(execOp a.eval o).run P w=.ok (.value (l6 ι v)) w)(hlt:v.lt (m.nm ι)):
  Does P a.eval o w (O5 P G ι m w [⟨v,m⟩]):=E5 hg ⟨_,List.mem_singleton.2 rfl,ι,Step.refl hm,hlt,rfl⟩
theorem IV {cf:y8}(hcf:qj P G cf)(s:St P ι (m.nm ι) slots done ls env a.tmps)(hm:RM P G ι m w.heap){op:Op}{ao:AOp}(h:cOp P slots done op=some ao){outs:List VM}(hv:evA cf ao ls env m=some outs):
  ∀o:Oper,o.op=op→iK P a.eval o w (F9 P G ι m w outs):=by
 intro o ho
 cases ao with
 | p po=>
  obtain⟨v,h1,h2⟩:=r9 hv
  cases h2
  obtain⟨g1,g2⟩:=jI s h h1
  exact J4 (nQ ho hm (g2 o ho w) g1)
 | r ro=>
  obtain⟨v,h1,h2⟩:=r9 hv
  cases h2
  obtain⟨g1,g2⟩:=jJ s hm (lW h) h1
  exact J4 (nQ ho hm (g2 o ho) g1)
 | a lo=>
  obtain⟨r,h1,h2⟩:=r9 hv
  cases h2
  have hn:¬ (m.nm ι) m.next:=fun ⟨_,h3,_⟩=>Nat.lt_irrefl _ (Mem.y9 hm.ok h3)
  have hs:=jL s (fun _ _=>rfl) hn (qd h) h1 w
  cases hs with
  | none hlt hg=>exact J4 (nQ ho hm (hg o ho w) hlt)
  | made l obj w' hmk=>
   rename_i v b
   have hlaid:=Laid.new hm.ok hm.limn b hmk.live
   have hext:∀j,m.has j→(ι.upd m.next l) j=ι j:=fun j hj=>ι.upd_ne _ fun h=>hlaid.free (h▸hj)
   obtain⟨hb,hlt⟩:=hmk.blk ((m.new b).nm (ι.upd m.next l)) (Mem.O6 hlaid.has hext) hlaid.self (by show ((ι.upd m.next l) m.next).cap=l.cap;rw [Inj.G6])
   exact J4 (E5 (hmk.run o ho) ⟨_,List.mem_singleton.2 rfl,_,Step.lay hm hlaid hmk.grew hmk.loc hmk.spot hb hmk.free,hlt,rfl⟩)
  | tail l hp hb hg hlt=>
   rename_i v p
   have hlaid:=Laid.new hm.ok hm.limn (.tail p) rfl
   have hext:∀j,m.has j→(ι.upd m.next l) j=ι j:=fun j hj=>ι.upd_ne _ fun h=>hlaid.free (h▸hj)
   refine J4 (E5 (hg o ho w) ⟨_,List.mem_singleton.2 rfl,_,Step.name hm hlaid rfl ⟨hlaid.has p hp,?_⟩,hlt _ (Mem.O6 hlaid.has hext) hlaid.self (by show ((ι.upd m.next l) m.next).cap=l.cap;rw [Inj.G6]),rfl⟩)
   rw [hext p hp];exact hb
 | e eo=>exact rF hcf s hm h hv o ho
theorem St.mono {ι':Inj}{n':Nm}{tmps:Array Value}(s:St P ι n slots done ls env tmps)(hi:∀i,n i→ι' i=ι i)(hn:n.le n'):St P ι' n' slots done ls env tmps where
 ls t k hk:=by
  obtain⟨v,h1,h2,h3⟩:=s.ls t k hk
  exact⟨v,h1,j3.F4 hn v h2,by rw [h3,F7 hi v h2]⟩
 env:=s.env.mono hi hn
 glob i hg:=by rw [hi i (s.gn i hg)];exact s.glob i hg
 gn g hg:=(hn g (s.gn g hg)).1
theorem fB (t:Nat):∀(l:List (Option Nat)) (i j:Nat),dQ t l (i+j)=(dQ t l i).map (· + j)
 | [],i,j=>rfl
 | some x::l,i,j=>by
  simp only [dQ]
  cases Nat.beq x t with
  | true=>simp
  | false=>simp only [cond_false];rw [show i+j+1=(i+1)+j from by omega];exact fB t l (i+1) j
 | none::l,i,j=>by
  simp only [dQ];rw [show i+j+1=(i+1)+j from by omega];exact fB t l (i+1) j
def acY (d:Option Tmp)(v:Value)(tmps:Array Value):Array Value:=match d with
 | some t=>tmps.setIfInBounds t v
 | none=>tmps
theorem St.put {tmps:Array Value}(s:St P ι n slots done ls env tmps)(d:Option Tmp)(hd:∀t,d=some t→t<tmps.size){v:j3}(hv:v.lt n):
  St P ι n slots (d::done) (v::ls) (trD (Iy slots d) v env) (acY d (l6 ι v) tmps) where
 ls t k hk:=by
  cases d with
  | none=>
   simp only [dQ] at hk
   rw [fB t done 0 1] at hk
   obtain⟨k',hk',rfl⟩:=Option.map_eq_some_iff.1 hk
   obtain⟨u,h1,h2,h3⟩:=s.ls t k' hk'
   exact⟨u,by simpa using h1,h2,h3⟩
  | some t0=>
   simp only [dQ] at hk
   cases hb:Nat.beq t0 t with
   | true=>
    rw [hb] at hk;cases hk
    obtain rfl:=Nat.eq_of_beq_eq_true hb
    exact⟨v,rfl,hv,by show (tmps.setIfInBounds t0 (l6 ι v)).getD t0 undef=_;rw [J9 _ _ _ _ (hd t0 rfl),if_pos rfl]⟩
   | false=>
    rw [hb,cond_false,fB t done 0 1] at hk
    obtain⟨k',hk',rfl⟩:=Option.map_eq_some_iff.1 hk
    obtain⟨u,h1,h2,h3⟩:=s.ls t k' hk'
    refine⟨u,by simpa using h1,h2,?_⟩
    show (tmps.setIfInBounds t0 (l6 ι v)).getD t undef=_
    rw [J9 _ _ _ _ (hd t0 rfl),if_neg (fun e=>by rw [e] at hb;simp [Nat.beq_refl] at hb)];exact h3
 env:=s.env.put d hv
 glob:=s.glob
 gn:=s.gn
theorem bB (a:Act)(d:Option Tmp)(v:Value):(a.put d v).tmps=acY d v a.tmps∧(a.put d v).defers=a.defers:=by
 cases d<;>exact⟨rfl,rfl⟩
theorem N9 (a:Act)(d:Option Tmp)(v:Value):(a.put d v).tmps.size=a.tmps.size:=by
 cases d<;>simp [Act.put]
def gX (ops:Array Oper)(done:List (Option Nat)):Option (Nat×Bool)→Option (Opd×Bool)→Prop
 | none,g=>g=none
 | some (j,wt),g=>∃og d k,ops[j]?=some og∧og.dst=some d∧dQ d done 0=some k∧g=some (.loc k,wt)
def wZ (g:Option (Opd×Bool))(ls:List j3)(env:T j3):Bool:=match g with
 | none=>true
 | some (x,wt)=>isB wt (trO x ls env)
def bOf:Option Value→Option Bool
 | some (.bool b)=>some b
 | _=>none
theorem Dq (ops:Array Oper)(tmps:Array Value)(j:Nat):yielded ops tmps j=bOf (((ops[j]?).bind (·.dst)).bind (tmps[·]?)):=by
 unfold yielded
 generalize ((ops[j]?).bind (·.dst)).bind (tmps[·]?)=z
 cases z with
 | none=>rfl
 | some v=>cases v<;>rfl
theorem IW (wt:Bool)(v:j3):(bOf (some (l6 ι v))==some wt)=isB wt v:=by
 cases v with
 | bool b=>simp only [l6,bOf,isB,qK];cases b<;>cases wt<;>rfl
 | _=>simp [l6,isB,bOf]
theorem gy {ops:Array Oper}{o:Oper}{g:Option (Opd×Bool)}{tmps:Array Value}(s:St P ι n slots done ls env tmps)(hg:gX ops done o.guard g):
  Region.wanted o (yielded ops tmps)=wZ g ls env:=by
 unfold Region.wanted
 cases hgd:o.guard with
 | none=>rw [hgd] at hg;obtain rfl:g=none:=hg;rfl
 | some p=>
  obtain⟨j,wt⟩:=p
  rw [hgd] at hg
  obtain⟨og,d,k,h1,h2,h3,rfl⟩:=hg
  obtain⟨v,h4,h5,h6⟩:=s.ls d k h3
  have hx:trO (.loc k) ls env=v:=by rw [zT,h4];rfl
  show (yielded ops tmps j==some wt)=isB wt (trO (.loc k) ls env)
  rw [hx,Dq,h1,Option.bind_some,h2,Option.bind_some,← IW (ι:=ι)]
  rw [Array.getD_eq_getD_getElem?] at h6
  cases ht:tmps[d]? with
  | none=>
   rw [ht] at h6
   have h6:undef=l6 ι v:=h6
   rw [← h6];rfl
  | some x=>
   rw [ht] at h6
   have h6:x=l6 ι v:=h6
   rw [h6]
theorem fC {r:Option Nat}{o:Oper}{a:Act}{w:World}{next:Act→World→Prop}{Q:Exit→Act→World→Prop}(hnd:∀c,o.op≠.defer c){R:Ending→World→Prop}(h:iK P a.eval o w R)
  (hn:∀v w',R (.returned v) w'→next (a.put o.dst v) w') (hp:∀c w',R (.panicked c) w'→Q (.panic c) a w') (ho:∀w',¬ R .outgrown w'):o.wpIn (FR r) 0 P a w next Q:=by
 refine⟨fun _ _=>trivial,?_⟩
 rw [Oper.semAt_eq _ _ _ hnd]
 unfold iK at h
 generalize (execOp a.eval o).run P w=res at h
 cases res with
 | halt x w'=>
  cases x with
  | panic v=>exact hp _ _ h
  | _=>exact h.elim
 | ok x w'=>
  cases x with
  | value v=>exact hn _ _ h
  | skip=>exact hn _ _ h
  | enter f args=>
   refine⟨(fun hc=>by cases hc),CallsIn.mono (F:=FR r) h ?_⟩
   intro e w'' hR
   cases e with
   | returned v=>exact hn _ _ hR
   | panicked c=>exact hp _ _ hR
   | outgrown=>exact absurd hR (ho _)
  | round l f tmps assign body=>
   refine⟨(fun hc=>by cases hc),RoundIn.mono (F:=FR r) h ?_⟩
   intro e w'' hR
   cases e with
   | returned v=>exact hn _ _ hR
   | panicked c=>exact hp _ _ hR
   | outgrown=>exact absurd hR (ho _)
  | _=>exact h.elim
theorem aN {r:Option Nat}{o:Oper}{a:Act}{w:World}{next:Act→World→Prop}{Q:Exit→Act→World→Prop}(hnd:∀c,o.op≠.defer c){R:Value→World→Prop}(h:Does P a.eval o w R)
  (hn:∀v w',R v w'→next (a.put o.dst v) w'):o.wpIn (FR r) 0 P a w next Q:=by
 refine fC hnd (Dn h) (fun v w' h=>?_) (fun c w' h=>?_) (fun w' h=>?_)
 ·obtain⟨u,e,h⟩:=h;cases e;exact hn _ _ h
 ·obtain⟨u,e,_⟩:=h;cases e
 ·obtain⟨u,e,_⟩:=h;cases e
theorem ji {op:Op}{ao:AOp}(h:cOp P slots done op=some ao)(hne:∀f as,ao≠.e (.defer f as)):∀c,op≠.defer c:=by
 rintro c rfl
 simp only [cOp] at h
 split at h
 ·obtain⟨_,_,h⟩:=bind_eq h
  obtain⟨_,_,h⟩:=bind_eq h
  cases h;exact hne _ _ rfl
 ·cases h
theorem gY {outs:List VM}{w':World}:¬ F9 P G ι m w outs .outgrown w':=by
 rintro (⟨v,h,_⟩ | ⟨r,_,x,ι',_,_,_,h⟩)<;>cases h
theorem wB {op:Op}{ao:AOp}{cf:y8}{outs:List VM}(h:cOp P slots done op=some ao)(hv:evA cf ao ls env m=some outs):∀c,op≠.defer c:=by
 rintro c rfl
 simp only [cOp] at h
 split at h
 ·obtain⟨_,_,h⟩:=bind_eq h
  obtain⟨_,_,h⟩:=bind_eq h
  cases h;cases hv
 ·cases h
theorem eD {ops:Array Oper}{i:Nat}{x:Inst}{d:Option Nat}(h:lD P slots done ops i=some (x,d)):
  ∃o,ops[i]?=some o∧d=o.dst∧x.op=ng P slots done o.op∧x.dst=Iy slots o.dst∧gX ops done o.guard x.guard:=by
 obtain⟨o,h1,h⟩:=bind_eq h
 dsimp only at h
 cases hg:o.guard with
 | none=>
  rw [hg] at h
  dsimp only at h
  cases h
  exact⟨o,h1,rfl,rfl,rfl,by rw [hg];rfl⟩
 | some p=>
  obtain⟨j,wt⟩:=p
  rw [hg] at h
  dsimp only at h
  obtain⟨og,h3,h⟩:=bind_eq h
  obtain⟨dd,h4,h⟩:=bind_eq h
  obtain⟨k,h5,h⟩:=bind_eq h
  cases h
  exact⟨o,h1,rfl,rfl,rfl,by rw [hg];exact⟨og,dd,k,h3,h4,h5,rfl⟩⟩
theorem FH {r:Option Nat}{cf:y8}(hcf:qj P G cf)(s:St P ι (m.nm ι) slots done ls env a.tmps)(hm:RM P G ι m w.heap){ops:Array Oper}{o:Oper}{g:Option (Opd×Bool)}(hg:gX ops done o.guard g)
  {outs:List VM} (hv:evG cf g (ng P slots done o.op) ls env m=some outs) {K:Act→World→Prop} {Q:Exit→Act→World→Prop}
  (hK:∀v∈outs,∀ι' w',Step P G ι m w ι' v.m w'→v.v.lt (v.m.nm ι')→K (a.put o.dst (l6 ι' v.v)) w')
  (hP:∀v∈outs,∀x ι' w',v.v=.pan x→Step P G ι m w ι' v.m w'→x.lt (v.m.nm ι')→Q (.panic [{v:=l6 ι' x,recovered:=false}]) a w'):
  if Region.wanted o (yielded ops a.tmps) then o.wpIn (FR r) 0 P a w K Q else (∀f,o.about P w a.eval=some f→(FR r).fn f)∧K (a.put o.dst undef) w:=by
 rw [gy s hg]
 have hrun:evA cf (ng P slots done o.op) ls env m=some outs→o.wpIn (FR r) 0 P a w K Q:=by
  intro hv
  cases hc:cOp P slots done o.op with
  | none=>simp only [ng,hc] at hv;cases hv
  | some ao=>
   simp only [ng,hc] at hv
   refine fC (wB hc hv) (IV hcf s hm hc hv o rfl) ?_ ?_ fun _=>gY
   ·rintro v w' (⟨u,hu,x,hx,ι',h1,h2,rfl⟩ | ⟨_,_,_,_,_,_,_,h⟩)
    ·cases hu;exact hK x hx ι' w' h1 h2
    ·cases h
   ·rintro c w' (⟨u,hu,_⟩ | ⟨x,hx,y,ι',h1,h2,h3,h4⟩)
    ·cases hu
    ·cases h4;exact hP x hx y ι' w' h1 h2 h3
 cases g with
 | none=>exact hrun hv
 | some p=>
  obtain⟨x,wt⟩:=p
  have hv:bi (isB wt (trO x ls env)) (evA cf (ng P slots done o.op) ls env m) (one .undef m)=some outs:=hv
  have hgb:wZ (some (x,wt)) ls env=isB wt (trO x ls env):=rfl
  rw [hgb]
  cases hb:isB wt (trO x ls env) with
  | true=>rw [hb] at hv;simp only [if_true];exact hrun hv
  | false=>
   rw [hb] at hv;cases hv
   simp only [Bool.false_eq_true,if_false]
   refine⟨fun _ _=>trivial,?_⟩
   have:=hK ⟨.undef,m⟩ (List.mem_singleton.2 rfl) ι w (Step.refl hm) trivial
   rw [dM] at this;exact this
theorem gZ {ops:Array Oper}{i:Nat}{rest:List Nat}{insts:List Inst}(h:eY P slots ops done (i::rest)=some insts):
  ∃x d l,lD P slots done ops i=some (x,d)∧eY P slots ops (d::done) rest=some l∧insts=x::l:=by
 simp only [eY] at h
 split at h
 ·split at h
  ·cases h;exact⟨_,_,_,by assumption,by assumption,rfl⟩
  ·cases h
 ·cases h
def pY (ι:Inj):Mk→Deferred
 | .c id=>{target:=.collected (ι id).b,args:=#[]}
 | .d (.func fn a b) args=>{target:=.fn (dS ι fn) (l8 ι b).toArray,args:=(l8 ι a).toArray++(l8 ι args).toArray}
 | .d _ _=>{target:=.nil,args:=#[]}
def NA (ι:Inj)(m:Mem):Mk→Prop
 | .c id=>m.has id∧m.lim≤id
 | .d v args=>(∃fn a b,v=.func fn a b)∧v.lt (m.nm ι)∧ltL (m.nm ι) args
def aO (ι:Inj)(m:Mem)(k:List Mk)(ds:List Deferred):Prop:=ds=k.map (pY ι)∧∀x∈k,NA ι m x
theorem NA.step {ι':Inj}{m':Mem}{w':World}{x:Mk}(h:NA ι m x)(hst:Step P G ι m w ι' m' w'):NA ι' m' x∧pY ι' x=pY ι x:=by
 cases x with
 | c id=>exact⟨⟨hst.has id h.1,by rw [hst.lim];exact h.2⟩,by simp only [pY,hst.ext id h.1]⟩
 | d v args=>
  obtain⟨⟨fn,a,b,rfl⟩,h1,h2⟩:=h
  have e:=hst.l6 h1
  have hle:=Mem.O6 hst.has hst.ext
  refine⟨⟨⟨fn,a,b,rfl⟩,j3.F4 hle _ h1,R8 hle _ h2⟩,?_⟩
  have e2:=U2 (n:=m.nm ι) hst.ext args h2
  simp only [l6,Value.func.injEq] at e
  obtain⟨e3,e4,e5⟩:=e
  simp only [pY,e2,e3,e4,e5]
theorem aO.step {ι':Inj}{m':Mem}{w':World}{k:List Mk}{ds:List Deferred}(h:aO ι m k ds)(hst:Step P G ι m w ι' m' w'):aO ι' m' k ds:=by
 refine⟨?_,fun x hx=>((h.2 x hx).step hst).1⟩
 rw [h.1]
 exact List.map_congr_left fun x hx=>((h.2 x hx).step hst).2.symm
def Kn (ι:Inj)(e:EM):Exit:=match e.px with
 | none=>.normal
 | some x=>.panic [{v:=l6 ι x,recovered:=false}]
theorem nR {i:Inst}{l:List Inst}(h:l≠[]∨kZ i=none):V5 (i::l)=trI i.op i.dst i.guard (V5 l):=by
 cases l with
 | cons=>rfl
 | nil=>
  rcases h with h | h
  ·exact absurd rfl h
  ·show xA i=trI i.op i.dst i.guard j6
   unfold xA;rw [h]
theorem OM {r:Option Nat}(hr:r=none)(s:St P ι (m.nm ι) slots done ls env a.tmps)(hm:RM P G ι m w.heap){ops:Array Oper}{o:Oper}{x:Inst}(h2:x.op=ng P slots done o.op)(h3:x.dst=Iy slots o.dst)(h4:gX ops done o.guard x.guard)
  {f:Opd} {as:List Opd} (hd:kZ x=some (f,as)) {outs:List EM} {cf:y8} (hv:EG (trO f) (iE as) cf ls env m=some outs) {Q:Exit→Act→World→Prop}
  (hQ:∀e∈outs,∀ι' w' a',Step P G ι m w ι' e.m w'→M8 ι' (e.m.nm ι') slots e.env a'.tmps→a'.defers=e.mks.map (pY ι')++a.defers→(∀y∈e.mks,NA ι' e.m y)→a'.tmps.size=a.tmps.size→(∀y,e.px=some y→y.lt (e.m.nm ι'))→Q (Kn ι' e) a' w'):
  if Region.wanted o (yielded ops a.tmps) then o.wpIn (FR r) 0 P a w (Q .normal) Q else (∀f,o.about P w a.eval=some f→(FR r).fn f)∧Q .normal (a.put o.dst undef) w:=by
 subst hr
 obtain⟨op,dst,guard⟩:=x
 have h2:op=ng P slots done o.op:=h2
 have h3:dst=Iy slots o.dst:=h3
 have h4:gX ops done o.guard guard:=h4
 have hform:op=.e (.defer f as)∧guard=none∧dst=none:=by
  unfold kZ at hd
  split at hd
  ·rename_i g1 g2 g3
   cases hd
   exact⟨g1,g2,g3⟩
  ·cases hd
 obtain⟨rfl,rfl,rfl⟩:=hform
 have hw:Region.wanted o (yielded ops a.tmps)=true:=by rw [gy s h4];rfl
 rw [hw,if_pos rfl]
 have hc:cOp P slots done o.op=some (.e (.defer f as)):=by
  unfold ng at h2
  split at h2
  ·rename_i ao hao;rw [hao,← h2]
  ·cases h2
 cases hop:o.op with
 | defer c=>
  rw [hop] at hc
  cases qU hc with
  | defer g1 g2 g3=>
   obtain⟨e1,e2⟩:=l9 s g2
   obtain⟨e3,e4⟩:=Al s g3
   obtain⟨fn,x,y,e5,hv⟩:=zU hv
   cases hv
   rw [e5] at e1 e2
   refine⟨fun _ _=>trivial,?_⟩
   have hrun:(Oper.semAt none a.eval o).run P w=.ok (.defer (pY ι (.d (.func fn x y) (evs (iE as) ls env)))) w:=by
    rw [Oper.semAt_none]
    simp [execOp,hop,resolve,g1,e1,e3,l6,Deferred.ofValue,pY]
   show o.uponIn (FR none) 0 P a (Q .normal) Q ((Oper.semAt none a.eval o).run P w)
   rw [hrun]
   have hen:=s.env.put o.dst (v:=.undef) trivial
   rw [← h3,dM] at hen
   refine hQ _ (List.mem_singleton.2 rfl) ι w _ (Step.refl hm) ?_ ?_ ?_ ?_ (fun y hy=>by cases hy)
   ·rw [(bB _ o.dst undef).1];exact hen
   ·rw [(bB _ o.dst undef).2];rfl
   ·intro z hz
    obtain rfl:=List.mem_singleton.1 hz
    exact⟨⟨_,_,_,rfl⟩,e2,e4⟩
   ·rw [N9]
 | _=>
  rw [hop] at hc
  cases qU hc
theorem FI {r:Option Nat}{cf:y8}(hcf:qj P G cf){ops:Array Oper}{nt:Nat}(hin:∀(i:Nat)(o:Oper)(t:Tmp),ops[i]?=some o→o.dst=some t→t<nt){Q:Exit→Act→World→Prop}:
  ∀(l:List Nat) (done:List (Option Nat)) (insts:List Inst),eY P slots ops done l=some insts→(dO insts=true→r=none)→∀(ls:List j3) (env:T j3) (m:Mem) (ι:Inj) (w:World) (a:Act) (outs:List EM),
   RM P G ι m w.heap→nt≤a.tmps.size→St P ι (m.nm ι) slots done ls env a.tmps→V5 insts cf ls env m=some outs→
   (∀e∈outs,∀ι' w' a',Step P G ι m w ι' e.m w'→M8 ι' (e.m.nm ι') slots e.env a'.tmps→a'.defers=e.mks.map (pY ι')++a.defers→(∀y∈e.mks,NA ι' e.m y)→a'.tmps.size=a.tmps.size→(∀y,e.px=some y→y.lt (e.m.nm ι'))→Q (Kn ι' e) a' w')→
   wpOpsIn (FR r) 0 P ops Q l a w:=by
 intro l
 induction l with
 | nil=>
  intro done insts hc hdr ls env m ι w a outs hm hnt s hv hQ
  simp only [eY,Option.some.injEq] at hc;subst hc
  have hv:some [EM.mk env m none []]=some outs:=hv
  cases hv
  exact hQ _ (List.mem_singleton.2 rfl) ι w a (Step.refl hm) s.env rfl (fun y hy=>by cases hy) rfl (fun y hy=>by cases hy)
 | cons i rest ih=>
  intro done insts hc hdr ls env m ι w a outs hm hnt s hv hQ
  obtain⟨x,d,l,hx,hl,rfl⟩:=gZ hc
  obtain⟨o,h1,rfl,h2,h3,h4⟩:=eD hx
  simp only [wpOpsIn,h1]
  by_cases hdd:l≠[]∨kZ x=none
  ·rw [nR hdd] at hv
   obtain⟨vs,hvs,hk⟩:=ql hv
   rw [h2] at hvs
   refine FH hcf s hm h4 hvs ?_ ?_
   ·intro v hvm ι' w' hst hlt
    obtain⟨os,hos,hsub⟩:=hk v hvm
    rw [Lh hlt,h3] at hos
    have s':=(St.mono (n:=m.nm ι) s hst.ext (Mem.O6 hst.has hst.ext)).put o.dst (fun t ht=>Nat.lt_of_lt_of_le (hin i o t h1 ht) hnt) hlt
    refine ih _ _ hl (fun h=>hdr (by simp [dO,h])) _ _ _ ι' w' (a.put o.dst (l6 ι' v.v)) os hst.rm (by rw [N9];exact hnt) (by rw [(bB a o.dst (l6 ι' v.v)).1];exact s') hos ?_
    intro e he ι'' w'' a'' hst' hen hdef hmk hsz hpx
    exact hQ e (hsub e he) ι'' w'' a'' (hst.trans hst') hen (by rw [hdef,(bB a o.dst _).2]) hmk (hsz.trans (N9 a o.dst _)) hpx
   ·intro v hvm y ι' w' hvy hst hlt
    obtain⟨os,hos,hsub⟩:=hk v hvm
    have hE:tN x.op=true:=by
     cases hb:tN x.op with
     | true=>rfl
     | false=>
      exfalso
      exact not_pan hcf s hm h4 h2 hb hvs hvm hvy
    have hos:some [(⟨env,v.m,some y,[]⟩:EM)]=some os:=by
     have:Kl (tN x.op) x.dst (V5 l) cf ls env v=some [⟨env,v.m,some y,[]⟩]:=by
      unfold Kl;rw [hE,hvy];rfl
     rw [← hos,this]
    cases hos
    exact hQ _ (hsub _ (List.mem_singleton.2 rfl)) ι' w' a hst (hst.env s.env) rfl (fun y hy=>by cases hy) rfl (fun z hz=>by cases hz;exact hlt)
  ·simp only [not_or,Decidable.not_not] at hdd
   obtain⟨rfl,hdf⟩:=hdd
   cases hdo:kZ x with
   | none=>exact absurd hdo hdf
   | some p=>
    obtain⟨f,as⟩:=p
    have hr:r=none:=hdr (by simp [dO,hdo])
    have hv:EG (trO f) (iE as) cf ls env m=some outs:=by
     have:V5 [x]=EG (trO f) (iE as):=by
      show xA x=_
      unfold xA;rw [hdo]
     rw [← this];exact hv
    have hrest:rest=[]:=by
     cases rest with
     | nil=>rfl
     | cons j rest=>
      obtain⟨_,_,_,_,_,h⟩:=gZ hl
      cases h
    subst hrest
    exact OM hr s hm h2 h3 h4 hdo hv hQ
where
 not_pan {P:Program} {G:Mem} {ι:Inj} {m:Mem} {w:World} {slots:List Nat} {done:List (Option Nat)} {ls:List j3} {env:T j3} {a:Act} {cf:y8} (hcf:qj P G cf) (s:St P ι (m.nm ι) slots done ls env a.tmps) (hm:RM P G ι m w.heap) {ops:Array Oper} {o:Oper} {x:Inst}
   (h4:gX ops done o.guard x.guard) (h2:x.op=ng P slots done o.op) (hb:tN x.op=false) {vs:List VM} (hvs:evG cf x.guard (ng P slots done o.op) ls env m=some vs) {v:VM} (hvm:v∈vs) {y:j3} (hvy:v.v=.pan y):False:=by
  rw [← h2] at hvs
  have key:evA cf x.op ls env m=some vs→False:=by
   intro hv
   cases hc:cOp P slots done o.op with
   | none=>rw [h2] at hb;simp [ng,hc,tN] at hb
   | some ao=>
    have hxo:x.op=ao:=by rw [h2];simp [ng,hc]
    rw [hxo] at hv hb
    cases ao with
    | p po=>
     obtain⟨u,h5,h6⟩:=r9 hv
     cases h6
     obtain rfl:=List.mem_singleton.1 hvm
     have:=(jI s hc h5).1
     have hvy:u=.pan y:=hvy
     rw [hvy] at this;exact this
    | r ro=>
     obtain⟨u,h5,h6⟩:=r9 hv
     cases h6
     obtain rfl:=List.mem_singleton.1 hvm
     have:=(jJ s hm (lW hc) h5).1
     have hvy:u=.pan y:=hvy
     rw [hvy] at this;exact this
    | a lo=>
     obtain⟨u,h5,h6⟩:=r9 hv
     cases h6
     obtain rfl:=List.mem_singleton.1 hvm
     have hvy1:u.1=.pan y:=hvy
     clear hvm hvs hv hvy
     have hvy:=hvy1
     clear hvy1
     have hn:¬ (m.nm ι) m.next:=fun ⟨_,h3,_⟩=>Nat.lt_irrefl _ (Mem.y9 hm.ok h3)
     have hs:=jL s (fun _ _=>rfl) hn (qd hc) h5 w
     cases hs with
     | none hlt hg=>dsimp only at hvy;subst hvy;exact hlt
     | made l obj w' hmk=>
      have:=(hmk.blk ⟨fun _=>True,fun i=>if i=m.next then l.cap else (ι i).cap⟩ (fun i hi=>⟨trivial,by show (if i=m.next then l.cap else (ι i).cap)=(ι i).cap;rw [if_neg];rintro rfl;exact hn hi⟩) trivial (if_pos rfl)).2
      dsimp only at hvy;subst hvy;exact this
     | tail l hp hbb hg hlt=>
      have:=hlt ⟨fun _=>True,fun i=>if i=m.next then l.cap else (ι i).cap⟩ (fun i hi=>⟨trivial,by show (if i=m.next then l.cap else (ι i).cap)=(ι i).cap;rw [if_neg];rintro rfl;exact hn hi⟩) trivial (if_pos rfl)
      dsimp only at hvy;subst hvy;exact this
    | e eo=>simp [tN] at hb
  cases hg:x.guard with
  | none=>rw [hg] at hvs;exact key hvs
  | some z=>
   obtain⟨q,wt⟩:=z
   rw [hg] at hvs
   have hvs:bi (isB wt (trO q ls env)) (evA cf x.op ls env m) (one .undef m)=some vs:=hvs
   cases hB:isB wt (trO q ls env) with
   | true=>rw [hB] at hvs;exact key hvs
   | false=>
    rw [hB] at hvs;cases hvs
    obtain rfl:=List.mem_singleton.1 hvm
    cases hvy
end
theorem IX (v:j3):∀(n i j:Nat) (t:T j3),i≠j→way n j (M7 n i v t)=way n j t:=by
 intro n
 induction n with
 | zero=>intro i j t h;rfl
 | succ n ih=>
  intro i j t h
  cases t with
  | e=>
   cases i with
   | zero=>rfl
   | succ i=>rcases Nat.mod_two_eq_zero_or_one i with h0 | h0<;>simp only [M7,h0]<;>rfl
  | nd l x r=>
   cases i with
   | zero=>
    cases j with
    | zero=>exact absurd rfl h
    | succ j=>rcases Nat.mod_two_eq_zero_or_one j with h0 | h0<;>simp only [way,M7,h0]<;>rfl
   | succ i=>
    cases j with
    | zero=>rcases Nat.mod_two_eq_zero_or_one i with h0 | h0<;>simp only [way,M7,h0]<;>rfl
    | succ j=>
     rcases Nat.mod_two_eq_zero_or_one i with h0 | h0<;>rcases Nat.mod_two_eq_zero_or_one j with h1 | h1<;>simp only [way,M7,h0,h1]
     ·exact ih (i / 2) (j / 2) l (by omega)
     ·rfl
     ·rfl
     ·exact ih (i / 2) (j / 2) r (by omega)
theorem wC {d:Option Nat}{j:Nat}(h:d≠some j)(v:j3)(ls ls':List j3)(env:T j3):trO (.slot j) ls' (trD d v env)=trO (.slot j) ls env:=by
 cases d with
 | none=>rfl
 | some i=>exact IX v 64 i j env (fun e=>h (by rw [e]))
theorem IY {d:Option Nat}{y:Opd}(h:∀j,y=.slot j→d≠some j)(v:j3)(ls:List j3)(env:T j3):trO (bump y) (v::ls) (trD d v env)=trO y ls env:=by
 cases y with
 | loc k=>rw [zT];show trO (.loc (k+1)) (v::ls) (trD d v env)=_;rw [zT];simp
 | slot j=>exact wC (h j rfl) v ls (v::ls) env
 | con c=>rfl
section
variable {f:Opd→Opd}{ls ls':List j3}{env env':T j3}
theorem yD {o:AOp}(h:∀x∈Et o,Sm f ls env ls' env' x)(cf:y8)(m:Mem):evA cf (mapA f o) ls' env' m=evA cf o ls env m:=by
 cases o with
 | p o=>show ob (trP (mZ f o) ls' env') _=ob (trP o ls env) _;rw [yx h]
 | r o=>show ob (trR (CU f o) ls' env' m) _=ob (trR o ls env m) _;rw [yA h]
 | a o=>show ob (trL (Iu f o) ls' env' m.next) _=ob (trL o ls env m.next) _;rw [yB h]
 | e o=>exact yC h cf m
theorem FJ {o:AOp}{g:Option (Opd×Bool)}(h:∀x∈Et o,Sm f ls env ls' env' x)(hg:∀p,g=some p→Sm f ls env ls' env' p.1)(cf:y8)(m:Mem):
  evG cf (g.map fun p=>(f p.1,p.2)) (mapA f o) ls' env' m=evG cf g o ls env m:=by
 cases g with
 | none=>exact yD h cf m
 | some p=>
  obtain⟨x,wt⟩:=p
  have h0:trO (f x) ls' env'=trO x ls env:=hg _ rfl
  show bi (isB wt (trO (f x) ls' env')) (evA cf (mapA f o) ls' env' m) (one .undef m)=bi (isB wt (trO x ls env)) (evA cf o ls env m) (one .undef m)
  rw [h0,yD h]
end
theorem IZ {α β:Type}{x:Option (List α)}{f g:α→Option (List β)}(h:∀a os,f a=some os→g a=some os){outs:List β}(hx:bnd x f=some outs):bnd x g=some outs:=by
 have key:∀(l:List α) (outs:List β),zN f l=some outs→zN g l=some outs:=by
  intro l
  induction l with
  | nil=>intro outs h;exact h
  | cons a l ih=>
   intro outs hl
   rw [nP] at hl ⊢
   obtain⟨x,h1,hl⟩:=r9 hl
   obtain⟨y,h2,hl⟩:=r9 hl
   rw [h _ _ h1,ih _ h2];exact hl
 cases x with
 | none=>cases hx
 | some l=>
  match l,hx with
  | [],hx=>exact hx
  | [a],hx=>exact h a _ hx
  | a::b::t,hx=>exact key (a::b::t) _ hx
theorem FK (f:Opd→Opd)(o:AOp):tN (mapA f o)=tN o:=by cases o<;>rfl
theorem FL {β:Type}{v:j3}{p:j3→β}{q:β}(h:¬ ∃x,v=.pan x):fM v p q=q:=by
 cases v<;>first | rfl | exact absurd ⟨_,rfl⟩ h
theorem FM {e:Bool}{d:Option Nat}{k k':RC}{cf:y8}{ls ls':List j3}{env:T j3}{r:VM}{os:List EM}(h:∀os,k cf (r.v::ls') (trD d r.v env) r.m=some os→k' cf (r.v::ls) (trD d r.v env) r.m=some os)
  (hk:Kl e d k cf ls' env r=some os):Kl e d k' cf ls env r=some os:=by
 cases e with
 | false=>exact h os hk
 | true=>
  have hk:fM r.v (fun x=>some [⟨env,r.m,some x,[]⟩]) (k cf (r.v::ls') (trD d r.v env) r.m)=some os:=hk
  show fM r.v (fun x=>some [⟨env,r.m,some x,[]⟩]) (k' cf (r.v::ls) (trD d r.v env) r.m)=some os
  by_cases hx:∃x,r.v=.pan x
  ·obtain⟨v,mm⟩:=r
   obtain⟨x,hx⟩:=hx
   have hx:v=.pan x:=hx
   subst hx
   exact hk
  ·rw [FL hx] at hk ⊢
   exact h os hk
theorem FN {f:Opd→Opd}{i:Inst}{g:Option (Opd×Bool)}(h:kZ i=none)(hg:g.isNone=i.guard.isNone):kZ ⟨mapA f i.op,i.dst,g⟩=none:=by
 obtain⟨op,dst,guard⟩:=i
 cases guard with
 | some p=>
  cases g with
  | none=>cases hg
  | some q=>simp [kZ]
 | none=>
  cases g with
  | some q=>cases hg
  | none=>
   cases dst with
   | some d=>simp [kZ]
   | none=>
    cases op with
    | e o=>cases o<;>first | rfl | cases h
    | _=>rfl
def Rl (r:List Opd)(ls ls':List j3)(env:T j3):Prop:=∀k,trO (r.getD k (.con .undef)) ls' env=(ls[k]?).getD .undef
theorem Rl.rn {r:List Opd}{ls ls':List j3}{env:T j3}(h:Rl r ls ls' env)(x:Opd):Sm (rn r) ls env ls' env x:=by
 cases x with
 | loc k=>show trO (r.getD k (.con .undef)) ls' env=trO (.loc k) ls env;rw [h k,zT]
 | slot j=>rfl
 | con c=>rfl
theorem rG {i:Inst}{l:List Inst}(h:dO (i::l)=false):V5 (i::l)=trI i.op i.dst i.guard (V5 l):=by
 refine nR (.inr ?_)
 simp only [dO,Bool.or_eq_false_iff] at h
 cases hd:kZ i with
 | none=>rfl
 | some p=>rw [hd] at h;cases h.1
theorem yE (cf:y8):∀(l:List Inst) (r:List Opd) (ls ls':List j3) (env:T j3) (m:Mem) (outs:List EM),dO l=false→Rl r ls ls' env→(∀j,.slot j∈r→qB j l=false)→
  V5 (iG r l) cf ls' env m=some outs→V5 l cf ls env m=some outs:=by
 intro l
 induction l with
 | nil=>intro r ls ls' env m outs _ _ _ h;exact h
 | cons i l ih=>
  intro r ls ls' env m outs hnd hr hs h
  have hnd':dO l=false:=by simp only [dO,Bool.or_eq_false_iff] at hnd;exact hnd.2
  have hs':∀j,.slot j∈r→i.dst≠some j∧qB j l=false:=fun j hj=>by
   have:=hs j hj
   simpa [qB] using this
  have keep:V5 (⟨mapA (rn r) i.op,i.dst,i.guard.map fun p=>(rn r p.1,p.2)⟩::iG (.loc 0::r.map bump) l) cf ls' env m=some outs→V5 (i::l) cf ls env m=some outs:=by
   intro h
   have hd:kZ i=none:=by
    simp only [dO,Bool.or_eq_false_iff] at hnd
    cases hd:kZ i with
    | none=>rfl
    | some p=>rw [hd] at hnd;cases hnd.1
   rw [nR (.inr (FN hd (by cases i.guard<;>rfl)))] at h
   rw [rG hnd]
   have h:trI (mapA (rn r) i.op) i.dst (i.guard.map fun p=>(rn r p.1,p.2)) (V5 (iG (.loc 0::r.map bump) l)) cf ls' env m=some outs:=h
   rw [Km] at h ⊢
   rw [FJ (fun x _=>hr.rn x) (fun p _=>hr.rn p.1),FK] at h
   refine IZ (fun v os hv=>FM (fun os hv=>?_) hv) h
   refine ih _ _ _ _ _ _ hnd' ?_ ?_ hv
   ·intro k
    cases k with
    | zero=>rfl
    | succ k=>
     have e1:(Opd.loc 0::r.map bump).getD (k+1) (.con .undef)=bump (r.getD k (.con .undef)):=by
      rw [List.getD_eq_getElem?_getD,List.getD_eq_getElem?_getD,List.getElem?_cons_succ,List.getElem?_map]
      cases r[k]? <;> rfl
     rw [e1,IY,hr k]
     ·simp
     ·intro j hj
      have:Opd.slot j∈r:=by
       rw [List.getD_eq_getElem?_getD] at hj
       cases hk:r[k]? with
       | none=>rw [hk] at hj;cases hj
       | some y=>rw [hk] at hj;obtain rfl:y=.slot j:=hj;exact List.mem_of_getElem? hk
      exact (hs' j this).1
   ·intro j hj
    rcases List.mem_cons.1 hj with hj | hj
    ·cases hj
    ·obtain⟨y,hy,hyj⟩:=List.mem_map.1 hj
     cases y with
     | slot j'=>obtain rfl:j'=j:=by simpa [bump] using hyj
                exact (hs' _ hy).2
     | loc k=>simp [bump] at hyj
     | con c=>simp [bump] at hyj
  have drop:∀x,i.op=.p (.mov x)→i.dst=none→i.guard=none→(∀j,rn r x=.slot j→qB j l=false)→V5 (iG (rn r x::r) l) cf ls' env m=some outs→V5 (i::l) cf ls env m=some outs:=by
   intro x h1 h2 h3 h4 h
   rw [rG hnd,h1,h2,h3]
   show V5 l cf (trO x ls env::ls) env m=some outs
   refine ih _ _ _ _ _ _ hnd' ?_ ?_ h
   ·intro k
    cases k with
    | zero=>exact hr.rn x
    | succ k=>simpa using hr k
   ·intro j hj
    rcases List.mem_cons.1 hj with hj | hj
    ·exact h4 j hj.symm
    ·exact (hs' j hj).2
  simp only [iG] at h
  split at h
  ·rename_i x h1 h2 h3
   split at h
   ·rename_i j hj
    cases hw:qB j l with
    | true=>rw [hw] at h;exact keep h
    | false=>
     rw [hw] at h
     refine drop x h1 h2 h3 (fun j' hj'=>?_) (by rw [hj];exact h)
     rw [hj] at hj';cases hj';exact hw
   ·rename_i hns
    exact drop x h1 h2 h3 (fun j hj=>absurd hj (hns j)) h
  ·exact keep h
section
variable {P:Program}{G:Mem}{ι:Inj}{n:Nm}{m:Mem}{w:World}{slots:List Nat}{done:List (Option Nat)}{ls:List j3}{env:T j3}{a:Act}
def Ko:X9→Exit
 | .normal=>.normal
 | .exit id=>.exit id
 | .ret=>.ret
def Ja (ι:Inj)(o:Out):Exit:=match o.pv with
 | none=>Ko o.x
 | some x=>.panic [{v:=l6 ι x,recovered:=false}]
def NC (ι:Inj)(o:Out):Prop:=∀x,o.pv=some x→o.x=.ret∧x.lt (o.m.nm ι)
theorem O0 {ι:Inj}{o:Out}(h:o.pv=none):NC ι o:=fun x hx=>by rw [h] at hx;cases hx
theorem fF {ι:Inj}{o:Out}(h:NC ι o)(hx:o.x≠.ret):o.pv=none:=by
 cases hp:o.pv with
 | none=>rfl
 | some x=>exact absurd (h x hp).1 hx
def ND (ι:Inj)(m:Mem)(ir r:Option Nat):Prop:=r=ir.map (fun l=>(ι l).b)∧∀l,ir=some l→m.has l
theorem ND.step {ι':Inj}{m':Mem}{w':World}{ir r:Option Nat}{G:Mem}(h:ND ι m ir r)(hst:Step P G ι m w ι' m' w'):ND ι' m' ir r:=by
 refine⟨?_,fun l hl=>hst.has l (h.2 l hl)⟩
 rw [h.1]
 cases ir with
 | none=>rfl
 | some l=>simp [hst.ext l (h.2 l rfl)]
theorem St.start (hm:RM P G ι m w.heap){tmps:Array Value}(h:M8 ι (m.nm ι) slots env tmps):St P ι (m.nm ι) slots [] [] env tmps:=
 ⟨fun t k hk=>by simp [dQ] at hk,h,hm.glob,hm.ghas⟩
theorem mo {β:Type}{b:Option Blk}{f:LoopState→Option X9→T j3→List (Option Nat)→M6→M6→Option β}{r:β}(h:lq b f=some r):
  ∃st pend env params assign body,b=some (.loop st pend env params assign body)∧f st pend env params assign body=some r:=by
 unfold lq at h
 split at h
 ·exact⟨_,_,_,_,_,_,rfl,h⟩
 ·cases h
theorem Ap {cf:y8}(hcf:qj P G cf)(hm:RM P G ι m w.heap){g:Operand}{l:Nat}{fv:j3}(hg:a.eval g=l6 ι fv)(hlt:fv.lt (m.nm ι))(hl:m.has l){outs:List VM}
  (h:KU cf m [.func (.yield l) [] []] fv=some outs):
  ∃d f args,(resolve a.eval (rangeCall g (ι l).b) 0).run P w=.ok d w∧(invoke d.target d.args).run P w=.ok (.enter f args) w∧CallsIn Fence.wide 0 P f args w (F9 P G ι m w outs):=by
 obtain⟨fn,x,y,rfl,h⟩:=zU h
 obtain⟨_,hx,hy⟩:=hlt
 cases fn with
 | func gf=>
  have h:cf (.func gf) (dz x (dz [.func (.yield l) [] []] y)) m=some outs:=h
  rw [L9,L9] at h
  obtain⟨hf,hcall⟩:=hcf.func h
  refine⟨{target:=.fn (.func gf) (l8 ι y).toArray,args:=(l8 ι x).toArray ++ #[.func (.yield (ι l).b) #[] #[]]},gf,_,?_,?_,hcall hm (bA hx ⟨⟨hl,trivial,trivial⟩,hy⟩)⟩
  ·show (Deferred.ofValue (a.eval g) (#[Operand.const (.func (.yield (ι l).b) #[] #[])].map a.eval)).run P w=_
   rw [hg]
   simp [l6,dS,Deferred.ofValue,Act.eval]
  ·simp [invoke,fA hf,bW,l8,l6,dS]
 | _=>cases h
theorem wD {F:Fence}{nn:Nat}{Q:Exit→Act→World→Prop}{x:X9}(h:Q (Ko x) a w):(exitCode x).wpIn F nn P Q a w:=by
 cases x with
 | normal=>exact wpIn_skip h
 | exit id=>exact wpIn_exit h
 | ret=>exact wpIn_ret h
theorem BO {r:Option Nat}{cf:y8}(hcf:qj P G cf){nt:Nat}{g:Operand}{ps:Array Tmp}{assign body:Code}{z:Opd}{x y:M6}(hz:J7 P slots [] g=some z)(hx:I8 P slots assign=some x)(hy:I8 P slots body=some y)
  (ha:tmpsIn nt assign=true) (hb:tmpsIn nt body=true) {w1:World} {m1:Mem} {ι1:Inj} {k:List Mk} {mark:List Deferred} {D:Nat} (hm:RM P G ι m w.heap) (hst1:Step P G ι m w ι1 m1 w1)
  (hen:M8 ι (m.nm ι) slots env a.tmps) (hnt:nt≤a.tmps.size)
  (henter:∀fn,(Instr.enterLoop fn a.tmps ps assign body r).run P w=.ok (w1.heap.size,mark) (w1.alloc (.loop {state:=.ready,pending:=none,fn,tmps:=a.tmps,params:=ps,assign,body,defers:=D})))
  (hmarks:aO ι1 m1 k (mark++a.defers)) {outs:List Out} (hv:KV cf (trO z [] env) (ps.toList.map fun t=>idxOf t slots 0) x y env m1 k=some outs) {Q:Exit→Act→World→Prop}
  (hQ:∀o∈outs,∀ι' w' a',Step P G ι m w ι' o.m w'→M8 ι' (o.m.nm ι') slots o.env a'.tmps→a'.tmps.size=a.tmps.size→aO ι' o.m o.marks a'.defers→NC ι' o→Q (Ja ι' o) a' w'):
  (Code.rangeFunc g ps assign body).wpIn (FR r) 0 P Q a w:=by
 refine wpIn_rangeFunc fun fn _=>?_
 obtain⟨e1,e2⟩:=l9 (St.start hm hen) hz
 have hlaid:=Laid.new hst1.rm.ok hst1.rm.limn (.loop .ready none env (ps.toList.map fun t=>idxOf t slots 0) x y) rfl
 generalize hrec:({state:=.ready,pending:=none,fn,tmps:=a.tmps,params:=ps,assign,body,defers:=D}:Loop)=rec at *
 have hext:∀j,m1.has j→(ι1.upd m1.next ⟨w1.heap.size,0,0,none⟩) j=ι1 j:=fun j hj=>ι1.upd_ne _ fun h=>hlaid.free (h▸hj)
 have hst2:Step P G ι1 m1 w1 (ι1.upd m1.next ⟨w1.heap.size,0,0,none⟩) (m1.new (.loop .ready none env (ps.toList.map fun t=>idxOf t slots 0) x y)) (w1.alloc (.loop rec)):=by
  refine Step.lay (w':=w1.alloc (.loop rec)) hst1.rm hlaid (o:=.loop rec) (l:=⟨w1.heap.size,0,0,none⟩) ⟨rfl,rfl,rfl,rfl⟩ rfl rfl ?_ (by intro _ _ _ h;cases h)
  refine⟨rec,Q7,by rw [← hrec],by rw [← hrec];rfl,slots,?_,by rw [← hrec],by rw [← hrec];exact hx,by rw [← hrec];exact hy,nt,by rw [← hrec];exact hnt,by rw [← hrec];exact ha,by rw [← hrec];exact hb⟩
  have:=(hst1.env hen).mono (n:=m1.nm ι1) hext (Mem.O6 hlaid.has hext)
  rw [← hrec];exact this
 have hst:=hst1.trans hst2
 have hlid:((ι1.upd m1.next ⟨w1.heap.size,0,0,none⟩) m1.next).b=w1.heap.size:=by rw [Inj.G6]
 generalize hι2:ι1.upd m1.next ⟨w1.heap.size,0,0,none⟩=ι2 at *
 generalize hm2:m1.new (.loop .ready none env (ps.toList.map fun t=>idxOf t slots 0) x y)=m2 at *
 have hhas:m2.has m1.next:=hlaid.self
 have hv:bnd (KU cf m2 [.func (.yield m1.next) [] []] (trO z [] env)) (fun r=>fM r.v (fun _=>none) <| lq (r.m.get m1.next) fun st pend _ _ _ _=>match st with
   | .busy=>none
   | _=>match pend with
    | none=>qC .normal env (r.m.set m1.next .dead) k
    | some x=>qC x env (r.m.set m1.next .dead) k)=some outs:=by rw [← hm2];exact hv
 obtain⟨vs,hvs,hk⟩:=L8 hv
 obtain⟨d,f,args,hres,hinv,hcall⟩:=Ap (a:=a) hcf hst.rm (by rw [e1];exact (hst.l6 e2).symm) (j3.F4 (Mem.O6 hst.has hst.ext) _ e2) hhas hvs
 rw [hlid] at hres
 refine⟨w1.heap.size,mark,w1.alloc (.loop rec),d,w1.alloc (.loop rec),f,args,w1.alloc (.loop rec),(by rw [← hrec];exact henter fn),hres,fun _ _=>trivial,hinv,(fun hc=>by cases hc),CallsIn.mono (F:=FR r) hcall ?_⟩
 rintro e w3 (⟨v,rfl,r0,hr0,ι3,hst3,hlt3,_⟩ | ⟨r0,hr0,x0,ι3,hx0,_⟩)
 case inr=>
  obtain⟨os,hos,_⟩:=hk r0 hr0
  rw [hx0] at hos
  cases hos
 obtain⟨os,hos,hsub⟩:=hk r0 hr0
 rw [FE hlt3] at hos
 obtain⟨st,pend,env',params',as',bd',hget,hos⟩:=mo hos
 obtain⟨L,hL,hLok⟩:=hst3.rm.blk m1.next _ hget
 have hι3:(ι3 m1.next).b=w1.heap.size:=by rw [hst3.ext _ hhas];exact hlid
 rw [hι3] at hL
 have hlim:r0.m.lim≤m1.next:=by rw [hst3.lim,hst2.lim];exact hst1.rm.limn
 have hbusy:L.state≠.busy:=by rw [hLok.state];intro e;subst e;cases hos
 have hend:=run_endLoop (P:=P) hL hbusy
 have hst4:Step P G ι3 r0.m w3 ι3 (r0.m.set m1.next .dead) (w3.putObj w1.heap.size (.loop {L with state:=.exhausted})):=by
  refine Step.set hst3.rm hlim hget rfl rfl (o:=.loop {L with state:=.exhausted}) ⟨by rw [hι3];rfl,rfl,rfl,rfl⟩ trivial (by intro _ _ _ h;cases h)
 have hall:=(hst.trans hst3).trans hst4
 have hmk:aO ι3 (r0.m.set m1.next .dead) k (mark++a.defers):=hmarks.step ((hst2.trans hst3).trans hst4)
 have henv:M8 ι3 ((r0.m.set m1.next .dead).nm ι3) slots env a.tmps:=hall.env hen
 refine⟨L.pending,_,hend,?_⟩
 have key:∀j:Option Code,j=pend.map exitCode→(match j with
   | none=>Q .normal {a with defers:=mark++a.defers} (w3.putObj w1.heap.size (.loop {L with state:=.exhausted}))
   | some c=>c.wpIn (FR r) 0 P Q {a with defers:=mark++a.defers} (w3.putObj w1.heap.size (.loop {L with state:=.exhausted}))):=by
  rintro j rfl
  cases pend with
  | none=>
   have hos:qC .normal env (r0.m.set m1.next .dead) k=some os:=by cases st<;>first | exact hos | cases hos
   cases hos
   exact hQ _ (hsub _ (List.mem_singleton.2 rfl)) ι3 _ {a with defers:=mark++a.defers} hall henv rfl hmk (O0 rfl)
  | some x'=>
   have hos:qC x' env (r0.m.set m1.next .dead) k=some os:=by cases st<;>first | exact hos | cases hos
   cases hos
   exact wD (hQ _ (hsub _ (List.mem_singleton.2 rfl)) ι3 _ {a with defers:=mark++a.defers} hall henv rfl hmk (O0 rfl))
 exact key _ hLok.pending
end
section
variable {P:Program}{G:Mem}
def yF (P:Program)(G:Mem)(slots:List Nat)(nt:Nat)(cf:y8)(fuel:Nat)(r:Option Nat)(c:Code)(ac:M6):Prop:=
 ∀(Q:Exit→Act→World→Prop) (ir:Option Nat) (env:T j3) (m:Mem) (k:List Mk) (ι:Inj) (w:World) (a:Act) (outs:List Out),
  RM P G ι m w.heap→M8 ι (m.nm ι) slots env a.tmps→nt≤a.tmps.size→aO ι m k a.defers→ND ι m ir r→trC ac cf fuel ir env m k=some outs→
  (∀o∈outs,∀ι' w' a',Step P G ι m w ι' o.m w'→M8 ι' (o.m.nm ι') slots o.env a'.tmps→a'.tmps.size=a.tmps.size→aO ι' o.m o.marks a'.defers→NC ι' o→Q (Ja ι' o) a' w')→
  c.wpIn (FR r) 0 P Q a w
def eF (P:Program)(G:Mem)(slots:List Nat)(nt:Nat)(cf:y8)(r:Option Nat):Prop:=
 ∀(id:Nat) (ops:Array Oper) (ac:M6) (fuel:Nat),I8 P slots (.region id ops true)=some ac→tmpsIn nt (.region id ops true)=true→yF P G slots nt cf fuel r (.region id ops true) ac
theorem Dr {slots:List Nat}{id:Nat}{ops:Array Oper}{ac:M6}(h:I8 P slots (.region id ops true)=some ac):(∃n l,ac=.dreg n l)∨∃n l t,ac=.dreg2 n l t:=by
 simp only [I8] at h
 split at h
 ·unfold xH at h
  split at h
  ·split at h
   ·unfold vI at h
    split at h
    ·split at h
     ·cases h;exact .inr ⟨_,_,_,rfl⟩
     ·cases h
    ·cases h
   ·cases h
  ·cases h
 ·unfold vH at h
  split at h
  ·cases h
  ·split at h
   ·cases h;exact .inl ⟨_,_,rfl⟩
   ·cases h
theorem aQ {nt id:Nat}{ops:Array Oper}{d:Bool}(h:tmpsIn nt (.region id ops d)=true)(i:Nat)(o:Oper)(t:Tmp)(ho:ops[i]?=some o)(ht:o.dst=some t):t<nt:=by
 simp only [tmpsIn,List.all_eq_true] at h
 have:=h o (by simpa using Array.mem_of_getElem? ho)
 rw [ht] at this
 exact Eq.mp Nat.blt_eq this
theorem jO {β:Type}{x:X9}{p:Option β}{q:Nat→Option β}{s:Option β}{r:β}(h:(X9.rec p q s x:Option β)=some r):
  (x=.normal∧p=some r)∨(∃id,x=.exit id∧q id=some r)∨(x=.ret∧s=some r):=by
 cases x with
 | normal=>exact .inl ⟨rfl,h⟩
 | exit id=>exact .inr (.inl ⟨id,rfl,h⟩)
 | ret=>exact .inr (.inr ⟨rfl,h⟩)
theorem jP {slots:List Nat}{nt:Nat}{cf:y8}(hcf:qj P G cf)(fuel:Nat){r:Option Nat}(hdraw:eF P G slots nt cf r):
  ∀(c:Code) (ac:M6),I8 P slots c=some ac→tmpsIn nt c=true→yF P G slots nt cf fuel r c ac:=by
 intro c
 induction c with
 | skip=>
  intro ac hc _ Q ir env m k ι w a outs hm hen hnt hmk hir hv hQ
  simp only [I8,Option.some.injEq] at hc;subst hc
  have hv:qC .normal env m k=some outs:=hv
  cases hv
  exact wpIn_skip (hQ _ (List.mem_singleton.2 rfl) ι w a (Step.refl hm) hen rfl hmk (O0 rfl))
 | exit id=>
  intro ac hc _ Q ir env m k ι w a outs hm hen hnt hmk hir hv hQ
  simp only [I8,Option.some.injEq] at hc;subst hc
  have hv:qC (.exit id) env m k=some outs:=hv
  cases hv
  exact wpIn_exit (hQ _ (List.mem_singleton.2 rfl) ι w a (Step.refl hm) hen rfl hmk (O0 rfl))
 | ret=>
  intro ac hc _ Q ir env m k ι w a outs hm hen hnt hmk hir hv hQ
  simp only [I8,Option.some.injEq] at hc;subst hc
  have hv:qC .ret env m k=some outs:=hv
  cases hv
  exact wpIn_ret (hQ _ (List.mem_singleton.2 rfl) ι w a (Step.refl hm) hen rfl hmk (O0 rfl))
 | region id ops d=>
  intro ac hc hti Q ir env m k ι w a outs hm hen hnt hmk hir hv hQ
  cases d with
  | false=>
   simp only [I8] at hc
   split at hc
   ·rename_i l hl
    cases hc
    have hbind:∃es,V5 l cf [] env m=some es∧(dO l=true→r=none)∧∀e∈es,∃os,bQ k e=some os∧∀o∈os,o∈outs:=by
     cases hd:dO l with
     | true=>
      have hv:(bif dO l then BA (V5 l) else j4 (V5 (iG [] l))) cf fuel ir env m k=some outs:=hv
      rw [hd,cond_true] at hv
      cases ir with
      | some l'=>cases hv
      | none=>
       have hv:bnd (V5 l cf [] env m) (bQ k)=some outs:=hv
       obtain⟨es,hes,hk⟩:=L8 hv
       exact⟨es,hes,fun _=>hir.1,hk⟩
     | false=>
      have hv:(bif dO l then BA (V5 l) else j4 (V5 (iG [] l))) cf fuel ir env m k=some outs:=hv
      rw [hd,cond_false] at hv
      have hv:bnd (V5 (iG [] l) cf [] env m) (bQ k)=some outs:=hv
      obtain⟨es,hes,hk⟩:=L8 hv
      exact⟨es,yE cf l [] [] [] env m es hd (fun k=>by simp [trO,x9]) (fun j hj=>by cases hj) hes,fun h=>(by cases h),hk⟩
    obtain⟨es,hes,hdr,hk⟩:=hbind
    refine wpIn_region (FI hcf (aQ hti) _ _ _ hl hdr [] env m ι w a es hm hnt (St.start hm hen) hes ?_)
    intro e he ι' w' a' hst hen' hdef hmkok hsz hpx
    obtain⟨os,hos,hsub⟩:=hk e he
    obtain⟨env₁,m₁,px₁,mk₁⟩:=e
    have hmk':aO ι' m₁ (mk₁++k) a'.defers:=by
     refine⟨by rw [hdef,(hmk.step hst).1,List.map_append],fun x hx=>?_⟩
     rcases List.mem_append.1 hx with hx | hx
     ·exact hmkok x hx
     ·exact (hmk.step hst).2 x hx
    cases px₁ with
    | none=>
     have hos:qC .normal env₁ m₁ (dz mk₁ k)=some os:=hos
     rw [L9] at hos
     cases hos
     exact hQ _ (hsub _ (List.mem_singleton.2 rfl)) ι' w' a' hst hen' hsz hmk' (O0 rfl)
    | some x=>
     have hos:some [(⟨.ret,env₁,m₁,dz mk₁ k,some x⟩:Out)]=some os:=hos
     rw [L9] at hos
     cases hos
     exact hQ _ (hsub _ (List.mem_singleton.2 rfl)) ι' w' a' hst hen' hsz hmk' (fun y hy=>by cases hy;exact⟨rfl,hpx _ rfl⟩)
   ·cases hc
  | true=>exact hdraw id ops ac fuel hc hti Q ir env m k ι w a outs hm hen hnt hmk hir hv hQ
 | seq x y ihx ihy=>
  intro ac hc hti Q ir env m k ι w a outs hm hen hnt hmk hir hv hQ
  simp only [tmpsIn,Bool.and_eq_true] at hti
  simp only [I8] at hc
  split at hc
  ·rename_i cx cy hx hy
   cases hc
   have hv:bnd (trC cx cf fuel ir env m k) (fun o=>X9.rec (trC cy cf fuel ir o.env o.m o.marks) (fun _=>some [o]) (some [o]) o.x)=some outs:=hv
   obtain⟨os,hos,hk⟩:=L8 hv
   refine wpIn_seq (ihx cx hx hti.1 _ ir env m k ι w a os hm hen hnt hmk hir hos ?_)
   intro o ho ι' w' a' hst hen' hsz hmk' hpv
   obtain⟨os',hos',hsub⟩:=hk o ho
   obtain⟨x₀,env₀,m₀,k₀,pv₀⟩:=o
   rcases jO hos' with⟨h1,h2⟩ | ⟨id,h1,h2⟩ | ⟨h1,h2⟩
   ·obtain rfl:x₀=.normal:=h1
    obtain rfl:pv₀=none:=fF hpv (by intro e;cases e)
    refine ihy cy hy hti.2 Q ir env₀ m₀ k₀ ι' w' a' os' hst.rm hen' (by rw [hsz];exact hnt) hmk' (hir.step hst) h2 ?_
    intro o2 ho2 ι'' w'' a'' hst' hen'' hsz' hmk'' hpv'
    exact hQ o2 (hsub _ ho2) ι'' w'' a'' (hst.trans hst') hen'' (hsz'.trans hsz) hmk'' hpv'
   ·obtain rfl:x₀=.exit id:=h1
    obtain rfl:pv₀=none:=fF hpv (by intro e;cases e)
    cases h2
    exact hQ _ (hsub _ (List.mem_singleton.2 rfl)) ι' w' a' hst hen' hsz hmk' (O0 rfl)
   ·obtain rfl:x₀=.ret:=h1
    cases h2
    have:=hQ _ (hsub _ (List.mem_singleton.2 rfl)) ι' w' a' hst hen' hsz hmk' hpv
    cases pv₀<;>exact this
  ·cases hc
 | cond c x y ihx ihy=>
  intro ac hc hti Q ir env m k ι w a outs hm hen hnt hmk hir hv hQ
  simp only [tmpsIn,Bool.and_eq_true] at hti
  simp only [I8] at hc
  split at hc
  ·rename_i z cx cy hz hx hy
   cases hc
   obtain⟨t,h1,hv⟩:=jF hv
   obtain⟨e1,_⟩:=l9 (St.start hm hen) hz
   have h1:trO z [] env=.bool t:=h1
   refine wpIn_cond (t:=t) (by rw [e1,h1];rfl) ?_
   cases t with
   | true=>exact ihx cx hx hti.1 Q ir env m k ι w a outs hm hen hnt hmk hir hv hQ
   | false=>exact ihy cy hy hti.2 Q ir env m k ι w a outs hm hen hnt hmk hir hv hQ
  ·cases hc
 | block id x ihx=>
  intro ac hc hti Q ir env m k ι w a outs hm hen hnt hmk hir hv hQ
  simp only [tmpsIn] at hti
  simp only [I8] at hc
  split at hc
  ·rename_i cx hx
   cases hc
   have hv:bnd (trC cx cf fuel ir env m k) (fun o=>X9.rec (some [o]) (fun id'=>bi (Nat.beq id id') (qC .normal o.env o.m o.marks) (some [o])) (some [o]) o.x)=some outs:=hv
   obtain⟨os,hos,hk⟩:=L8 hv
   refine wpIn_block (ihx cx hx hti _ ir env m k ι w a os hm hen hnt hmk hir hos ?_)
   intro o ho ι' w' a' hst hen' hsz hmk' hpv
   obtain⟨os',hos',hsub⟩:=hk o ho
   obtain⟨x₀,env₀,m₀,k₀,pv₀⟩:=o
   rcases jO hos' with⟨h1,h2⟩ | ⟨id',h1,h2⟩ | ⟨h1,h2⟩
   ·obtain rfl:x₀=.normal:=h1
    obtain rfl:pv₀=none:=fF hpv (by intro e;cases e)
    cases h2
    exact hQ _ (hsub _ (List.mem_singleton.2 rfl)) ι' w' a' hst hen' hsz hmk' (O0 rfl)
   ·obtain rfl:x₀=.exit id':=h1
    obtain rfl:pv₀=none:=fF hpv (by intro e;cases e)
    show Exit.inBlock id Q (.exit id') a' w'
    simp only [Exit.inBlock]
    rw [oL] at h2
    split at h2
    ·rename_i he
     subst he
     cases h2
     rw [if_pos rfl]
     exact hQ _ (hsub _ (List.mem_singleton.2 rfl)) ι' w' a' hst hen' hsz hmk' (O0 rfl)
    ·rename_i he
     cases h2
     rw [if_neg (fun e=>he e.symm)]
     exact hQ _ (hsub _ (List.mem_singleton.2 rfl)) ι' w' a' hst hen' hsz hmk' (O0 rfl)
   ·obtain rfl:x₀=.ret:=h1
    cases h2
    have:=hQ _ (hsub _ (List.mem_singleton.2 rfl)) ι' w' a' hst hen' hsz hmk' hpv
    cases pv₀<;>exact this
  ·cases hc
 | loop x ihx=>
  intro ac hc hti Q ir env m k ι w a outs hm hen hnt hmk hir hv hQ
  simp only [tmpsIn] at hti
  simp only [I8] at hc
  split at hc
  ·rename_i cx hx
   cases hc
   have hv:aD (fun env m k=>trC cx cf fuel ir env m k) fuel env m k=some outs:=hv
   have key:∀(j:Nat) (env:T j3) (m:Mem) (k:List Mk) (ι:Inj) (w:World) (a:Act) (outs:List Out),RM P G ι m w.heap→M8 ι (m.nm ι) slots env a.tmps→nt≤a.tmps.size→aO ι m k a.defers→ND ι m ir r→
     aD (fun env m k=>trC cx cf fuel ir env m k) j env m k=some outs→
     (∀o∈outs,∀ι' w' a',Step P G ι m w ι' o.m w'→M8 ι' (o.m.nm ι') slots o.env a'.tmps→a'.tmps.size=a.tmps.size→aO ι' o.m o.marks a'.defers→NC ι' o→Q (Ja ι' o) a' w')→
     Code.roundsIn (FR r) 0 P x Q j a w:=by
    intro j
    induction j with
    | zero=>intro env m k ι w a outs _ _ _ _ _ hv;cases hv
    | succ j ih=>
     intro env m k ι w a outs hm hen hnt hmk hir hv hQ
     have hv:bnd (trC cx cf fuel ir env m k) (fun o=>X9.rec (aD (fun env m k=>trC cx cf fuel ir env m k) j o.env o.m o.marks) (fun _=>some [o]) (some [o]) o.x)=some outs:=hv
     obtain⟨os,hos,hk⟩:=L8 hv
     rw [roundsIn_succ]
     refine ihx cx hx hti _ ir env m k ι w a os hm hen hnt hmk hir hos ?_
     intro o ho ι' w' a' hst hen' hsz hmk' hpv
     obtain⟨os',hos',hsub⟩:=hk o ho
     obtain⟨x₀,env₀,m₀,k₀,pv₀⟩:=o
     rcases jO hos' with⟨h1,h2⟩ | ⟨id',h1,h2⟩ | ⟨h1,h2⟩
     ·obtain rfl:x₀=.normal:=h1
      obtain rfl:pv₀=none:=fF hpv (by intro e;cases e)
      refine ih env₀ m₀ k₀ ι' w' a' os' hst.rm hen' (by rw [hsz];exact hnt) hmk' (hir.step hst) h2 ?_
      intro o2 ho2 ι'' w'' a'' hst' hen'' hsz' hmk'' hpv'
      exact hQ o2 (hsub _ ho2) ι'' w'' a'' (hst.trans hst') hen'' (hsz'.trans hsz) hmk'' hpv'
     ·obtain rfl:x₀=.exit id':=h1
      obtain rfl:pv₀=none:=fF hpv (by intro e;cases e)
      cases h2
      exact hQ _ (hsub _ (List.mem_singleton.2 rfl)) ι' w' a' hst hen' hsz hmk' (O0 rfl)
     ·obtain rfl:x₀=.ret:=h1
      cases h2
      have:=hQ _ (hsub _ (List.mem_singleton.2 rfl)) ι' w' a' hst hen' hsz hmk' hpv
      cases pv₀<;>exact this
   exact wpIn_loop_rounds fuel (key fuel env m k ι w a outs hm hen hnt hmk hir hv hQ)
  ·cases hc
 | rangeFunc g ps x y ihx ihy=>
  intro ac hc hti Q ir env m k ι w a outs hm hen hnt hmk hir hv hQ
  simp only [tmpsIn,Bool.and_eq_true] at hti
  simp only [I8] at hc
  split at hc
  ·rename_i z cx cy hz hx hy
   cases hc
   cases ir with
   | none=>
    obtain rfl:r=none:=hir.1
    have hv:KV cf (trO z [] env) (ps.toList.map fun t=>idxOf t slots 0) cx cy env (m.new .deferred) (.c m.next::k)=some outs:=hv
    have hlaid:=Laid.new hm.ok hm.limn .deferred rfl
    have hst1:Step P G ι m w (ι.upd m.next ⟨w.heap.size,0,0,none⟩) (m.new .deferred) (w.alloc (.deferred (some []))):=
     Step.lay (w':=w.alloc (.deferred (some []))) (l:=⟨w.heap.size,0,0,none⟩) hm hlaid (o:=.deferred (some [])) ⟨rfl,rfl,rfl,rfl⟩ rfl rfl (by show (w.heap.push _)[w.heap.size]?=_;exact Q7) (by intro _ _ _ h;cases h)
    have hsz1:(w.alloc (.deferred (some []))).heap.size=w.heap.size+1:=by show (w.heap.push _).size=_;simp
    refine BO hcf hz hx hy hti.1 hti.2 (mark:=[{target:=.collected w.heap.size,args:=#[]}]) (D:=w.heap.size) hm hst1 hen hnt (fun fn=>?_) ⟨?_,?_⟩ hv hQ
    ·rw [run_enterLoop_outer,hsz1]
    ·rw [(hmk.step hst1).1]
     simp [pY]
    ·intro x hx
     rcases List.mem_cons.1 hx with rfl | hx
     ·exact⟨hlaid.self,hm.limn⟩
     ·exact (hmk.step hst1).2 x hx
   | some l=>
    obtain rfl:r=some (ι l).b:=hir.1
    have hv:lq (m.get l) (fun _ _ _ _ _ _=>KV cf (trO z [] env) (ps.toList.map fun t=>idxOf t slots 0) cx cy env m k)=some outs:=hv
    obtain⟨st,pend,env',params',as',bd',hget,hv⟩:=mo hv
    obtain⟨L,hL,_⟩:=hm.blk l _ hget
    refine BO hcf hz hx hy hti.1 hti.2 (mark:=[]) (D:=L.defers) hm (Step.refl hm) hen hnt (fun fn=>?_) (by simpa using hmk) hv hQ
    exact run_enterLoop_inner hL fn a.tmps ps x y
  ·cases hc
 | scope x ihx=>intro ac hc;simp only [I8] at hc;cases hc
 | label l=>intro ac hc;simp only [I8] at hc;cases hc
 | goto l=>intro ac hc;simp only [I8] at hc;cases hc
 | refuse s=>
  intro ac hc _ Q ir env m k ι w a outs hm hen hnt hmk hir hv hQ
  simp only [I8,Option.some.injEq] at hc;subst hc
  have hv:(none:Option (List Out))=some outs:=hv
  cases hv
end
section
variable {P:Program}{G:Mem}{ι:Inj}{n:Nm}{m:Mem}{w:World}{slots:List Nat}
theorem wE (vs:List j3)(env:T j3):Q0 [] vs env=match vs with | []=>some env | _ :: _=>none:=by cases vs<;>rfl
theorem tO (j:Option Nat)(js:List (Option Nat))(vs:List j3)(env:T j3):
  Q0 (j::js) vs env=match vs with | []=>none | v::vs=>Q0 js vs (trD j v env):=by cases vs<;>rfl
theorem jk:∀(ps:List Nat) (vs:List j3) (env env1:T j3) (tmps:Array Value),M8 ι n slots env tmps→ltL n vs→Q0 (ps.map fun t=>idxOf t slots 0) vs env=some env1→
  vs.length=ps.length∧M8 ι n slots env1 ((ps.zip (l8 ι vs)).foldl (fun t (p,v)=>t.setIfInBounds p v) tmps)∧((ps.zip (l8 ι vs)).foldl (fun t (p,v)=>t.setIfInBounds p v) tmps).size=tmps.size:=by
 intro ps
 induction ps with
 | nil=>
  intro vs env env1 tmps h hv hs
  rw [List.map_nil,wE] at hs
  cases vs with
  | nil=>cases hs;exact⟨rfl,h,rfl⟩
  | cons v vs=>cases hs
 | cons p ps ih=>
  intro vs env env1 tmps h hv hs
  rw [List.map_cons,tO] at hs
  cases vs with
  | nil=>cases hs
  | cons v vs=>
   have h1:=h.put (some p) hv.1
   obtain⟨g1,g2,g3⟩:=ih vs _ env1 _ h1 hv.2 hs
   exact⟨by simp [g1],g2,by rw [show ((p::ps).zip (l8 ι (v::vs))).foldl (fun t (p,v)=>t.setIfInBounds p v) tmps=(ps.zip (l8 ι vs)).foldl (fun t (p,v)=>t.setIfInBounds p v) (tmps.setIfInBounds p (l6 ι v)) from rfl,g3];simp⟩
theorem FP (ps:Array Nat)(vs:List Value)(tmps:Array Value):
  (ps.zip vs.toArray).foldl (fun t (p,v)=>t.setIfInBounds p v) tmps=(ps.toList.zip vs).foldl (fun t (p,v)=>t.setIfInBounds p v) tmps:=by
 rw [← Array.foldl_toList,Array.toList_zip]
theorem Dt {ι':Inj}{n':Nm}{L:Loop}{st st':LoopState}{pend pend':Option X9}{env:T j3}{params:List (Option Nat)}{as bd:M6}(h:qI P ι n L st pend env params as bd)(hi:∀i,n i→ι' i=ι i)(hn:n.le n'):
  qI P ι' n' {L with state:=st',pending:=pend'.map exitCode} st' pend' env params as bd:=by
 obtain⟨_,_,h3⟩:=h.mono hi hn
 exact⟨rfl,rfl,h3⟩
theorem step_loop {ι:Inj}{m:Mem}{w:World}(hm:RM P G ι m w.heap){l:Nat}(hl:m.lim≤l){st:LoopState}{pend:Option X9}{env:T j3}{params:List (Option Nat)}{as bd:M6}
  (hg:m.get l=some (.loop st pend env params as bd)) {L:Loop} (hL:w.heap[(ι l).b]?=some (.loop L)) (hok:qI P ι (m.nm ι) L st pend env params as bd) (st':LoopState) (pend':Option X9):
  Step P G ι m w ι (m.set l (.loop st' pend' env params as bd)) (w.putObj (ι l).b (.loop {L with state:=st',pending:=pend'.map exitCode})):=by
 refine Step.set hm hl hg rfl rfl (o:=.loop {L with state:=st',pending:=pend'.map exitCode}) ⟨rfl,rfl,rfl,rfl⟩ ?_ (by intro _ _ _ h;cases h)
 exact⟨_,aK hL,Dt hok (fun _ _=>rfl) (Mem.O6 (fun i hi=>Mem.gU hm.ok hg rfl i hi) fun _ _=>rfl)⟩
theorem Aq {cf:y8}(hcf:qj P G cf)(fuel:Nat)(hdraw:∀slots nt r,eF P G slots nt cf r){l:Nat}{args:List j3}{outs:List VM}(h:zQ cf fuel l args m=some outs)(hm:RM P G ι m w.heap)(hargs:ltL (m.nm ι) args):
  ∃L:Loop,w.heap[(ι l).b]?=some (.loop L)∧args.length=L.params.size∧
   RoundIn Fence.wide 0 P (ι l).b L.fn ((L.params.zip (l8 ι args).toArray).foldl (fun t (p,v)=>t.setIfInBounds p v) L.tmps) L.assign L.body w (F9 P G ι m w outs):=by
 obtain⟨hlim,h⟩:=dR h
 have hlim:=bT hlim
 obtain⟨st,pend,env,params,as,bd,hget,h⟩:=mo h
 have hst:st=.ready∧pend=none∧ob (Q0 params args env) (fun env1=>bnd (trC as cf fuel (some l) env1 m []) fun o=>match o.x,o.marks with
   | .normal,[]=>lq (o.m.get l) fun st2 pend2 env2 params2 assign2 body2=>match st2,pend2 with
    | .ready,none=>bnd (trC bd cf fuel (some l) o.env (o.m.set l (.loop .busy none env2 params2 assign2 body2)) []) (roundEnd l)
    | _,_=>none
   | _,_=>none)=some outs:=by
  cases st<;>cases pend<;>first | exact⟨rfl,rfl,h⟩ | cases h
 obtain⟨rfl,rfl,h⟩:=hst
 obtain⟨env1,hp,h⟩:=r9 h
 obtain⟨os,hos,hk⟩:=L8 h
 obtain⟨L,hL,hLs,hLp,slots,hLe,hLps,hLa,hLb,nt,hnt,hta,htb⟩:=hm.blk l _ hget
 rw [hLps] at hp
 obtain⟨g1,g2,g3⟩:=jk L.params.toList args env env1 L.tmps hLe hargs hp
 refine⟨L,hL,by rw [g1];simp,?_⟩
 rw [FP]
 have hhas:m.has l:=⟨_,hget,rfl⟩
 have hir:ND ι m (some l) (some (ι l).b):=⟨rfl,fun l' hl'=>by cases hl';exact hhas⟩
 refine roundIn_of_wpIn (F:=Fence.wide) trivial ?_
 refine jP hcf fuel (hdraw slots nt (some (ι l).b)) L.assign as hLa hta _ (some l) env1 m [] ι w {tmps:=(L.params.toList.zip (l8 ι args)).foldl (fun t (p,v)=>t.setIfInBounds p v) L.tmps,defers:=[]} os hm g2 (by rw [g3];exact hnt)
  ⟨rfl,fun _ h=>by cases h⟩ hir hos ?_
 intro o ho ι1 w1 a1 hst1 hen1 hsz1 hmk1 hpv1
 obtain⟨os',hos',hsub⟩:=hk o ho
 obtain⟨x₀,env₀,m₀,k₀,pv₀⟩:=o
 have hx:x₀=.normal∧k₀=[]∧lq (m₀.get l) (fun st2 pend2 env2 params2 assign2 body2=>match st2,pend2 with
    | .ready,none=>bnd (trC bd cf fuel (some l) env₀ (m₀.set l (.loop .busy none env2 params2 assign2 body2)) []) (roundEnd l)
    | _,_=>none)=some os':=by
  cases x₀<;>cases k₀<;>first | exact⟨rfl,rfl,hos'⟩ | cases hos'
 obtain⟨rfl,rfl,hos'⟩:=hx
 obtain rfl:pv₀=none:=fF hpv1 (by intro e;cases e)
 obtain⟨st2,pend2,env2,params2,as2,bd2,hget2,hos'⟩:=mo hos'
 have hst2:st2=.ready∧pend2=none∧bnd (trC bd cf fuel (some l) env₀ (m₀.set l (.loop .busy none env2 params2 as2 bd2)) []) (roundEnd l)=some os':=by
  cases st2<;>cases pend2<;>first | exact⟨rfl,rfl,hos'⟩ | cases hos'
 obtain⟨rfl,rfl,hos'⟩:=hst2
 obtain⟨os2,hos2,hk2⟩:=L8 hos'
 obtain⟨L2,hL2,hok2⟩:=hst1.rm.blk l _ hget2
 have hlim0:m₀.lim≤l:=by rw [hst1.lim];exact hlim
 have hι1:(ι1 l).b=(ι l).b:=by rw [hst1.ext l hhas]
 have hbeg:=run_beginRound (P:=P) hL2 hok2.state
 have hst2:=step_loop hst1.rm hlim0 hget2 hL2 hok2 .busy none
 rw [hι1] at hbeg
 rw [hι1,show ({L2 with state:=.busy,pending:=(none:Option X9).map exitCode}:Loop)={L2 with state:=.busy} from by rw [← hok2.pending]] at hst2
 refine⟨_,hbeg,?_⟩
 have hst12:=hst1.trans hst2
 refine jP hcf fuel (hdraw slots nt (some (ι l).b)) L.body bd hLb htb _ (some l) env₀ _ [] ι1 _ a1 os2 hst2.rm (hst2.env hen1) (by rw [hsz1];show nt≤Array.size _;rw [g3];exact hnt)
  (hmk1.step hst2) (hir.step hst12) hos2 ?_
 intro o3 ho3 ι3 w3 a3 hst3 hen3 hsz3 hmk3 hpv3
 obtain⟨os3,hos3,hsub3⟩:=hk2 o3 ho3
 obtain⟨x3,env3,m3,k3,pv3⟩:=o3
 have hall:=hst12.trans hst3
 have hk3:k3=[]∧pv3=none∧lq (m3.get l) (fun st pend env params assign body=>match st,pend with
  | .busy,none=>match x3 with
   | .normal=>one (.bool true) (m3.set l (.loop .ready none env params assign body))
   | x=>one (.bool false) (m3.set l (.loop .done (some x) env params assign body))
  | _,_=>none)=some os3:=by
  cases k3 with
  | nil=>
   cases pv3 with
   | none=>exact⟨rfl,rfl,hos3⟩
   | some=>cases hos3
  | cons=>cases pv3<;>cases hos3
 obtain⟨rfl,rfl,hos3⟩:=hk3
 obtain⟨st4,pend4,env4,params4,as4,bd4,hget4,hos3⟩:=mo hos3
 obtain⟨L4,hL4,hok4⟩:=hst3.rm.blk l _ hget4
 have hlim3:m3.lim≤l:=by rw [hall.lim];exact hlim
 have hι3:(ι3 l).b=(ι l).b:=by rw [hall.ext l hhas]
 have fin:∀(b:Bool) (pend':Option X9),os3=[⟨.bool b,m3.set l (.loop (if b then .ready else .done) pend' env4 params4 as4 bd4)⟩]→(pend'.map exitCode).isNone=b→
   ∃v w',(Instr.endRound (ι l).b (pend'.map exitCode)).run P w3=.ok v w'∧F9 P G ι m w outs (.returned v) w':=by
  intro b pend' h1 h2
  have hend:=run_endRound (P:=P) (pend'.map exitCode) hL4
  have hst4:=step_loop hst3.rm hlim3 hget4 hL4 hok4 (if b then .ready else .done) pend'
  rw [hι3] at hend hst4
  rw [h2] at hend
  refine⟨_,_,hend,.inl ⟨_,rfl,⟨.bool b,m3.set l (.loop (if b then .ready else .done) pend' env4 params4 as4 bd4)⟩,hsub _ ?_,ι3,hall.trans hst4,trivial,by simp [l6]⟩⟩
  exact hsub3 _ (by rw [h1];exact List.mem_singleton.2 rfl)
 have fin':∀(b:Bool) (pend':Option X9),(st4=.busy∧pend4=none∧one (.bool b) (m3.set l (.loop (if b then .ready else .done) pend' env4 params4 as4 bd4))=some os3)→(pend'.map exitCode).isNone=b→
   ∃v w',(Instr.endRound (ι l).b (pend'.map exitCode)).run P w3=.ok v w'∧F9 P G ι m w outs (.returned v) w':=by
  rintro b pend' ⟨_,_,h⟩ h2
  exact fin b pend' (by cases h;rfl) h2
 cases x3 with
 | normal=>exact fin' true none (by cases st4<;>cases pend4<;>first | exact⟨rfl,rfl,hos3⟩ | cases hos3) rfl
 | exit id=>exact fin' false (some (.exit id)) (by cases st4<;>cases pend4<;>first | exact⟨rfl,rfl,hos3⟩ | cases hos3) rfl
 | ret=>exact fin' false (some .ret) (by cases st4<;>cases pend4<;>first | exact⟨rfl,rfl,hos3⟩ | cases hos3) rfl
theorem FQ {r:ResultVar}{l:List ResultVar}{rs:List sV}(h:Eo P slots (r::l)=some rs):
  ∃x rs',rs=x::rs'∧Eo P slots l=some rs'∧((∃t j,r=.tmp t∧idxOf t slots 0=some j∧x=.tmp j)∨∃t ty j s,r=.cell t ty∧idxOf t slots 0=some j∧partT P ty=some s∧x=.cell j s):=by
 cases r with
 | tmp t=>
  simp only [Eo] at h
  split at h
  ·cases h;exact⟨_,_,rfl,by assumption,.inl ⟨t,_,rfl,by assumption,rfl⟩⟩
  ·cases h
 | cell t ty=>
  simp only [Eo] at h
  split at h
  ·cases h;exact⟨_,_,rfl,by assumption,.inr ⟨t,ty,_,_,rfl,by assumption,by assumption,rfl⟩⟩
  ·cases h
theorem yG (r:sV)(rs:List sV)(env:T j3)(m:Mem):results (r::rs) env m=ob (match r with
  | .tmp j=>T.get env j
  | .cell j size=>ob (T.get env j) fun p=>iP p fun id off=>K5 (m.get id) fun rs n rows=>match size with
   | none=>cell1 rs n rows off
   | some k=>ob (eT rs n rows off k) fun l=>some (.agg l)) fun v=>ob (results rs env m) fun l=>some (v::l):=rfl
def RH (tmps:Array Value):ResultVar→Sem Value
 | .tmp t=>pure (tmps.getD t undef)
 | .cell a t=>do loadVar t (← asAddr (tmps.getD a undef))
theorem uJ (fn:Func)(tmps:Array Value):Go.results fn tmps=(do
  let vs ← fn.results.mapM (RH tmps)
  pure (if h:vs.size=1 then vs[0] else .tuple vs)):=by
 unfold Go.results
 congr 1
theorem Du (ad:Addr):asAddr (.pointer (some ad))=pure ad:=rfl
theorem mq (hm:RM P G ι m w.heap){env:T j3}{tmps:Array Value}(hen:M8 ι (m.nm ι) slots env tmps):∀(l:List ResultVar) (rs:List sV),Eo P slots l=some rs→∀vs,results rs env m=some vs→
  ltL (m.nm ι) vs∧(l.mapM (RH tmps):Sem (List Value)).run P w=.ok (l8 ι vs) w:=by
 intro l
 induction l with
 | nil=>
  intro rs hc vs hv
  simp only [Eo,Option.some.injEq] at hc;subst hc
  have hv:some []=some vs:=hv
  cases hv
  exact⟨trivial,by simp [l8]⟩
 | cons r l ih=>
  intro rs hc vs hv
  obtain⟨x,rs',rfl,hc',hx⟩:=FQ hc
  rw [yG] at hv
  obtain⟨v,h1,hv⟩:=r9 hv
  obtain⟨vs',h2,hv⟩:=r9 hv
  cases hv
  obtain⟨g1,g2⟩:=ih rs' hc' vs' h2
  rcases hx with⟨t,j,rfl,hj,rfl⟩ | ⟨t,ty,j,s,rfl,hj,hs,rfl⟩
  ·obtain⟨_,u,e1,e2,e3⟩:=hen.val t j hj
   have h1:env.get j=some v:=h1
   rw [h1] at e1;cases e1
   refine⟨⟨e2,g1⟩,?_⟩
   simp only [List.mapM_cons,RH,Sem.run_bind,Sem.run_pure,Result.andThen_ok,g2,e3,l8]
  ·obtain⟨p,h1,h3⟩:=r9 h1
   obtain⟨id,off,rfl,h3⟩:=V6 h3
   obtain⟨_,u,e1,e2,e3⟩:=hen.val t j hj
   rw [h1] at e1;cases e1
   obtain⟨q1,q2⟩:=lT hs hm h3
   refine⟨⟨q2,g1⟩,?_⟩
   have e4:tmps.getD t undef=.pointer (some (ι.at id off)):=by rw [e3];simp [l6]
   simp only [List.mapM_cons,RH,Sem.run_bind,Sem.run_pure,Result.andThen_ok,g2,e4,l8,Du,q1]
theorem yH (l:List j3):l6 ι (result l)=(if h:(l8 ι l).toArray.size=1 then (l8 ι l).toArray[0] else .tuple (l8 ι l).toArray):=by
 match l with
 | []=>simp [result,l6,l8]
 | [v]=>simp [result,l8]
 | v::u::l=>simp [result,l6,l8]
theorem FT {l:List j3}(h:ltL n l):(result l).lt n:=by
 match l with
 | []=>exact trivial
 | [v]=>exact h.1
 | v::u::l=>exact h
theorem Li {β:Type}{b:Option Blk}{k:Option β}{r:β}(h:Rz b k=some r):b=some .deferred∧k=some r:=by
 unfold Rz at h
 split at h
 ·exact⟨rfl,h⟩
 ·cases h
def Ar (ι:Inj):Option j3→FrameMode
 | none=>.returning
 | some x=>.panicking [{v:=l6 ι x,recovered:=false}]
theorem Jb {ι:Inj}{md:Option j3}:Ar ι md≠.run:=by cases md<;>simp [Ar]
def Dv (ι:Inj)(m:Mem)(md:Option j3):Prop:=∀x,md=some x→x.lt (m.nm ι)
theorem Dv.step {ι ι':Inj}{m m':Mem}{w w':World}{md:Option j3}(h:Dv ι m md)(hst:Step P G ι m w ι' m' w'):Dv ι' m' md∧Ar ι' md=Ar ι md:=by
 refine⟨fun x hx=>j3.F4 (Mem.O6 hst.has hst.ext) _ (h x hx),?_⟩
 cases md with
 | none=>rfl
 | some x=>simp only [Ar,hst.l6 (h x rfl)]
def RI (P:Program)(G:Mem)(dcf:fO):Prop:=∀{f:FuncId} {args:List j3} {md:Option j3} {m:Mem} {outs:List (Mem×Option j3)},dcf f args md m=some outs→
 Dm P f∧∀{ι:Inj} {w:World},RM P G ι m w.heap→ltL (m.nm ι) args→Dv ι m md→
  CallsDIn Fence.wide 0 P f (l8 ι args).toArray (Ar ι md) w fun e u' w'=>∃v,e=.returned v∧∃r∈outs,∃ι',Step P G ι m w ι' r.1 w'∧Dv ι' r.1 r.2∧settle u'=Ar ι' r.2
theorem rH {dcf:fO}(hdc:RI P G dcf){fn:Func}{rs:List sV}(hrs:Eo P slots fn.results.toList=some rs){ι0:Inj}{m0:Mem}{w0:World}{outs:List VM}:
  ∀(k:List Mk) (m:Mem) (ι:Inj) (w:World) (env:T j3) (tmps:Array Value) (ds:List Deferred) (md:Option j3) (vs:List VM),
  Step P G ι0 m0 w0 ι m w→M8 ι (m.nm ι) slots env tmps→aO ι m k ds→Dv ι m md→xC dcf (qD rs env) k md m=some vs→(∀v∈vs,v∈outs)→
  LeavesInM Fence.wide 0 P fn tmps (F9 P G ι0 m0 w0 outs) ds (Ar ι md) w:=by
 intro k
 induction k with
 | nil=>
  intro m ι w env tmps ds md vs hst hen hmk hmd hv hsub
  rw [hmk.1]
  have hv:qD rs env md m=some vs:=hv
  show LeavesIn Fence.wide 0 P fn tmps _ [] (Ar ι md) w
  cases md with
  | none=>
   have hv:ob (results rs env m) (fun l=>one (result l) m)=some vs:=hv
   obtain⟨l,h2,hv⟩:=r9 hv
   cases hv
   obtain⟨g1,g2⟩:=mq hst.rm hen _ rs hrs l h2
   refine⟨l6 ι (result l),?_,.inl ⟨_,rfl,⟨result l,m⟩,hsub _ (List.mem_singleton.2 rfl),ι,hst,FT g1,rfl⟩⟩
   rw [yH,uJ,Array.mapM_eq_mapM_toList]
   simp only [Sem.run_bind,map_eq_pure_bind,bind_assoc,pure_bind]
   rw [g2]
   simp
  | some x=>
   have hv:some [(⟨.pan x,m⟩:VM)]=some vs:=hv
   cases hv
   exact .inr ⟨_,hsub _ (List.mem_singleton.2 rfl),x,ι,rfl,hst,hmd x rfl,rfl⟩
 | cons y k ih=>
  intro m ι w env tmps ds md vs hst hen hmk hmd hv hsub
  have htail:aO ι m k (k.map (pY ι)):=⟨rfl,fun i hi=>hmk.2 i (List.mem_cons_of_mem _ hi)⟩
  have hy:=hmk.2 y (by simp)
  rw [hmk.1]
  refine⟨Jb,?_⟩
  cases y with
  | c id=>
   have hv:Rz (m.get id) (xC dcf (qD rs env) k md (m.set id .dead))=some vs:=hv
   obtain⟨hget,hv⟩:=Li hv
   have hb:w.heap[(ι id).b]?=some (.deferred (some [])):=hst.rm.blk id _ hget
   have hst2:Step P G ι m w ι (m.set id .dead) (w.putObj (ι id).b (.deferred none)):=
    Step.set hst.rm hy.2 hget rfl rfl (o:=.deferred none) ⟨rfl,rfl,rfl,rfl⟩ trivial (by intro _ _ _ h;cases h)
   refine .inl ⟨(ι id).b,_,rfl,run_takeDeferred hb,?_⟩
   exact ih (m.set id .dead) ι _ env tmps _ md vs (hst.trans hst2) (hst2.env hen) (htail.step hst2) (hmd.step hst2).1 hv hsub
  | d v args=>
   obtain⟨⟨fn',a,b,rfl⟩,hlt,hargs⟩:=hy
   have hv:bnd (Kc dcf (.func fn' a b) args md m) (fun r=>xC dcf (qD rs env) k r.2 r.1)=some vs:=hv
   obtain⟨os,hos,hk⟩:=L8 hv
   cases fn' with
   | func f=>
    have hos:dcf f (dz a (dz args b)) md m=some os:=hos
    rw [L9,L9] at hos
    obtain⟨hf,hcall⟩:=hdc hos
    obtain⟨_,ha,hb⟩:=hlt
    refine .inr ⟨(fun h=>by cases h),.func f,(l8 ι b).toArray,f,(l8 ι (a++(args++b))).toArray,rfl,?_,(fun _ _=>trivial),?_⟩
    ·show (invoke (.fn (.func f) (l8 ι b).toArray) ((l8 ι a).toArray++(l8 ι args).toArray)).run P w=_
     simp [invoke,fA hf,bW]
    ·refine CallsDIn.mono (hcall hst.rm (bA ha (bA hargs hb)) hmd) ?_
     rintro e u' w' ⟨v,rfl,r,hr,ι',hst',hmd',hset⟩
     obtain⟨os',hos',hsub'⟩:=hk r hr
     show LeavesInM Fence.wide 0 P fn tmps _ (k.map (pY ι)) (settle u') w'
     rw [hset]
     exact ih r.1 ι' w' env tmps _ r.2 os' (hst.trans hst') (hst'.env hen) (htail.step hst') hmd' hos' (fun v hv=>hsub v (hsub' v hv))
   | _=>cases hos
structure uK (P:Program)(f:FuncId)(sf:SFn):Prop where
 ok:Dm P f
 is:∃(slots:List Nat) (fn:Func) (c:Code) (ac:M6) (rs:List sV),P.funcs[f]?=some fn∧fn.body=some c∧I8 P slots c=some ac∧Eo P slots fn.results.toList=some rs∧
  tmpsIn fn.ntmps c=true∧(∀t∈slots,t<fn.ntmps)∧slots.length<2^60∧
  sf.args=(List.range (fn.params.size+fn.nfree)).map (fun t=>idxOf t slots 0)∧sf.nslots=slots.length∧sf.results=rs∧sf.code=trC ac∧∀c',sf.rcode=some c'→c'=ac
theorem Jc:∀(l:List Value) (k:Nat) (A:Array Value) (i:Nat),(((List.range' k l.length).zip l).foldl (fun t (p,v)=>t.setIfInBounds p v) A).size=A.size∧
  (((List.range' k l.length).zip l).foldl (fun t (p,v)=>t.setIfInBounds p v) A)[i]?=if k≤i∧i<k+l.length∧i<A.size then l[i-k]? else A[i]?:=by
 intro l
 induction l with
 | nil=>intro k A i;simp;omega
 | cons v l ih=>
  intro k A i
  have e:((List.range' k (v::l).length).zip (v::l)).foldl (fun t (p,v)=>t.setIfInBounds p v) A=((List.range' (k+1) l.length).zip l).foldl (fun t (p,v)=>t.setIfInBounds p v) (A.setIfInBounds k v):=by
   simp [List.range'_succ]
  obtain⟨h1,h2⟩:=ih (k+1) (A.setIfInBounds k v) i
  rw [e]
  refine⟨by rw [h1];simp,?_⟩
  rw [h2]
  simp only [Array.size_setIfInBounds,List.length_cons]
  by_cases hk:i=k
  ·subst hk
   rw [if_neg (by omega)]
   by_cases hs:i<A.size
   ·rw [if_pos (by omega),Array.getElem?_setIfInBounds_self_of_lt hs];simp
   ·rw [if_neg (by omega),Array.setIfInBounds_eq_of_size_le (Nat.le_of_not_lt hs)]
  ·rw [Array.getElem?_setIfInBounds_ne (fun e=>hk e.symm)]
   by_cases hc:k+1≤i∧i<k+1+l.length∧i<A.size
   ·rw [if_pos hc,if_pos (by omega),show i-k=(i-(k+1))+1 from by omega];simp
   ·rw [if_neg hc,if_neg (by omega)]
theorem Dw (vs:List Value)(nt:Nat):((List.range vs.length).zip vs).foldl (fun t (p,v)=>t.setIfInBounds p v) (Array.replicate (max vs.length nt) undef)=vs.toArray++Array.replicate (nt-vs.toArray.size) undef:=by
 apply Array.ext_getElem?
 intro i
 rw [List.range_eq_range',(Jc vs 0 _ i).2]
 simp only [Array.size_replicate,Nat.zero_le,true_and,Nat.zero_add,Nat.sub_zero]
 by_cases h:i<vs.length
 ·rw [if_pos (by omega),Array.getElem?_append_left (by simpa using h)];simp
 ·rw [if_neg (by omega),Array.getElem?_append_right (by simpa using h)]
  simp only [Array.getElem?_replicate,List.size_toArray]
  by_cases h2:i<max vs.length nt
  ·rw [if_pos h2,if_pos (by omega)]
  ·rw [if_neg h2,if_neg (by omega)]
theorem yI {fn:Func}(h6:∀t∈slots,t<fn.ntmps)(h7:slots.length<2^60){args:List j3}{env:T j3}(hargs:ltL (m.nm ι) args)
  (hp:Q0 ((List.range (fn.params.size+fn.nfree)).map fun t=>idxOf t slots 0) args (T.rep .undef slots.length .e 0)=some env):
  args.length=fn.params.size+fn.nfree∧M8 ι (m.nm ι) slots env ((l8 ι args).toArray++Array.replicate (fn.ntmps-(l8 ι args).toArray.size) undef)∧
   fn.ntmps≤((l8 ι args).toArray++Array.replicate (fn.ntmps-(l8 ι args).toArray.size) undef).size:=by
 have henv0:M8 ι (m.nm ι) slots (T.rep .undef slots.length .e 0) (Array.replicate (max (l8 ι args).length fn.ntmps) undef):=by
  refine⟨by have:=T.EP j3.undef slots.length .e 0 .e;simpa using this,h7,fun t j hj=>?_⟩
  have hlt:=lH hj
  have hmem:t∈slots:=by have:=hlt.2.2;exact List.mem_of_getElem? this
  have:=h6 t hmem
  refine⟨by simp;omega,.undef,?_,trivial,?_⟩
  ·rw [T.ER _ _ _ _ .e,if_neg (by omega),if_pos hlt.2.1]
  ·rw [Array.getD_eq_getD_getElem?,Array.getElem?_replicate]
   rw [dM]
   split<;>rfl
 obtain⟨g1,g2,g3⟩:=jk (List.range (fn.params.size+fn.nfree)) args _ env _ henv0 hargs hp
 rw [List.length_range] at g1
 have hst:=Dw (l8 ι args) fn.ntmps
 rw [G9,g1] at hst
 rw [G9,g1] at g2 g3
 rw [hst] at g2 g3
 refine⟨g1,g2,?_⟩
 rw [Array.size_append,Array.size_replicate];omega
theorem BP {cf:y8}(hcf:qj P G cf){dcf:fO}(hdc:RI P G dcf)(fuel:Nat)(hdraw:∀slots nt r,eF P G slots nt cf r){f:FuncId}{sf:SFn}(hf:uK P f sf){args:List j3}{outs:List VM}(h:D6 cf dcf fuel sf args m=some outs)(hm:RM P G ι m w.heap)(hargs:ltL (m.nm ι) args):
  CallsIn Fence.wide 0 P f (l8 ι args).toArray w (F9 P G ι m w outs):=by
 obtain⟨_,slots,fn,c,ac,rs,h1,h2,h3,h4,h5,h6,h7,e1,e2,e3,e4,_⟩:=hf
 obtain⟨env,hp,h⟩:=r9 h
 obtain⟨os,hos,hk⟩:=L8 h
 rw [e1,e2] at hp
 obtain⟨g1,g2,g3⟩:=yI h6 h7 hargs hp
 refine callsIn_of_wp_marks h1 h2 trivial ?_
 rw [e4] at hos
 refine jP hcf fuel (hdraw slots fn.ntmps none) c ac h3 h5 _ none env m [] ι w {tmps:=(l8 ι args).toArray++Array.replicate (fn.ntmps-(l8 ι args).toArray.size) undef,defers:=[]} os hm g2 g3 ⟨rfl,fun _ h=>by cases h⟩ ⟨rfl,fun _ h=>by cases h⟩ hos ?_
 intro o ho ι' w' a' hst' hen' hsz' hmk' hpv'
 obtain⟨vs,hvs,hsub⟩:=hk o ho
 obtain⟨x₀,env₀,m₀,k₀,pv₀⟩:=o
 rw [e3] at hvs
 rcases jO hvs with⟨hx,hl⟩ | ⟨id,hx,hl⟩ | ⟨hx,hl⟩
 ·obtain rfl:x₀=.normal:=hx
  obtain rfl:pv₀=none:=fF hpv' (by intro e;cases e)
  exact rH hdc h4 k₀ m₀ ι' w' env₀ a'.tmps a'.defers none vs hst' hen' hmk' (fun x hx=>by cases hx) hl hsub
 ·cases hl
 ·obtain rfl:x₀=.ret:=hx
  have:=rH hdc h4 k₀ m₀ ι' w' env₀ a'.tmps a'.defers pv₀ vs hst' hen' hmk' (fun x hx=>(hpv' x hx).2) hl hsub
  cases pv₀<;>exact this
end
inductive Dep (ops:Array Oper):Nat→Nat→Prop
 | edge {i:Nat} {o:Oper} {e:Edge}:ops[i]?=some o→e∈o.after→Region.binds .any e=true→Dep ops i e.on
 | more {i:Nat} {o:Oper} {e:Edge} {j:Nat}:ops[i]?=some o→e∈o.after→Region.binds .any e=true→Dep ops e.on j→Dep ops i j
theorem Dep.trans {ops:Array Oper}{i j k:Nat}(h:Dep ops i j)(g:Dep ops j k):Dep ops i k:=by
 induction h with
 | edge h1 h2 h3=>exact .more h1 h2 h3 g
 | more h1 h2 h3 _ ih=>exact .more h1 h2 h3 (ih g)
theorem FU (acc:List Nat)(j:Nat):∀(l:List Edge) (s:Nat),Nat.testBit (l.foldl (fun s x=>if Region.binds .any x then s ||| (1 <<< x.on) ||| (acc.getD x.on 0) else s) s) j=true→
  Nat.testBit s j=true∨∃e∈l,Region.binds .any e=true∧(j=e.on∨Nat.testBit (acc.getD e.on 0) j=true):=by
 intro l
 induction l with
 | nil=>intro s h;exact .inl h
 | cons e l ih=>
  intro s h
  rw [List.foldl_cons] at h
  rcases ih _ h with h | ⟨e',h1,h2⟩
  ·cases hb:Region.binds .any e with
   | false=>rw [hb] at h;exact .inl (by simpa using h)
   | true=>
    rw [hb] at h
    simp only [if_true,Nat.testBit_or,Bool.or_eq_true] at h
    rcases h with (h | h) | h
    ·exact .inl h
    ·refine .inr ⟨e,by simp,hb,.inl ?_⟩
     rw [Nat.one_shiftLeft,Nat.testBit_two_pow] at h
     exact (of_decide_eq_true h).symm
    ·exact .inr ⟨e,by simp,hb,.inr h⟩
  ·exact .inr ⟨e',List.mem_cons_of_mem _ h1,h2⟩
theorem U7 (ops:Array Oper)(i j:Nat)(h:mOf (masks ops.toList) i j=true):Dep ops i j:=by
 have key:∀(l:List Oper) (acc:List Nat),(∀k,k<l.length→ops[acc.length+k]?=l[k]?)→(∀i j,Nat.testBit (acc.getD i 0) j=true→Dep ops i j)→
   ∀i j,Nat.testBit ((l.foldl (fun acc o=>acc ++ [bitsOf o.after acc]) acc).getD i 0) j=true→Dep ops i j:=by
  intro l
  induction l with
  | nil=>intro acc _ h;exact h
  | cons o l ih=>
   intro acc hops h
   rw [List.foldl_cons]
   refine ih _ (fun k hk=>?_) ?_
   ·have:=hops (k+1) (by simpa using hk)
    simpa [Nat.add_assoc,Nat.add_comm 1] using this
   ·intro i j hb
    by_cases hi:i<acc.length
    ·refine h i j ?_
     simpa [List.getD_eq_getElem?_getD,List.getElem?_append_left hi] using hb
    ·by_cases hi2:i=acc.length
     ·subst hi2
      have hb:Nat.testBit (bitsOf o.after acc) j=true:=by simpa [List.getD_eq_getElem?_getD] using hb
      have ho:ops[acc.length]?=some o:=by have:=hops 0 (by simp);simpa using this
      rcases FU acc j o.after.toList 0 hb with h0 | ⟨e,h1,h2,h3⟩
      ·simp at h0
      ·rcases h3 with rfl | h3
       ·exact .edge ho (by simpa using h1) h2
       ·exact .more ho (by simpa using h1) h2 (h _ _ h3)
     ·have:(acc ++ [bitsOf o.after acc]).getD i 0=0:=by
       rw [List.getD_eq_getElem?_getD,List.getElem?_eq_none (by simp;omega)];rfl
      rw [this] at hb;simp at hb
 refine key ops.toList [] (fun k hk=>by simp) (fun i j hb=>by simp at hb) i j h
def eG (ops:Array Oper)(listed:Array Bool):Prop:=∀i o,listed.getD i false=true→ops[i]?=some o→∀e∈o.after,Region.binds .any e=true→listed.getD e.on false=true
theorem Dep.listed {ops:Array Oper}{listed:Array Bool}(hc:eG ops listed){i j:Nat}(h:Dep ops i j):
  (∀o,ops[i]?=some o→∀e∈o.after,Region.binds .any e=true→listed.getD e.on false=true)→listed.getD j false=true:=by
 induction h with
 | edge ho he hb=>intro hi;exact hi _ ho _ he hb
 | more ho he hb _ ih=>intro hi;exact ih fun o' ho'=>hc _ o' (hi _ ho _ he hb) ho'
theorem nS:∀{l:List Nat},EL l=true→l.Nodup
 | [],_=>List.nodup_nil
 | x::l,h=>by
  simp only [EL,Bool.and_eq_true,Bool.not_eq_true'] at h
  refine List.nodup_cons.2 ⟨fun hx=>?_,nS h.2⟩
  have:=h.1
  simp [hx] at this
theorem BQ {ms:List Nat}{ops:Array Oper}:∀{l before:List (Nat×Inst)},lF ms ops l before=true→∀p y,l[p]?=some y→oI ms ops y.1 y.2 ((l.take p).reverse++before)=true
 | [],_,_,p,y,hp=>by simp at hp
 | z::l,before,h,p,y,hp=>by
  simp only [lF,Bool.and_eq_true] at h
  cases p with
  | zero=>simp at hp;subst hp;simpa using h.1
  | succ p=>
   have:=BQ h.2 p y (by simpa using hp)
   simpa using this
structure DS where
 ls:List j3
 env:T j3
 m:Mem
 gs:List Mem
def RdB (o:ROp)(g:Option (Opd×Bool))(s:DS)(v:j3):Prop:=
 g=none∧∃y id off len cp,o=.bytesStr y∧trO y s.ls s.env=.slice id off len cp∧isVoid ((hd s.m s.gs).get id)=true∧isCells (s.m.get id)=true∧U0 (trO y) s.ls s.env s.m=some v
def DStep (cf:y8)(b:Nat)(x:Nat×Inst)(s s':DS):Prop:=
 ∃v,s'.ls=v::s.ls∧s'.env=trD x.2.dst v s.env∧match x.2.op with
  | .p o=>Ej x.2.guard (trP o) s.ls s.env=some v∧s'.m=s.m∧s'.gs=s.gs
  | .r o=>((Bw x.2.guard (trR o) s.ls s.env (hd s.m s.gs)=some v∧stable (Bw x.2.guard (trR o)) s.ls s.env v x.1 (tl s.gs)=true)∨RdB o x.2.guard s v)∧True∧s'.m=s.m∧s'.gs=s.gs
  | .a o=>∃r,KR x.2.guard (trL o) s.ls s.env (b+x.1)=some r∧v=r.1∧isVoid (s.m.get (b+x.1))=true∧iV (b+x.1) s.gs=true∧s'.m=Oz s.m (b+x.1) r.2∧s'.gs=s.gs
  | .e o=>Ir x.2.guard (trE o) cf s.ls s.env s.m=some [⟨v,s'.m⟩]∧s'.gs=s'.m::s.gs∧¬ ∃x,v=.pan x
theorem Lj {α β:Type}{x:Option (List α)}{f:α→Option β}{r:β}(h:KS x f=some r):∃a,x=some [a]∧f a=some r:=by
 cases x with
 | none=>cases h
 | some l=>match l,h with
  | [a],h=>exact⟨a,rfl,h⟩
  | [],h=>cases h
  | _ :: _ :: _,h=>cases h
def GStep (x:Nat×Inst)(s s':DS):Prop:=
 ∃v,s'.ls=v::s.ls∧s'.env=trD x.2.dst v s.env∧s'.m=s.m∧s'.gs=(if isE x.2=true then s'.m::s.gs else s.gs)∧∀o,x.2.op≠.a o
def FV (cf:y8)(b:Nat)(x:Nat×Inst)(s s':DS):Prop:=DStep cf b x s s'∨GStep x s s'
theorem FW {cf:y8}{b:Nat}{x:Nat×Inst}{gh:GF}{k:DC}{s:DS}{outs:List EM}(h:Tx x.1 x.2.op x.2.dst x.2.guard gh k cf b s.ls s.env s.m s.gs=some outs):
  (∃s',DStep cf b x s s'∧k cf b s'.ls s'.env s'.m s'.gs=some outs)∨
  ∃eo y m',x.2.op=.e eo∧Ir x.2.guard (trE eo) cf s.ls s.env s.m=some [⟨.pan y,m'⟩]∧gh (.undef::s.ls) (trD x.2.dst .undef s.env)=true∧outs=[⟨s.env,m',some y,[]⟩]:=by
 obtain⟨c,op,dst,guard⟩:=x
 unfold DStep
 cases op with
 | p o=>
  obtain⟨v,h1,h⟩:=r9 h
  exact .inl ⟨⟨v::s.ls,trD dst v s.env,s.m,s.gs⟩,⟨v,rfl,rfl,h1,rfl,rfl⟩,h⟩
 | r o=>
  have usual:∀{f:RF},f=Bw guard (trR o)→dcR f c (trD dst) k cf b s.ls s.env s.m s.gs=some outs→(∃s':DS,(∃v,s'.ls=v::s.ls∧s'.env=trD dst v s.env∧((Bw guard (trR o) s.ls s.env (hd s.m s.gs)=some v∧stable (Bw guard (trR o)) s.ls s.env v c (tl s.gs)=true)∨RdB o guard s v)∧True∧s'.m=s.m∧s'.gs=s.gs)∧k cf b s'.ls s'.env s'.m s'.gs=some outs):=by
   rintro f rfl h
   obtain⟨v,h1,h⟩:=r9 h
   obtain⟨h2,h⟩:=p9 h
   exact⟨⟨v::s.ls,trD dst v s.env,s.m,s.gs⟩,⟨v,rfl,rfl,.inl ⟨h1,h2⟩,trivial,rfl,rfl⟩,h⟩
  change Tw c o dst guard k cf b s.ls s.env s.m s.gs=some outs at h
  unfold Tw at h
  split at h
  ·rename_i y
   unfold acX at h
   split at h
   ·rename_i id off len cp hv
    cases hvo:isVoid ((hd s.m s.gs).get id) with
    | false=>rw [hvo] at h;exact .inl (usual rfl h)
    | true=>
     rw [hvo] at h
     obtain⟨h1,h⟩:=p9 h
     obtain⟨v,h2,h⟩:=r9 h
     exact .inl ⟨⟨v::s.ls,trD dst v s.env,s.m,s.gs⟩,⟨v,rfl,rfl,.inr ⟨rfl,y,id,off,len,cp,rfl,hv,hvo,h1,h2⟩,trivial,rfl,rfl⟩,h⟩
   ·exact .inl (usual rfl h)
  ·exact .inl (usual rfl h)
 | a o=>
  obtain⟨r,h1,h⟩:=r9 h
  obtain⟨h2,h⟩:=p9 h
  obtain⟨h3,h⟩:=p9 h
  exact .inl ⟨⟨r.1::s.ls,trD dst r.1 s.env,Oz s.m (b+c) r.2,s.gs⟩,⟨r.1,rfl,rfl,r,h1,rfl,h2,h3,rfl,rfl⟩,h⟩
 | e o=>
  obtain⟨r,h1,h⟩:=Lj h
  obtain⟨v,m'⟩:=r
  have h:fM v (fun x=>bi (gh (.undef::s.ls) (trD dst .undef s.env)) (some [⟨s.env,m',some x,[]⟩]) none) (k cf b (v::s.ls) (trD dst v s.env) m' (m'::s.gs))=some outs:=h
  by_cases hx:∃x,v=.pan x
  ·obtain⟨x,rfl⟩:=hx
   have h:bi (gh (.undef::s.ls) (trD dst .undef s.env)) (some [(⟨s.env,m',some x,[]⟩:EM)]) none=some outs:=h
   obtain⟨h2,h⟩:=p9 h
   cases h
   exact .inr ⟨o,x,m',rfl,h1,h2,rfl⟩
  ·rw [FL hx] at h
   exact .inl ⟨⟨v::s.ls,trD dst v s.env,m',m'::s.gs⟩,⟨v,rfl,rfl,h1,rfl,hx⟩,h⟩
def Waits (x:Nat×Inst)(p:Nat)(A:Nat→Prop):Prop:=(∃o,x.2.op=.e o)∨∃k,(Opd.loc k∈Et x.2.op∨∃wt,x.2.guard=some (.loc k,wt))∧A k
theorem uL {ds:List Bool}{i:Inst}(h:xB ds i=true):∃k,(Opd.loc k∈Et i.op∨∃wt,i.guard=some (.loc k,wt))∧ds.getD k false=true:=by
 have key:∀y,KT ds y=true→∃k,y=.loc k∧ds.getD k false=true:=fun y hy=>by
  cases y with
  | loc k=>exact⟨k,rfl,hy⟩
  | slot j=>cases hy
  | con c=>cases hy
 unfold xB at h
 rcases Bool.or_eq_true_iff.1 h with h | h
 ·obtain⟨y,hy,h⟩:=List.any_eq_true.1 h
  obtain⟨k,rfl,hk⟩:=key y h
  exact⟨k,.inl hy,hk⟩
 ·cases hg:i.guard with
  | none=>rw [hg] at h;cases h
  | some q=>
   obtain⟨y,wt⟩:=q
   rw [hg] at h
   obtain⟨k,rfl,hk⟩:=key y h
   exact⟨k,.inr ⟨wt,rfl⟩,hk⟩
theorem Jd {cf:y8}{b:Nat}:∀(l:List (Nat×Inst)) (ds:List Bool) (s:DS),Bz l ds s.ls s.env=true→
  ∃(S:Nat→DS) (D:Nat→Bool),S 0=s∧∀p x,l[p]?=some x→x.2.dst=none∧((D p=false∧DStep cf b x (S p) (S (p+1)))∨
   (D p=true∧GStep x (S p) (S (p+1))∧Waits x p fun k=>(∃q,q<p∧k=p-1-q∧D q=true)∨(p≤k∧ds.getD (k-p) false=true))):=by
 intro l
 induction l with
 | nil=>intro ds s _;exact⟨fun _=>s,fun _=>false,rfl,fun p x hp=>by simp at hp⟩
 | cons x l ih=>
  intro ds s h
  have step:∀(d0:Bool) (s1:DS),Bz l (d0::ds) s1.ls s1.env=true→x.2.dst=none→((d0=false∧DStep cf b x s s1)∨(d0=true∧GStep x s s1∧Waits x 0 fun k=>ds.getD k false=true))→
    ∃(S:Nat→DS) (D:Nat→Bool),S 0=s∧∀p y,(x::l)[p]?=some y→y.2.dst=none∧((D p=false∧DStep cf b y (S p) (S (p+1)))∨
     (D p=true∧GStep y (S p) (S (p+1))∧Waits y p fun k=>(∃q,q<p∧k=p-1-q∧D q=true)∨(p≤k∧ds.getD (k-p) false=true))):=by
   intro d0 s1 h1 hd h2
   obtain⟨S,D,g1,g2⟩:=ih (d0::ds) s1 h1
   refine⟨fun p=>match p with | 0=>s | p+1=>S p,fun p=>match p with | 0=>d0 | p+1=>D p,rfl,fun p y hp=>?_⟩
   cases p with
   | zero=>
    simp at hp;subst hp
    refine⟨hd,?_⟩
    show (d0=false∧DStep cf b x s (S 0))∨(d0=true∧GStep x s (S 0)∧_)
    rw [g1]
    rcases h2 with h2 | ⟨h2,h3,h4⟩
    ·exact .inl h2
    ·refine .inr ⟨h2,h3,?_⟩
     rcases h4 with h4 | ⟨k,h4,h5⟩
     ·exact .inl h4
     ·exact .inr ⟨k,h4,.inr ⟨Nat.zero_le _,by simpa using h5⟩⟩
   | succ p=>
    obtain⟨q1,q2⟩:=g2 p y (by simpa using hp)
    refine⟨q1,?_⟩
    rcases q2 with q2 | ⟨q2,q3,q4⟩
    ·exact .inl q2
    ·refine .inr ⟨q2,q3,?_⟩
     rcases q4 with q4 | ⟨k,q4,q5⟩
     ·exact .inl q4
     ·refine .inr ⟨k,q4,?_⟩
      rcases q5 with⟨q,r1,r2,r3⟩ | ⟨r1,r2⟩
      ·exact .inl ⟨q+1,by omega,by omega,r3⟩
      ·cases hk:k-p with
       | zero=>
        rw [hk] at r2
        exact .inl ⟨0,by omega,by omega,by simpa using r2⟩
       | succ j=>
        rw [hk] at r2
        exact .inr ⟨by omega,by rw [show k-(p+1)=j from by omega];simpa using r2⟩
  unfold Bz at h
  cases hd:x.2.dst with
  | some j=>rw [hd] at h;cases h
  | none=>
   rw [hd] at h
   have hsn:∀v:j3,trD x.2.dst v s.env=s.env:=fun v=>by rw [hd];rfl
   cases ho:x.2.op with
   | e o=>
    rw [ho] at h
    exact step true ⟨.undef::s.ls,s.env,s.m,s.m::s.gs⟩ h hd (.inr ⟨rfl,⟨.undef,rfl,(hsn _).symm,rfl,by simp [isE,ho],by simp [ho]⟩,.inl ⟨o,ho⟩⟩)
   | a o=>rw [ho] at h;cases h
   | r o=>
    rw [ho] at h
    cases hdd:xB ds x.2 with
    | false=>simp only [hdd,cond_false] at h;cases h
    | true=>
     simp only [hdd,cond_true] at h
     exact step true ⟨.undef::s.ls,s.env,s.m,s.gs⟩ h hd (.inr ⟨rfl,⟨.undef,rfl,(hsn _).symm,rfl,by simp [isE,ho],by simp [ho]⟩,.inr (uL hdd)⟩)
   | p o=>
    rw [ho] at h
    cases hdd:xB ds x.2 with
    | true=>
     simp only [hdd,cond_true] at h
     exact step true ⟨.undef::s.ls,s.env,s.m,s.gs⟩ h hd (.inr ⟨rfl,⟨.undef,rfl,(hsn _).symm,rfl,by simp [isE,ho],by simp [ho]⟩,.inr (uL hdd)⟩)
    | false=>
     simp only [hdd,cond_false] at h
     have h:(Option.rec false (fun v=>Bz l (false::ds) (v::s.ls) s.env) (Ej x.2.guard (trP o) s.ls s.env):Bool)=true:=h
     cases hv:Ej x.2.guard (trP o) s.ls s.env with
     | none=>rw [hv] at h;cases h
     | some v=>
      rw [hv] at h
      refine step false ⟨v::s.ls,s.env,s.m,s.gs⟩ h hd (.inl ⟨rfl,v,rfl,(hsn _).symm,?_⟩)
      rw [ho];exact⟨hv,rfl,rfl⟩
theorem FX {o:AOp}{l:List (Nat×Inst)}{ls:List j3}{env:T j3}(h:Ry o l ls env=true):Bz l [true] ls env=true:=by
 have key:(bif Ka l [true] then Bz l [true] else ghF) ls env=true→Bz l [true] ls env=true:=fun h=>by
  cases hg:Ka l [true] with
  | true=>rw [hg] at h;exact h
  | false=>rw [hg] at h;cases h
 unfold Ry at h
 split at h<;>first | exact key h | cases h
structure TH (cf:y8)(b:Nat)(l:List (Nat×Inst))(S:Nat→DS)(D:Nat→Bool)(N:Nat)(y:j3)(m':Mem):Prop where
 at_:∃x eo,l[N]?=some x∧x.2.op=.e eo∧Ir x.2.guard (trE eo) cf (S N).ls (S N).env (S N).m=some [⟨.pan y,m'⟩]
 lo:∀p,p<N→D p=false
 here:D N=true
 step:∀p x,l[p]?=some x→(D p=false∧DStep cf b x (S p) (S (p+1)))∨(N≤p∧D p=true∧GStep x (S p) (S (p+1))∧(p=N∨Waits x p fun k=>∃q,q<p∧k=p-1-q∧D q=true))
 dst:∀p x,N<p→l[p]?=some x→x.2.dst=none
theorem Dx {cf:y8}{b:Nat}:∀(l:List (Nat×Inst)) (s:DS) (outs:List EM),oG l cf b s.ls s.env s.m s.gs=some outs→
  ∃S:Nat→DS,S 0=s∧(((∀p x,l[p]?=some x→DStep cf b x (S p) (S (p+1)))∧outs=[⟨(S l.length).env,(S l.length).m,none,[]⟩])∨
   ∃N D y m',TH cf b l S D N y m'∧outs=[⟨(S N).env,m',some y,[]⟩]):=by
 intro l
 induction l with
 | nil=>
  intro s outs h
  have h:some [EM.mk s.env s.m none []]=some outs:=h
  cases h
  exact⟨fun _=>s,rfl,.inl ⟨fun p x hp=>by simp at hp,rfl⟩⟩
 | cons x l ih=>
  intro s outs h
  have h:Tx x.1 x.2.op x.2.dst x.2.guard (Ry x.2.op l) (oG l) cf b s.ls s.env s.m s.gs=some outs:=h
  rcases FW h with⟨s',h1,h2⟩ | ⟨eo,y,m',h1,h2,h3,h4⟩
  ·obtain⟨S,g1,g2⟩:=ih s' outs h2
   have hz:DStep cf b x s (S 0):=by rw [g1];exact h1
   refine⟨fun p=>match p with | 0=>s | p+1=>S p,rfl,?_⟩
   rcases g2 with⟨g2,g3⟩ | ⟨N,D,y,m',g2,g3⟩
   ·refine .inl ⟨fun p y hp=>?_,by simpa using g3⟩
    cases p with
    | zero=>simp at hp;subst hp;exact hz
    | succ p=>exact g2 p y (by simpa using hp)
   ·refine .inr ⟨N+1,fun p=>match p with | 0=>false | p+1=>D p,y,m',⟨?_,fun p hp=>?_,g2.here,fun p z hp=>?_,fun p z hN hp=>?_⟩,g3⟩
    ·obtain⟨z,eo,q1,q2,q3⟩:=g2.at_
     exact⟨z,eo,by simpa using q1,q2,q3⟩
    ·cases p with
     | zero=>rfl
     | succ p=>exact g2.lo p (by omega)
    ·cases p with
     | zero=>simp at hp;subst hp;exact .inl ⟨rfl,hz⟩
     | succ p=>
      rcases g2.step p z (by simpa using hp) with q | ⟨q1,q2,q3,q4⟩
      ·exact .inl q
      ·refine .inr ⟨by omega,q2,q3,?_⟩
       rcases q4 with rfl | q4 | ⟨k,q4,q,r1,r2,r3⟩
       ·exact .inl rfl
       ·exact .inr (.inl q4)
       ·exact .inr (.inr ⟨k,q4,q+1,by omega,by omega,r3⟩)
    ·cases p with
     | zero=>omega
     | succ p=>exact g2.dst p z (by omega) (by simpa using hp)
  ·have hE:isE x.2=true:=by simp [isE,h1]
   obtain⟨S,D,g1,g2⟩:=Jd (cf:=cf) (b:=b) l [true] ⟨.undef::s.ls,trD x.2.dst .undef s.env,s.m,s.m::s.gs⟩ (FX h3)
   refine⟨fun p=>match p with | 0=>s | p+1=>S p,rfl,.inr ⟨0,fun p=>match p with | 0=>true | p+1=>D p,y,m',⟨⟨x,eo,rfl,h1,h2⟩,fun p hp=>by omega,rfl,fun p z hp=>?_,fun p z hN hp=>?_⟩,h4⟩⟩
   ·cases p with
    | zero=>
     simp at hp;subst hp
     refine .inr ⟨Nat.le_refl _,rfl,?_,.inl rfl⟩
     show GStep x s (S 0)
     rw [g1]
     exact⟨.undef,rfl,rfl,rfl,by simp [hE],by simp [h1]⟩
    | succ p=>
     obtain⟨_,q⟩:=g2 p z (by simpa using hp)
     rcases q with q | ⟨q1,q2,q3⟩
     ·exact .inl q
     ·refine .inr ⟨by omega,q1,q2,.inr ?_⟩
      rcases q3 with q3 | ⟨k,q3,q4⟩
      ·exact .inl q3
      ·refine .inr ⟨k,q3,?_⟩
       rcases q4 with⟨q,r1,r2,r3⟩ | ⟨r1,r2⟩
       ·exact⟨q+1,by omega,by omega,r3⟩
       ·cases hk:k-p with
        | zero=>exact⟨0,by omega,by omega,rfl⟩
        | succ j=>rw [hk] at r2;simp at r2
   ·cases p with
    | zero=>omega
    | succ p=>exact (g2 p z (by simpa using hp)).1
def aY (ops:Array Oper)(ord:List Nat)(p:Nat):List (Option Nat):=((ord.take p).map fun i=>(ops[i]?).bind (·.dst)).reverse
theorem FY {P:Program}{slots:List Nat}{ops:Array Oper}:∀(l:List Nat) (done:List (Option Nat)) (insts:List Inst),eY P slots ops done l=some insts→
  insts.length=l.length∧∀p i,l[p]?=some i→∃x o,insts[p]?=some x∧ops[i]?=some o∧lD P slots (aY ops l p++done) ops i=some (x,o.dst):=by
 intro l
 induction l with
 | nil=>intro done insts h;simp only [eY,Option.some.injEq] at h;subst h;exact⟨rfl,fun p i hp=>by simp at hp⟩
 | cons j l ih=>
  intro done insts h
  obtain⟨x,d,l',hx,hl,rfl⟩:=gZ h
  obtain⟨h1,h2⟩:=ih _ _ hl
  obtain⟨o,ho,rfl,_⟩:=eD hx
  refine⟨by simp [h1],fun p i hp=>?_⟩
  cases p with
  | zero=>simp at hp;subst hp;exact⟨x,o,rfl,ho,by simpa [aY] using hx⟩
  | succ p=>
   obtain⟨x',o',g1,g2,g3⟩:=h2 p i (by simpa using hp)
   refine⟨x',o',by simpa using g1,g2,?_⟩
   have:aY ops (j::l) (p+1)++done=aY ops l p++o.dst::done:=by simp [aY,ho]
   rw [this];exact g3
theorem Au (ms:List Nat):∀(l:List (Nat×Inst)) (effs:List Nat) (nal:Nat),(numbered ms l effs nal).length=l.length∧
  ∀p i x,l[p]?=some (i,x)→∃c,(numbered ms l effs nal)[p]?=some (c,x)∧
   (isR x=true→c=(((((l.take p).filter fun y=>isE y.2).map (·.1)).reverse++effs).takeWhile fun e=>!mOf ms i e).length)∧
   (isR x=false→c=nal+((l.take p).filter fun y=>isA y.2).length):=by
 intro l
 induction l with
 | nil=>intro effs nal;exact⟨rfl,fun p i x hp=>by simp at hp⟩
 | cons z l ih=>
  intro effs nal
  obtain⟨j,y⟩:=z
  obtain⟨h1,h2⟩:=ih (if isE y then j::effs else effs) (if isA y then nal+1 else nal)
  refine⟨by simp [numbered,h1],fun p i x hp=>?_⟩
  cases p with
  | zero=>
   simp at hp
   obtain⟨rfl,rfl⟩:=hp
   exact⟨_,rfl,fun h=>by simp [TA,h],fun h=>by simp [TA,h]⟩
  | succ p=>
   obtain⟨c,g1,g2,g3⟩:=h2 p i x (by simpa using hp)
   refine⟨c,by simpa [numbered] using g1,fun h=>?_,fun h=>?_⟩
   ·rw [g2 h]
    cases hy:isE y<;>simp [hy]
   ·rw [g3 h]
    cases hy:isA y<;>simp [hy];omega
def Mem.sub (m m':Mem):Prop:=∀i b,m.get i=some b→ah b=false→m'.get i=some b
theorem gB {β:Type}{m m':Mem}(h:m.sub m'){i:Nat}{k:Nat→Nat→T (List j3)→Option β}{r:β}(hv:K5 (m.get i) k=some r):K5 (m'.get i) k=some r:=by
 obtain⟨rs,n,rows,h1,h2⟩:=Q6 hv
 rw [h i _ h1 rfl];exact h2
theorem FZ {β:Type}{m m':Mem}(h:m.sub m'){i:Nat}{k:List (j3×j3)→Option β}{r:β}(hv:vEs (m.get i) k=some r):vEs (m'.get i) k=some r:=by
 obtain⟨es,h1,h2⟩:=uo hv
 rw [h i _ h1 rfl];exact h2
theorem Je {β:Type}{m m':Mem}(h:m.sub m'){i:Nat}{k:List (j3×j3)→Option β}{r:β}(hv:JW (m.get i) k=some r):JW (m'.get i) k=some r:=by
 obtain⟨es,h1 | h1,h2⟩:=vV hv
 all_goals (rw [h i _ h1 rfl];exact h2)
theorem oZ {m m':Mem}(h:m.sub m'){i off n:Nat}{l:List j3}(hv:I7 m i off n=some l):I7 m' i off n=some l:=by
 cases n with
 | zero=>exact hv
 | succ n=>exact gB h (k:=fun rs k rows=>H7 rs k rows (n+1) off) hv
theorem Ll {m m':Mem}(h:m.sub m'){o:ROp}{ls:List j3}{env:T j3}{v:j3}(hv:trR o ls env m=some v):trR o ls env m'=some v:=by
 cases o with
 | load size x=>
  cases size with
  | none=>
   obtain⟨id,off,h1,hv⟩:=V6 hv
   have h1:trO x ls env=.ptr id off:=h1
   show iP (trO x ls env) _=_
   rw [h1];exact gB h hv
  | some k=>
   obtain⟨id,off,h1,hv⟩:=V6 hv
   have h1:trO x ls env=.ptr id off:=h1
   show iP (trO x ls env) _=_
   rw [h1];exact gB h hv
 | look kk z ok x y=>
  rcases nH hv with⟨h1,hv⟩ | ⟨id,h1,hv⟩
  ·have h1:trO x ls env=.nilMap:=h1
   show zH (trO x ls env) _ _=_
   rw [h1];exact hv
  ·have h1:trO x ls env=.map id:=h1
   show zH (trO x ls env) _ _=_
   rw [h1];exact Je h hv
 | slData x=>exact hv
 | toUns x=>
  change oF (trO x) ls env m=some v at hv
  show oF (trO x) ls env m'=some v
  unfold oF at hv ⊢
  split at hv
  ·exact hv
  ·exact gB h hv
  ·cases hv
 | fromUns l x=>
  change eU l (trO x) ls env m=some v at hv
  show eU l (trO x) ls env m'=some v
  unfold eU at hv ⊢
  split at hv
  ·exact hv
  ·exact gB h hv
  ·cases hv
 | lenM x=>
  rcases nH hv with⟨h1,hv⟩ | ⟨id,h1,hv⟩
  ·have h1:trO x ls env=.nilMap:=h1
   show zH (trO x ls env) _ _=_
   rw [h1];exact hv
  ·have h1:trO x ls env=.map id:=h1
   show zH (trO x ls env) _ _=_
   rw [h1];exact FZ h hv
 | bytesStr x=>
  rcases lN hv with⟨h1,hv⟩ | ⟨id,off,len,cap,h1,hv⟩ | ⟨id,off,len,cap,h1,hv⟩
  ·have h1:trO x ls env=.nilSlice:=h1
   show vSl (trO x ls env) _ _ _=_
   rw [h1];exact hv
  ·have h1:trO x ls env=.slice id off len cap:=h1
   show vSl (trO x ls env) _ _ _=_
   rw [h1]
   obtain⟨l,h2,hv⟩:=r9 hv
   show ob (I7 m' id off len) _=_
   rw [oZ h h2];exact hv
  ·have h1:trO x ls env=.sliceU id off len cap:=h1
   show vSl (trO x ls env) _ _ _=_
   rw [h1]
   obtain⟨l,h2,hv⟩:=r9 hv
   show ob (I7 m' id off len) _=_
   rw [oZ h h2];exact hv
 | entry x=>
  obtain⟨id,off,h1,hv⟩:=V6 hv
  have h1:trO x ls env=.ptr id off:=h1
  show iP (trO x ls env) _=_
  rw [h1]
  obtain⟨h2,hv⟩:=p9 hv
  show bi (Nat.beq off 0) _ none=_
  rw [h2]
  rcases vX hv with⟨_,_,_,hv⟩ | ⟨mp,since,seen,h3,hv⟩
  ·cases hv
  ·show CQ (m'.get id) _ _=_
   rw [h id _ h3 rfl]
   cases seen with
   | nil=>cases hv
   | cons i t=>exact FZ h hv
theorem eH {f:j3→j3→Bool}(hf:∀x y,f x y=true→x=y):∀a b:List j3,El f a b=true→a=b
 | [],[],_=>rfl
 | [],y::b,h=>by cases h
 | x::a,[],h=>by cases h
 | x::a,y::b,h=>by
  have h:bi (f x y) (El f a b) false=true:=h
  cases hx:f x y with
  | false=>rw [hx] at h;cases h
  | true=>rw [hx] at h;rw [hf x y hx,eH hf a b h]
theorem V4 {a b:Bool}(h:bi a b false=true):a=true∧b=true:=by cases a<;>cases b<;>first | exact⟨rfl,rfl⟩ | cases h
theorem bC:∀(n:Nat) (x y:j3),jW n x y=true→x=y:=by
 intro n
 induction n with
 | zero=>intro x y h;cases h
 | succ n ih=>
  intro x y h
  cases x with
  | bool a=>cases y<;>first | (cases h;done) | (have h:xk _ _=true:=h;rw [qK] at h;rw [eq_of_beq h])
  | int k a=>
   cases y<;>first | (cases h;done) | skip
   obtain⟨h1,h2⟩:=V4 (a:=kEq _ _) (b:=aG _ _) h
   rw [EY] at h1;rw [bI] at h2
   rw [of_decide_eq_true h1,eq_of_beq h2]
  | str a=>cases y<;>first | (cases h;done) | (have h:strEq _ _=true:=h;rw [bK] at h;rw [eq_of_beq h])
  | ptr a b=>
   cases y<;>first | (cases h;done) | skip
   obtain⟨h1,h2⟩:=V4 (a:=Nat.beq _ _) (b:=Nat.beq _ _) h
   rw [Nat.eq_of_beq_eq_true h1,Nat.eq_of_beq_eq_true h2]
  | slice a b c d=>
   cases y<;>first | (cases h;done) | skip
   obtain⟨h1,h⟩:=V4 (a:=Nat.beq _ _) h
   obtain⟨h2,h⟩:=V4 (a:=Nat.beq _ _) h
   obtain⟨h3,h4⟩:=V4 (a:=Nat.beq _ _) h
   rw [Nat.eq_of_beq_eq_true h1,Nat.eq_of_beq_eq_true h2,Nat.eq_of_beq_eq_true h3,Nat.eq_of_beq_eq_true h4]
  | sliceU a b c d=>
   cases y<;>first | (cases h;done) | skip
   obtain⟨h1,h⟩:=V4 (a:=Nat.beq _ _) h
   obtain⟨h2,h⟩:=V4 (a:=Nat.beq _ _) h
   obtain⟨h3,h4⟩:=V4 (a:=Nat.beq _ _) h
   rw [Nat.eq_of_beq_eq_true h1,Nat.eq_of_beq_eq_true h2,Nat.eq_of_beq_eq_true h3,Nat.eq_of_beq_eq_true h4]
  | map a=>cases y<;>first | (cases h;done) | (have h:Nat.beq _ _=true:=h;rw [Nat.eq_of_beq_eq_true h])
  | func fn a b=>
   cases fn<;>cases y<;>first | (cases h;done) | skip
   all_goals
   rename_i f fn' c d
   cases fn'<;>first | (cases h;done) | skip
   obtain⟨h1,h⟩:=V4 (a:=Nat.beq _ _) h
   obtain⟨h2,h3⟩:=V4 h
   rw [Nat.eq_of_beq_eq_true h1,eH ih _ _ h2,eH ih _ _ h3]
  | iface t a=>
   cases y<;>first | (cases h;done) | skip
   obtain⟨h1,h2⟩:=V4 (a:=Nat.beq _ _) h
   rw [Nat.eq_of_beq_eq_true h1,ih _ _ h2]
  | agg a=>cases y<;>first | (cases h;done) | (rw [eH ih _ _ h])
  | tuple a=>cases y<;>first | (cases h;done) | (rw [eH ih _ _ h])
  | _=>cases y<;>first | rfl | (cases h;done)
theorem rJ {f:RF}{ls:List j3}{env:T j3}{v:j3}:∀{n:Nat} {gs:List Mem},stable f ls env v n gs=true→∀k,k<n→∃g,gs[k]?=some g∧f ls env g=some v
 | 0,_,_,k,hk=>by omega
 | n+1,[],h,k,hk=>by cases h
 | n+1,g::gs,h,k,hk=>by
  have h:bi (Option.rec false (fun u=>jW 100 u v) (f ls env g)) (stable f ls env v n gs) false=true:=h
  obtain⟨h1,h2⟩:=V4 h
  cases k with
  | zero=>
   refine⟨g,rfl,?_⟩
   cases hf:f ls env g with
   | none=>rw [hf] at h1;cases h1
   | some u=>rw [hf] at h1;rw [bC 100 u v h1]
  | succ k=>
   obtain⟨g',h3,h4⟩:=rJ h2 k (by omega)
   exact⟨g',by simpa using h3,h4⟩
theorem kM {b:Option Blk}(h:isVoid b=true):b=some .void:=by
 unfold isVoid at h
 split at h
 ·rfl
 ·cases h
theorem pq {i:Nat}:∀{gs:List Mem},iV i gs=true→∀g∈gs,g.get i=some .void
 | [],_,g,hg=>by cases hg
 | x::gs,h,g,hg=>by
  obtain⟨h1,h2⟩:=V4 (a:=isVoid (x.get i)) (b:=iV i gs) h
  rcases List.mem_cons.1 hg with rfl | hg
  ·exact kM h1
  ·exact pq h2 g hg
section
variable {P:Program}{G:Mem}{ι:Inj}{m:Mem}{w:World}
theorem yJ (m:Mem):reserve 0 m=m:=rfl
theorem yK (n:Nat)(m:Mem):reserve (n+1) m=reserve n (m.new .void):=rfl
theorem wF (h:RM P G ι m w.heap):Step P G ι m w ι (m.new .void) w:=by
 have hget:=Mem.D7 h.ok .void
 have hne:∀i x,m.get i=some x→i≠m.next:=fun i x hx e=>by have:=Mem.y9 h.ok hx;omega
 have hhas:∀i,m.has i→(m.new .void).has i:=fun i ⟨x,hx,hv⟩=>⟨x,by rw [hget,if_neg (hne i x hx)];exact hx,hv⟩
 have hold:∀i x,(m.new .void).get i=some x→K8 x=true→m.get i=some x:=fun i x hx hl=>by
  rw [hget] at hx
  split at hx
  ·cases hx;cases hl
  ·exact hx
 refine⟨⟨h.ok.push .void,?_,?_,h.glim,Nat.le_succ_of_le h.limn,h.gle,fun i hi=>by rw [hget,if_neg (by have:=h.glim;have:=h.limn;omega)];exact h.base i hi,fun i hi=>hhas i (h.ghas i hi),h.glob,fun i x hx hl=>h.spot i x (hold i x hx hl) hl,h.gsz⟩,
  fun _ _=>rfl,hhas,Nat.le_succ _,rfl,fun i hi=>by rw [hget,if_neg (by have:=h.limn;omega)],Nat.le_refl _,fun _ _ _=>rfl,?_,rfl,rfl,rfl⟩
 ·intro i x hx
  rw [hget] at hx
  split at hx
  ·cases hx;trivial
  ·exact (h.blk i x hx).mono (n:=m.nm ι) (fun _ _=>rfl) (Mem.O6 hhas fun _ _=>rfl) fun _=>rfl
 ·intro i x hi hx hl
  have ho:=h.own i x hi (hold i x hx hl) hl
  exact⟨fun j y hj hy hly=>ho.alone j y hj (hold j y hy hly) hly,ho.free⟩
 ·rintro b ⟨i,x,hi,hx,hl,rfl⟩
  exact .inl ⟨i,x,hi,hold i x hx hl,hl,rfl⟩
theorem pz:∀(n:Nat) {m:Mem},RM P G ι m w.heap→Step P G ι m w ι (reserve n m) w
 | 0,_,h=>Step.refl h
 | n+1,_,h=>(wF h).trans (pz n (wF h).rm)
structure ae1 (P:Program)(ι:Inj)(n:Nm)(h:Array Obj)(id:Nat)(b:Blk)(m:Mem):Prop where
 blk:Z9 P ι n h (ι id) b
 live:ah b=false
 alone:K8 b=true→∀j y,j≠id→m.get j=some y→K8 y=true→(ι j).b≠(ι id).b
 free:K8 b=true→∀c e fz,h[(ι id).b]?=some (.cells c e fz)→∀k,k<c.size→¬ (fz.1≤k∧k<fz.2)
 spot:K8 b=true→(ι id).spot=none
theorem Step.add {ι0:Inj}{m0:Mem}{w0:World}(hst:Step P G ι0 m0 w0 ι m w){id:Nat}{b:Blk}(hv:m.get id=some .void)(hid:m.lim≤id)(hl:ae1 P ι ((m.set id b).nm ι) w.heap id b m)
  (hnew:K8 b=true→w0.heap.size≤(ι id).b):Step P G ι0 m0 w0 ι (m.set id b) w:=by
 have h:=hst.rm
 have hlt:=Mem.y9 h.ok hv
 have hget:=Mem.K4 h.ok hlt b
 have hnv:¬ m.has id:=fun ⟨x,h1,h2⟩=>by rw [hv] at h1;cases h1;cases h2
 have hhas:∀i,m.has i→(m.set id b).has i:=fun i hi=>by
  have hne:i≠id:=fun e=>hnv (e▸hi)
  obtain⟨x,h1,h2⟩:=hi
  exact⟨x,by rw [hget,if_neg hne];exact h1,h2⟩
 have hcase:∀i x,(m.set id b).get i=some x→(i=id∧x=b)∨(i≠id∧m.get i=some x):=fun i x hx=>by
  rw [hget] at hx
  split at hx
  ·cases hx;exact .inl ⟨by assumption,rfl⟩
  ·exact .inr ⟨by assumption,hx⟩
 refine⟨⟨h.ok.put id b hlt,?_,?_,h.glim,h.limn,h.gle,fun i hi=>by rw [hget,if_neg (by have:=h.glim;omega)];exact h.base i hi,fun i hi=>hhas i (h.ghas i hi),h.glob,fun i x hx hlx=>by
   rcases hcase i x hx with⟨rfl,rfl⟩ | ⟨_,hx⟩
   ·exact hl.spot hlx
   ·exact h.spot i x hx hlx,h.gsz⟩,
  hst.ext,fun i hi=>hhas i (hst.has i hi),hst.next,hst.lim,fun i hi=>by rw [hget,if_neg (by have:=hst.lim;omega)];exact hst.old i hi,hst.size,hst.frame,?_,hst.os,hst.out,hst.tape⟩
 ·intro i x hx
  rcases hcase i x hx with⟨rfl,rfl⟩ | ⟨hne,hx⟩
  ·exact hl.blk
  ·exact (h.blk i x hx).mono (n:=m.nm ι) (fun _ _=>rfl) (Mem.O6 hhas fun _ _=>rfl) fun _=>rfl
 ·intro i x hi hx hlx
  rcases hcase i x hx with⟨rfl,rfl⟩ | ⟨hne,hx⟩
  ·refine⟨fun j y hj hy hly=>?_,hl.free hlx⟩
   rcases hcase j y hy with⟨h1,_⟩ | ⟨h1,h2⟩
   ·exact absurd h1 hj
   ·exact hl.alone hlx j y hj h2 hly
  ·rename_i hx'
   have ho:=h.own i x hi hx hlx
   refine⟨fun j y hj hy hly=>?_,ho.free⟩
   rcases hcase j y hy with⟨rfl,rfl⟩ | ⟨h1,h2⟩
   ·exact fun e=>hl.alone hly i x hne hx hlx e.symm
   ·exact ho.alone j y hj h2 hly
 ·rintro b' ⟨i,x,hi,hx,hlx,rfl⟩
  rcases hcase i x hx with⟨rfl,rfl⟩ | ⟨hne,hx⟩
  ·exact .inr (hnew hlx)
  ·exact hst.own _ ⟨i,x,hi,hx,hlx,rfl⟩
theorem Step.push {ι':Inj}{w':World}{o:Obj}(h:RM P G ι m w.heap)(hw:OG w w' o)(hext:∀i,m.has i→ι' i=ι i):Step P G ι m w ι' m w':=by
 have hpush:∀k,k<w.heap.size→w'.heap[k]?=w.heap[k]?:=fun k hk=>by rw [hw.heap];exact (Array.getElem?_push_lt hk).trans (Array.getElem?_eq_getElem hk).symm
 have hnm:(m.nm ι).le (m.nm ι'):=Mem.O6 (fun i hi=>hi) hext
 have hlive:∀i x,m.get i=some x→K8 x=true→ι' i=ι i:=fun i x hx hl=>hext i (jE hx hl)
 refine⟨⟨h.ok,?_,?_,h.glim,h.limn,h.gle,h.base,h.ghas,fun i hi=>by rw [hext i (h.ghas i hi)];exact h.glob i hi,fun i x hx hl=>by rw [hlive i x hx hl];exact h.spot i x hx hl,h.EX fun k hk _=>hpush k hk⟩,hext,fun i hi=>hi,Nat.le_refl _,rfl,fun _ _=>rfl,by rw [hw.heap];simp,fun b hb _=>hpush b hb,?_,hw.os,hw.out,hw.tape⟩
 ·intro i x hx
  by_cases hv:ah x=true
  ·cases x<;>first | trivial | cases hv
  ·rw [hext i ⟨x,hx,by simpa using hv⟩]
   exact (h.blk i x hx).mono (n:=m.nm ι) hext hnm fun hl=>hpush _ (R9 (h.blk i x hx) hl)
 ·intro i x hi hx hl
  have ho:=h.own i x hi hx hl
  have hb:=R9 (h.blk i x hx) hl
  refine⟨fun j y hj hy hly=>?_,fun c e fz hc=>?_⟩
  ·rw [hlive i x hx hl,hlive j y hy hly];exact ho.alone j y hj hy hly
  ·rw [hlive i x hx hl,hpush _ hb] at hc;exact ho.free c e fz hc
 ·rintro b ⟨i,x,hi,hx,hl,rfl⟩
  rw [hlive i x hx hl]
  exact .inl ⟨i,x,hi,hx,hl,rfl⟩
end
section
variable {P:Program}{G:Mem}{slots:List Nat}{nt:Nat}{cf:y8}{b:Nat}{ops:Array Oper}{ord:List Nat}{X:Nat→Nat×Inst}{S:Nat→DS}
def Ga (ops:Array Oper)(ord:List Nat)(X:Nat→Nat×Inst)(p i:Nat):Opd→Prop
 | .loc k=>∃j,k<p∧ord[p-1-k]?=some j∧Dep ops i j
 | .slot j=>∀q,q<p→(X q).2.dst≠some j
 | .con _=>True
def BR (ord:List Nat)(X:Nat→Nat×Inst):Nat→List Nat
 | 0=>[]
 | p+1=>if isE (X p).2 then (ord.getD p 0)::BR ord X p else BR ord X p
structure Fixed (P:Program)(slots:List Nat)(nt:Nat)(cf:y8)(b:Nat)(ops:Array Oper)(ord:List Nat)(X:Nat→Nat×Inst)(S:Nat→DS):Prop where
 nodup:ord.Nodup
 all:∀i,i<ops.size→i∈ord
 lt:∀i∈ord,i<ops.size
 inst:∀(p i:Nat),ord[p]?=some i→∃o,ops[i]?=some o∧(X p).2.op=ng P slots (aY ops ord p) o.op∧(X p).2.dst=Iy slots o.dst∧gX ops (aY ops ord p) o.guard (X p).2.guard
 step:∀p,p<ord.length→FV cf b (X p) (S p) (S (p+1))
 eff:∀(p i:Nat),ord[p]?=some i→isE (X p).2=true→∀(q j:Nat),q<p→ord[q]?=some j→Dep ops i j
 edges:∀(p i:Nat) (o:Oper),ord[p]?=some i→ops[i]?=some o→∀e∈o.after,Region.binds .any e=true→∃q:Nat,q<p∧ord[q]?=some e.on
 dsts:∀(i j:Nat) (oi oj:Oper) (t:Tmp),ops[i]?=some oi→ops[j]?=some oj→oi.dst=some t→oj.dst=some t→i=j
 looks:∀(i:Nat) (o:Oper) (t:Tmp),ops[i]?=some o→t∈qG ops o→∀(q:Nat) (oq:Oper),ops[q]?=some oq→q≠i→oq.dst=some t→Dep ops i q∨Dep ops q i
 opd:∀(p i:Nat),ord[p]?=some i→∀y∈Et (X p).2.op,Ga ops ord X p i y
 opdg:∀(p i:Nat) (y:Opd) (wt:Bool),ord[p]?=some i→(X p).2.guard=some (y,wt)→Ga ops ord X p i y
 cnt:∀(p i:Nat) o,ord[p]?=some i→(X p).2.op=.r o→(X p).1=((BR ord X p).takeWhile fun e=>!mOf (masks ops.toList) i e).length
 nal:∀(p q:Nat) o o',p<q→q<ord.length→(X p).2.op=.a o→(X q).2.op=.a o'→(X p).1<(X q).1
 din:∀(i:Nat) (o:Oper) (t:Tmp),ops[i]?=some o→o.dst=some t→t<nt
 gs0:(S 0).gs=[(S 0).m]
 ls0:(S 0).ls=[]
def Vof (S:Nat→DS)(p:Nat):j3:=(S (p+1)).ls.headD .undef
def fG (b:Nat)(X:Nat→Nat×Inst)(S:Nat→DS)(p:Nat):Option (Nat×Blk):=match (X p).2.op with
 | .a o=>match KR (X p).2.guard (trL o) (S p).ls (S p).env (b+(X p).1) with
  | some (_,some blk)=>some (b+(X p).1,blk)
  | _=>none
 | _=>none
def aT (b:Nat)(X:Nat→Nat×Inst)(S:Nat→DS)(q:Nat)(L:Nat→Bool):Nat→Mem
 | 0=>(S q).m
 | d+1=>if L (q+d) then (match fG b X S (q+d) with
    | some (i,blk)=>(aT b X S q L d).set i blk
    | none=>aT b X S q L d)
  else aT b X S q L d
theorem Jf {x:Nat×Inst}{s s':DS}(h:FV cf b x s s'):∃v,s'.ls=v::s.ls∧s'.env=trD x.2.dst v s.env:=by
 rcases h with⟨v,h1,h2,_⟩ | ⟨v,h1,h2,_⟩<;>exact⟨v,h1,h2⟩
theorem BS {x:Nat×Inst}{s s':DS}(h:FV cf b x s s'):s'.gs=if isE x.2=true then s'.m::s.gs else s.gs:=by
 rcases h with⟨v,h1,h2,h3⟩ | ⟨v,_,_,_,h4,_⟩
 ·cases hop:x.2.op with
  | p o=>rw [hop] at h3;simp [isE,hop,h3.2.2]
  | r o=>rw [hop] at h3;simp [isE,hop,h3.2.2.2]
  | a o=>rw [hop] at h3;obtain⟨_,_,_,_,_,_,h⟩:=h3;simp [isE,hop,h]
  | e o=>rw [hop] at h3;simp [isE,hop,h3.2.1]
 ·exact h4
theorem Fixed.ls (F:Fixed P slots nt cf b ops ord X S){p:Nat}(hp:p<ord.length):(S (p+1)).ls=Vof S p::(S p).ls∧(S (p+1)).env=trD (X p).2.dst (Vof S p) (S p).env:=by
 obtain⟨v,h1,h2⟩:=Jf (F.step p hp)
 have:Vof S p=v:=by simp [Vof,h1]
 rw [this];exact⟨h1,h2⟩
theorem Fixed.len (F:Fixed P slots nt cf b ops ord X S):∀p,p≤ord.length→(S p).ls.length=p∧∀k,k<p→(S p).ls[k]?=some (Vof S (p-1-k)):=by
 intro p
 induction p with
 | zero=>intro _;exact⟨by rw [F.ls0];rfl,fun k hk=>by omega⟩
 | succ p ih=>
  intro hp
  obtain⟨h1,h2⟩:=ih (by omega)
  obtain⟨h3,_⟩:=F.ls (p:=p) (by omega)
  rw [h3]
  refine⟨by simp [h1],fun k hk=>?_⟩
  cases k with
  | zero=>simp
  | succ k=>
   rw [List.getElem?_cons_succ,h2 k (by omega),show p+1-1-(k+1)=p-1-k from by omega]
theorem Fixed.gs (F:Fixed P slots nt cf b ops ord X S){q:Nat}(hq:q=0∨isE (X (q-1)).2=true):∀d,q+d≤ord.length→
  ∃r:Nat,(S (q+d)).gs[r]?=some (S q).m∧∀k:Nat,k<r→∃pos e,q≤pos∧pos<q+d∧ord[pos]?=some e∧isE (X pos).2=true∧(BR ord X (q+d))[k]?=some e:=by
 intro d
 induction d with
 | zero=>
  intro hd
  refine⟨0,?_,fun k hk=>by omega⟩
  rcases hq with rfl | hq
  ·rw [Nat.add_zero,F.gs0];rfl
  ·cases q with
   | zero=>rw [Nat.add_zero,F.gs0];rfl
   | succ q=>
    have hs:=BS (F.step q (by omega))
    simp only [Nat.add_sub_cancel] at hq
    rw [if_pos hq] at hs
    rw [Nat.add_zero,hs];rfl
 | succ d ih=>
  intro hd
  obtain⟨r,h1,h2⟩:=ih (by omega)
  have hs:=BS (F.step (q+d) (by omega))
  have hpos:q+d<ord.length:=by omega
  have hget:ord[q+d]?=some (ord.getD (q+d) 0):=by
   rw [List.getD_eq_getElem?_getD,List.getElem?_eq_getElem hpos];rfl
  cases he:isE (X (q+d)).2 with
  | true=>
   have hgs:(S (q+(d+1))).gs=(S (q+(d+1))).m::(S (q+d)).gs:=by
    rw [if_pos he] at hs;exact hs
   refine⟨r+1,by rw [hgs];simpa using h1,fun k hk=>?_⟩
   have heff:BR ord X (q+(d+1))=ord.getD (q+d) 0::BR ord X (q+d):=by
    show BR ord X (q+d+1)=_
    simp [BR,he]
   cases k with
   | zero=>exact⟨q+d,_,by omega,by omega,hget,he,by rw [heff];rfl⟩
   | succ k=>
    obtain⟨pos,e,g1,g2,g3,g4,g5⟩:=h2 k (by omega)
    exact⟨pos,e,g1,by omega,g3,g4,by rw [heff];simpa using g5⟩
  | false=>
   have hgs:(S (q+(d+1))).gs=(S (q+d)).gs:=by
    rw [if_neg (by rw [he];exact Bool.false_ne_true)] at hs;exact hs
   refine⟨r,by rw [hgs];exact h1,fun k hk=>?_⟩
   obtain⟨pos,e,g1,g2,g3,g4,g5⟩:=h2 k hk
   refine⟨pos,e,g1,by omega,g3,g4,?_⟩
   have:BR ord X (q+(d+1))=BR ord X (q+d):=by show BR ord X (q+d+1)=_;simp [BR,he]
   rw [this];exact g5
theorem mD {α:Type}(f:α→Bool):∀(l:List α) (r:Nat),(∀k,k<r→∃e,l[k]?=some e∧f e=true)→r≤(l.takeWhile f).length
 | _,0,_=>Nat.zero_le _
 | [],r+1,h=>by obtain⟨e,h1,_⟩:=h 0 (by omega);simp at h1
 | x::l,r+1,h=>by
  obtain⟨e,h1,h2⟩:=h 0 (by omega)
  simp at h1;subst h1
  rw [List.takeWhile_cons,if_pos h2]
  have:=mD f l r (fun k hk=>by obtain⟨e,h3,h4⟩:=h (k+1) (by omega);exact⟨e,by simpa using h3,h4⟩)
  simpa using this
theorem Fixed.made (F:Fixed P slots nt cf b ops ord X S){p:Nat}(hp:p<ord.length){i:Nat}{blk:Blk}(h:fG b X S p=some (i,blk)):
  i=b+(X p).1∧(∃o,(X p).2.op=.a o∧KR (X p).2.guard (trL o) (S p).ls (S p).env (b+(X p).1)=some (Vof S p,some blk))∧(S (p+1)).m=(S p).m.set i blk∧(S p).m.get i=some .void∧∀g∈(S p).gs,g.get i=some .void:=by
 have hst:=F.step p hp
 unfold fG at h
 split at h
 ·rename_i o ho
  obtain⟨v,h1,h2,hs⟩:=hst.resolve_right fun ⟨_,_,_,_,_,hh⟩=>hh o ho
  have hv:Vof S p=v:=by simp [Vof,h1]
  rw [ho] at hs
  obtain⟨r,g1,g2,g3,g4,g5,g6⟩:=hs
  rw [g1] at h
  obtain⟨u,bl⟩:=r
  cases bl with
  | none=>cases h
  | some bl=>
   cases h
   exact⟨rfl,⟨o,ho,by rw [g1,hv,g2]⟩,g5,kM g3,pq g4⟩
 ·cases h
theorem Fixed.Dy (F:Fixed P slots nt cf b ops ord X S){p q:Nat}(hp:p<q)(hq:q<ord.length){i j:Nat}{x y:Blk}(h:fG b X S p=some (i,x))(h':fG b X S q=some (j,y)):i<j:=by
 obtain⟨h1,⟨o,h2,_⟩,_⟩:=F.made (by omega) h
 obtain⟨h3,⟨o',h4,_⟩,_⟩:=F.made hq h'
 have:=F.nal p q o o' hp hq h2 h4
 omega
theorem Fixed.quiet (F:Fixed P slots nt cf b ops ord X S){p:Nat}(hp:p<ord.length)(he:isE (X p).2=false):(S (p+1)).m=(match fG b X S p with | some (i,blk)=>(S p).m.set i blk | none=>(S p).m):=by
 cases hm:fG b X S p with
 | some y=>obtain⟨i,blk⟩:=y;exact (F.made hp hm).2.2.1
 | none=>
  rcases F.step p hp with⟨v,_,_,hs⟩ | ⟨_,_,_,hh,_,_⟩
  case inr=>exact hh
  cases hop:(X p).2.op with
  | p o=>rw [hop] at hs;exact hs.2.1
  | r o=>rw [hop] at hs;exact hs.2.2.1
  | e o=>simp [isE,hop] at he
  | a o=>
   rw [hop] at hs
   obtain⟨r,g1,_,_,_,g5,_⟩:=hs
   rw [g5]
   obtain⟨u,bl⟩:=r
   cases bl with
   | none=>rfl
   | some bl=>simp [fG,hop,g1] at hm
theorem T.nT {α:Type}:∀(t:T α) (i:Nat) {x:α},t.get i=some x→∀(v:α) (j:Nat),(t.put i v).get j=if j=i then some v else t.get j
 | .e,i,x,h,v,j=>by cases h
 | .nd l y r,i,x,h,v,j=>by
  have hl:=fun i x (h:l.get i=some x)=>T.nT l i h
  have hr:=fun i x (h:r.get i=some x)=>T.nT r i h
  cases i with
  | zero=>
   cases j with
   | zero=>rfl
   | succ j=>rw [if_neg (by omega)];rfl
  | succ i=>
   have hm:Nat.mod i 2=0∨Nat.mod i 2=1:=by have:Nat.mod i 2<2:=Nat.mod_lt _ (by omega);omega
   have hmj:Nat.mod j.pred 2=0∨Nat.mod j.pred 2=1:=by have:Nat.mod j.pred 2<2:=Nat.mod_lt _ (by omega);omega
   have hg:(T.nd l y r).get (i+1)=(Nat.rec (l.get (Nat.div i 2)) (fun _ _=>r.get (Nat.div i 2)) (Nat.mod i 2):Option α):=rfl
   have hp:(T.nd l y r).put (i+1) v=(Nat.rec (.nd (l.put (Nat.div i 2) v) y r) (fun _ _=>.nd l y (r.put (Nat.div i 2) v)) (Nat.mod i 2):T α):=rfl
   rw [hg] at h
   rw [hp]
   have hgj:∀(a b:T α) (k:Nat),(T.nd a y b).get (k+1)=(Nat.rec (a.get (Nat.div k 2)) (fun _ _=>b.get (Nat.div k 2)) (Nat.mod k 2):Option α):=fun _ _ _=>rfl
   rcases hm with hm | hm
   ·rw [hm] at h ⊢
    cases j with
    | zero=>rw [if_neg (by omega)];rfl
    | succ k=>
     show (T.nd (l.put (Nat.div i 2) v) y r).get (k+1)=_
     rw [hgj,hgj]
     rcases hmj with hk | hk<;>rw [show Nat.pred (k+1)=k from rfl] at hk<;>rw [hk]
     ·show (l.put (Nat.div i 2) v).get (Nat.div k 2)=if k+1=i+1 then some v else l.get (Nat.div k 2)
      rw [hl _ x h v]
      have e:Nat.div k 2=Nat.div i 2↔k+1=i+1:=by
       have h1:Nat.mod k 2=k%2:=rfl
       have h2:Nat.mod i 2=i%2:=rfl
       have h3:Nat.div k 2=k / 2:=rfl
       have h4:Nat.div i 2=i / 2:=rfl
       omega
      by_cases hh:k+1=i+1
      ·rw [if_pos hh,if_pos (e.2 hh)]
      ·rw [if_neg hh,if_neg fun q=>hh (e.1 q)]
     ·show r.get (Nat.div k 2)=if k+1=i+1 then some v else r.get (Nat.div k 2)
      rw [if_neg]
      intro hh
      have h1:Nat.mod k 2=k%2:=rfl
      have h2:Nat.mod i 2=i%2:=rfl
      omega
   ·rw [hm] at h ⊢
    cases j with
    | zero=>rw [if_neg (by omega)];rfl
    | succ k=>
     show (T.nd l y (r.put (Nat.div i 2) v)).get (k+1)=_
     rw [hgj,hgj]
     rcases hmj with hk | hk<;>rw [show Nat.pred (k+1)=k from rfl] at hk<;>rw [hk]
     ·show l.get (Nat.div k 2)=if k+1=i+1 then some v else l.get (Nat.div k 2)
      rw [if_neg]
      intro hh
      have h1:Nat.mod k 2=k%2:=rfl
      have h2:Nat.mod i 2=i%2:=rfl
      omega
     ·show (r.put (Nat.div i 2) v).get (Nat.div k 2)=if k+1=i+1 then some v else r.get (Nat.div k 2)
      rw [hr _ x h v]
      have e:Nat.div k 2=Nat.div i 2↔k+1=i+1:=by
       have h1:Nat.mod k 2=k%2:=rfl
       have h2:Nat.mod i 2=i%2:=rfl
       have h3:Nat.div k 2=k / 2:=rfl
       have h4:Nat.div i 2=i / 2:=rfl
       omega
      by_cases hh:k+1=i+1
      ·rw [if_pos hh,if_pos (e.2 hh)]
      ·rw [if_neg hh,if_neg fun q=>hh (e.1 q)]
theorem Mem.nU {m:Mem}{i:Nat}{x:Blk}(h:m.get i=some x)(y:Blk)(j:Nat):(m.set i y).get j=if j=i then some y else m.get j:=T.nT m.t i h y j
theorem BU (X:Nat→Nat×Inst):∀p,∃q,q≤p∧(q=0∨isE (X (q-1)).2=true)∧∀j,q≤j→j<p→isE (X j).2=false
 | 0=>⟨0,Nat.le_refl _,.inl rfl,fun j _ h=>by omega⟩
 | p+1=>by
  cases hE:isE (X p).2 with
  | true=>exact⟨p+1,Nat.le_refl _,.inr hE,fun j h1 h2=>by omega⟩
  | false=>
   obtain⟨q,h1,h2,h3⟩:=BU X p
   refine⟨q,by omega,h2,fun j g1 g2=>?_⟩
   by_cases hj:j=p
   ·rw [hj];exact hE
   ·exact h3 j g1 (by omega)
theorem Fixed.since (F:Fixed P slots nt cf b ops ord X S){q:Nat}{i:Nat}{y:Blk}:∀d,q+d≤ord.length→(∀j,q≤j→j<q+d→isE (X j).2=false)→(S (q+d)).m.get i=some y→(S q).m.get i=some y∨∃p,q≤p∧p<q+d∧fG b X S p=some (i,y):=by
 intro d
 induction d with
 | zero=>intro _ _ h;exact .inl h
 | succ d ih=>
  intro hd hE h
  have hq:=F.quiet (p:=q+d) (by omega) (hE _ (by omega) (by omega))
  rw [show q+(d+1)=q+d+1 from rfl,hq] at h
  cases hm:fG b X S (q+d) with
  | none=>
   rw [hm] at h
   rcases ih (by omega) (fun j h1 h2=>hE j h1 (by omega)) h with h | ⟨p,h1,h2,h3⟩
   ·exact .inl h
   ·exact .inr ⟨p,h1,by omega,h3⟩
  | some z=>
   obtain⟨k,blk⟩:=z
   rw [hm] at h
   have hv:=(F.made (p:=q+d) (by omega) hm).2.2.2.1
   have h:((S (q+d)).m.set k blk).get i=some y:=h
   rw [Mem.nU hv] at h
   by_cases hk:i=k
   ·subst hk
    rw [if_pos rfl] at h
    cases h
    exact .inr ⟨q+d,by omega,by omega,hm⟩
   ·rw [if_neg hk] at h
    rcases ih (by omega) (fun j h1 h2=>hE j h1 (by omega)) h with h | ⟨p,h1,h2,h3⟩
    ·exact .inl h
    ·exact .inr ⟨p,h1,by omega,h3⟩
end
section
variable {P:Program}{G:Mem}{slots:List Nat}{nt:Nat}{cf:y8}{b:Nat}{ops:Array Oper}{ord:List Nat}{X:Nat→Nat×Inst}{S:Nat→DS}
structure Jg (b:Nat)(ord:List Nat)(X:Nat→Nat×Inst)(S:Nat→DS)(q:Nat)(L:Nat→Bool)(d:Nat):Prop where
 ok:T.Ok (aT b X S q L d).t (aT b X S q L d).next
 next:(aT b X S q L d).next=(S q).m.next
 lim:(aT b X S q L d).lim=(S q).m.lim
 later:∀p i blk,q+d≤p→p<ord.length→fG b X S p=some (i,blk)→(aT b X S q L d).get i=some .void
 from_:∀j y,(aT b X S q L d).get j=some y→(S q).m.get j=some y∨∃d',d'<d∧L (q+d')=true∧fG b X S (q+d')=some (j,y)
 laid:∀d' i blk,d'<d→L (q+d')=true→fG b X S (q+d')=some (i,blk)→(aT b X S q L d).get i=some blk
 sub:(S q).m.sub (aT b X S q L d)
theorem Fixed.wG (F:Fixed P slots nt cf b ops ord X S){q p:Nat}(hq:q=0∨isE (X (q-1)).2=true)(hqp:q≤p)(hp:p<ord.length){i:Nat}{blk:Blk}(h:fG b X S p=some (i,blk)):(S q).m.get i=some .void:=by
 obtain⟨r,h1,_⟩:=F.gs hq (p-q) (by omega)
 rw [show q+(p-q)=p from by omega] at h1
 exact (F.made hp h).2.2.2.2 _ (List.mem_of_getElem? h1)
theorem Fixed.lay (F:Fixed P slots nt cf b ops ord X S){q:Nat}(hq:q=0∨isE (X (q-1)).2=true)(hok:T.Ok (S q).m.t (S q).m.next)(L:Nat→Bool):∀d,q+d≤ord.length→Jg b ord X S q L d:=by
 intro d
 induction d with
 | zero=>
  intro _
  exact⟨hok,rfl,rfl,fun p i blk h1 h2 h3=>F.wG hq (by omega) h2 h3,fun j y h=>.inl h,fun d' i blk h=>by omega,fun i y h _=>h⟩
 | succ d ih=>
  intro hd
  have H:=ih (by omega)
  cases hL:L (q+d) with
  | false=>
   have e:aT b X S q L (d+1)=aT b X S q L d:=by simp [aT,hL]
   refine⟨by rw [e];exact H.ok,by rw [e];exact H.next,by rw [e];exact H.lim,fun p i blk h1 h2 h3=>by rw [e];exact H.later p i blk (by omega) h2 h3,fun j y h=>?_,fun d' i blk h1 h2 h3=>?_,by rw [e];exact H.sub⟩
   ·rw [e] at h
    rcases H.from_ j y h with h | ⟨d',h1,h2⟩
    ·exact .inl h
    ·exact .inr ⟨d',by omega,h2⟩
   ·by_cases hd':d'=d
    ·subst hd';rw [hL] at h2;cases h2
    ·rw [e];exact H.laid d' i blk (by omega) h2 h3
  | true=>
   cases hm:fG b X S (q+d) with
   | none=>
    have e:aT b X S q L (d+1)=aT b X S q L d:=by simp [aT,hL,hm]
    refine⟨by rw [e];exact H.ok,by rw [e];exact H.next,by rw [e];exact H.lim,fun p i blk h1 h2 h3=>by rw [e];exact H.later p i blk (by omega) h2 h3,fun j y h=>?_,fun d' i blk h1 h2 h3=>?_,by rw [e];exact H.sub⟩
    ·rw [e] at h
     rcases H.from_ j y h with h | ⟨d',h1,h2⟩
     ·exact .inl h
     ·exact .inr ⟨d',by omega,h2⟩
    ·by_cases hd':d'=d
     ·subst hd';rw [hm] at h3;cases h3
     ·rw [e];exact H.laid d' i blk (by omega) h2 h3
   | some y=>
    obtain⟨i0,blk0⟩:=y
    have e:aT b X S q L (d+1)=(aT b X S q L d).set i0 blk0:=by simp [aT,hL,hm]
    have hv:=H.later (q+d) i0 blk0 (Nat.le_refl _) (by omega) hm
    have hlt:=Mem.y9 H.ok hv
    have hget:=Mem.K4 H.ok hlt blk0
    refine⟨by rw [e];exact H.ok.put i0 blk0 hlt,by rw [e];exact H.next,by rw [e];exact H.lim,fun p i blk h1 h2 h3=>?_,fun j y h=>?_,fun d' i blk h1 h2 h3=>?_,fun i y h hy=>?_⟩
    ·have hne:=F.Dy (p:=q+d) (q:=p) (by omega) h2 hm h3
     rw [e,hget,if_neg (by omega)];exact H.later p i blk (by omega) h2 h3
    ·rw [e,hget] at h
     split at h
     ·rename_i he
      cases h
      exact .inr ⟨d,by omega,hL,by rw [he];exact hm⟩
     ·rcases H.from_ j y h with h | ⟨d',h1,h2⟩
      ·exact .inl h
      ·exact .inr ⟨d',by omega,h2⟩
    ·by_cases hd':d'=d
     ·subst hd';rw [hm] at h3;cases h3;rw [e,hget,if_pos rfl]
     ·have hne:=F.Dy (p:=q+d') (q:=q+d) (by omega) (by omega) h3 hm
      rw [e,hget,if_neg (by omega)];exact H.laid d' i blk (by omega) h2 h3
    ·have:=H.sub i y h hy
     rw [e,hget,if_neg (fun he=>by rw [he,hv] at this;cases this;cases hy)];exact this
theorem Fixed.rM (F:Fixed P slots nt cf b ops ord X S){q:Nat}(hq:q=0∨isE (X (q-1)).2=true)(hok:T.Ok (S q).m.t (S q).m.next){L L':Nat→Bool}{d d':Nat}(hd:d≤d')(hd':q+d'≤ord.length)
  (hL:∀k,k<d→L (q+k)=true→L' (q+k)=true) {j:Nat} (h:(aT b X S q L d).has j):(aT b X S q L' d').has j:=by
 obtain⟨y,h1,h2⟩:=h
 have H:=F.lay hq hok L d (by omega)
 have H':=F.lay hq hok L' d' hd'
 rcases H.from_ j y h1 with h | ⟨k,h3,h4,h5⟩
 ·exact⟨y,H'.sub j y h h2,h2⟩
 ·exact⟨y,H'.laid k j y (by omega) (hL k h3 h4) h5,h2⟩
theorem Fixed.lay_all (F:Fixed P slots nt cf b ops ord X S){q:Nat}{L:Nat→Bool}:∀d,q+d≤ord.length→(∀k,k<d→L (q+k)=true∧isE (X (q+k)).2=false)→aT b X S q L d=(S (q+d)).m:=by
 intro d
 induction d with
 | zero=>intro _ _;rfl
 | succ d ih=>
  intro hd h
  obtain⟨h1,h2⟩:=h d (by omega)
  have e:=ih (by omega) fun k hk=>h k (by omega)
  have hq:=F.quiet (p:=q+d) (by omega) h2
  show (if L (q+d) then _ else _)=_
  rw [h1,if_pos rfl,show q+(d+1)=q+d+1 from rfl,hq]
  cases fG b X S (q+d) with
  | none=>exact e
  | some y=>obtain⟨i,blk⟩:=y;simp only [];rw [e]
def Lp (ord:List Nat)(listed:Array Bool)(p:Nat):Bool:=match ord[p]? with
 | some i=>listed.getD i false
 | none=>false
structure ni (P:Program)(G:Mem)(b:Nat)(ops:Array Oper)(ord:List Nat)(X:Nat→Nat×Inst)(S:Nat→DS)(ι0:Inj)(m0:Mem)(w0:World)(a0:Act)(listed:Array Bool)(a:Act)(w:World)(ι:Inj)(q:Nat):Prop where
 hq:q≤ord.length
 head:q=0∨isE (X (q-1)).2=true
 low:∀p,p<q→Lp ord listed p=true
 high:∀p,q≤p→isE (X p).2=true→Lp ord listed p=false
 base:Step P G ι0 m0 w0 ι (S q).m w
 ext:∀d i blk,Lp ord listed (q+d)=true→fG b X S (q+d)=some (i,blk)→Z9 P ι ((aT b X S q (Lp ord listed) (d+1)).nm ι) w.heap (ι i) blk∧ah blk=false∧
  (K8 blk=true→(w0.heap.size≤(ι i).b∧(ι i).spot=none)∧(∀j y,(S q).m.get j=some y→K8 y=true→(ι j).b≠(ι i).b)∧∀c e fz,w.heap[(ι i).b]?=some (.cells c e fz)→∀k,k<c.size→¬ (fz.1≤k∧k<fz.2))
 ext2:∀d d' i i' blk blk',d≠d'→Lp ord listed (q+d)=true→Lp ord listed (q+d')=true→fG b X S (q+d)=some (i,blk)→fG b X S (q+d')=some (i',blk')→K8 blk=true→K8 blk'=true→(ι i').b≠(ι i).b
 vals:∀d,Lp ord listed (q+d)=true→(Vof S (q+d)).lt ((aT b X S q (Lp ord listed) (d+1)).nm ι)
 valsl:∀p,p<q→(Vof S p).lt ((S q).m.nm ι)
 tw:∀p i o t,ord[p]?=some i→listed.getD i false=true→ops[i]?=some o→o.dst=some t→a.tmps.getD t undef=l6 ι (Vof S p)
 tn:∀t,(∀i o,listed.getD i false=true→ops[i]?=some o→o.dst≠some t)→a.tmps.getD t undef=a0.tmps.getD t undef
 sz:a.tmps.size=a0.tmps.size
 defs:a.defers=a0.defers
 closed:eG ops listed
 len:listed.size=ops.size
variable {ι0 ι:Inj}{m0:Mem}{w0 w:World}{a0 a:Act}{listed:Array Bool}{q:Nat}
theorem ni.lay (F:Fixed P slots nt cf b ops ord X S)(hb:m0.lim≤b)(D:ni P G b ops ord X S ι0 m0 w0 a0 listed a w ι q):∀d,q+d≤ord.length→Step P G ι0 m0 w0 ι (aT b X S q (Lp ord listed) d) w:=by
 intro d
 induction d with
 | zero=>intro _;exact D.base
 | succ d ih=>
  intro hd
  have H:=ih (by omega)
  have LF:=F.lay D.head D.base.rm.ok (Lp ord listed) d (by omega)
  cases hL:Lp ord listed (q+d) with
  | false=>
   have e:aT b X S q (Lp ord listed) (d+1)=aT b X S q (Lp ord listed) d:=by simp [aT,hL]
   rw [e];exact H
  | true=>
   cases hm:fG b X S (q+d) with
   | none=>
    have e:aT b X S q (Lp ord listed) (d+1)=aT b X S q (Lp ord listed) d:=by simp [aT,hL,hm]
    rw [e];exact H
   | some y=>
    obtain⟨i,blk⟩:=y
    have e:aT b X S q (Lp ord listed) (d+1)=(aT b X S q (Lp ord listed) d).set i blk:=by simp [aT,hL,hm]
    obtain⟨g1,g2,g3⟩:=D.ext d i blk hL hm
    rw [e] at g1 ⊢
    have hi:=(F.made (p:=q+d) (by omega) hm).1
    refine H.add (LF.later (q+d) i blk (Nat.le_refl _) (by omega) hm) (by rw [LF.lim,D.base.lim];omega) ⟨g1,g2,fun hl j y hj hy hly=>?_,fun hl=>(g3 hl).2.2,fun hl=>(g3 hl).1.2⟩ fun hl=>(g3 hl).1.1
    rcases LF.from_ j y hy with hy | ⟨d',h1,h2,h3⟩
    ·exact (g3 hl).2.1 j y hy hly
    ·exact D.ext2 d d' i j blk y (by omega) hL h2 hm h3 hl hly
def vm (ord:List Nat)(S:Nat→DS)(listed:Array Bool)(p:Nat):j3:=if Lp ord listed p then Vof S p else .undef
def lsM (ord:List Nat)(S:Nat→DS)(listed:Array Bool):Nat→List j3
 | 0=>[]
 | p+1=>vm ord S listed p::lsM ord S listed p
def BX (ord:List Nat)(X:Nat→Nat×Inst)(S:Nat→DS)(listed:Array Bool):Nat→T j3
 | 0=>(S 0).env
 | p+1=>trD (X p).2.dst (vm ord S listed p) (BX ord X S listed p)
def tmM (ops:Array Oper)(ord:List Nat)(S:Nat→DS)(listed:Array Bool)(ι:Inj)(a0:Act):Nat→Array Value
 | 0=>a0.tmps
 | p+1=>match (ord[p]?).bind fun i=>(ops[i]?).bind (·.dst) with
  | some t=>(tmM ops ord S listed ι a0 p).setIfInBounds t (l6 ι (vm ord S listed p))
  | none=>tmM ops ord S listed ι a0 p
theorem ig:∀p,(tmM ops ord S listed ι a0 p).size=a0.tmps.size
 | 0=>rfl
 | p+1=>by
  simp only [tmM]
  split
  ·simp [ig p]
  ·exact ig p
theorem Av (ops:Array Oper)(ord:List Nat)(p:Nat)(hp:p<ord.length):aY ops ord (p+1)=((ord[p]?).bind fun i=>(ops[i]?).bind (·.dst))::aY ops ord p:=by
 unfold aY
 rw [List.take_succ_eq_append_getElem hp,List.map_append,List.reverse_append,List.getElem?_eq_getElem hp]
 rfl
theorem ni.st (F:Fixed P slots nt cf b ops ord X S)(hb:m0.lim≤b)(D:ni P G b ops ord X S ι0 m0 w0 a0 listed a w ι q)(hen:M8 ι0 (m0.nm ι0) slots (S 0).env a0.tmps)(hnt:nt≤a0.tmps.size)(d:Nat)(hd:q+d≤ord.length):
  ∀p,p≤q+d→St P ι ((aT b X S q (Lp ord listed) d).nm ι) slots (aY ops ord p) (lsM ord S listed p) (BX ord X S listed p) (tmM ops ord S listed ι a0 p):=by
 have H:=D.lay F hb d hd
 intro p
 induction p with
 | zero=>
  intro _
  refine⟨fun t k hk=>by simp [aY,dQ] at hk,H.env hen,H.rm.glob,H.rm.ghas⟩
 | succ p ih=>
  intro hp
  have s:=ih (by omega)
  have hpl:p<ord.length:=by omega
  obtain⟨i,hi⟩:∃i,ord[p]?=some i:=⟨ord[p],List.getElem?_eq_getElem hpl⟩
  obtain⟨o,ho,_,hdst,_⟩:=F.inst p i hi
  have hv:(vm ord S listed p).lt ((aT b X S q (Lp ord listed) d).nm ι):=by
   unfold vm
   split
   ·rename_i hL
    by_cases hpq:p<q
    ·exact j3.F4 (Mem.O6 (fun j ⟨y,h1,h2⟩=>⟨y,(F.lay D.head D.base.rm.ok _ d hd).sub j y h1 h2,h2⟩) fun _ _=>rfl) _ (D.valsl p hpq)
    ·have:=D.vals (p-q) (by rw [show q+(p-q)=p from by omega];exact hL)
     rw [show q+(p-q)=p from by omega] at this
     exact j3.F4 (Mem.O6 (fun j hj=>F.rM D.head D.base.rm.ok (by omega) hd (fun _ _ h=>h) hj) fun _ _=>rfl) _ this
   ·trivial
  have hdone:aY ops ord (p+1)=o.dst::aY ops ord p:=by rw [Av ops ord p hpl,hi];simp [ho]
  have:=s.put o.dst (fun t ht=>by rw [ig];exact Nat.lt_of_lt_of_le (F.din i o t ho ht) hnt) hv
  rw [hdone]
  show St P ι _ slots _ (vm ord S listed p::lsM ord S listed p) (trD (X p).2.dst (vm ord S listed p) (BX ord X S listed p)) (tmM ops ord S listed ι a0 (p+1))
  rw [hdst]
  have e:tmM ops ord S listed ι a0 (p+1)=(match o.dst with | some t=>(tmM ops ord S listed ι a0 p).setIfInBounds t (l6 ι (vm ord S listed p)) | none=>tmM ops ord S listed ι a0 p):=by
   simp only [tmM,hi,Option.bind_some,ho]
  rw [e];exact this
theorem Gb (S:Nat→DS):∀(p k:Nat),k<p→(lsM ord S listed p)[k]?=some (vm ord S listed (p-1-k))
 | 0,k,h=>by omega
 | p+1,0,_=>by simp [lsM]
 | p+1,k+1,h=>by rw [lsM,List.getElem?_cons_succ,Gb S p k (by omega),show p+1-1-(k+1)=p-1-k from by omega]
theorem Jh (F:Fixed P slots nt cf b ops ord X S){j:Nat}:∀p,p≤ord.length→(∀r,r<p→(X r).2.dst≠some j)→∀ls ls':List j3,trO (.slot j) ls (BX ord X S listed p)=trO (.slot j) ls' (S p).env:=by
 intro p
 induction p with
 | zero=>intro _ _ ls ls';rfl
 | succ p ih=>
  intro hp h ls ls'
  obtain⟨_,h2⟩:=F.ls (p:=p) (by omega)
  rw [h2]
  show trO (.slot j) ls (trD (X p).2.dst (vm ord S listed p) (BX ord X S listed p))=_
  rw [wC (h p (by omega)) _ ls ls,wC (h p (by omega)) _ ls' ls']
  exact ih (by omega) (fun r hr=>h r (by omega)) ls ls'
theorem ni.opd (F:Fixed P slots nt cf b ops ord X S)(D:ni P G b ops ord X S ι0 m0 w0 a0 listed a w ι q){p i:Nat}(hp:p<ord.length)(hdep:∀j,Dep ops i j→listed.getD j false=true){y:Opd}(h:Ga ops ord X p i y):
  Sm id (S p).ls (S p).env (lsM ord S listed p) (BX ord X S listed p) y:=by
 show trO y (lsM ord S listed p) (BX ord X S listed p)=trO y (S p).ls (S p).env
 cases y with
 | loc k=>
  obtain⟨j,h1,h2,h3⟩:=h
  rw [zT,zT,Gb S p k h1,(F.len p (by omega)).2 k h1]
  have:Lp ord listed (p-1-k)=true:=by simp only [Lp,h2];exact hdep j h3
  simp [vm,this]
 | slot j=>exact Jh F p (by omega) h _ _
 | con c=>rfl
theorem mE {t:Nat}:∀p,(∀r i o,r<p→ord[r]?=some i→ops[i]?=some o→o.dst≠some t)→(tmM ops ord S listed ι a0 p).getD t undef=a0.tmps.getD t undef:=by
 intro p
 induction p with
 | zero=>intro _;rfl
 | succ p ih=>
  intro h
  have:=ih fun r i o hr=>h r i o (by omega)
  simp only [tmM]
  split
  ·rename_i t' ht
   obtain⟨i,hi,ht⟩:=Option.bind_eq_some_iff.1 ht
   obtain⟨o,ho,ht⟩:=Option.bind_eq_some_iff.1 ht
   have hne:t'≠t:=fun e=>h p i o (by omega) hi ho (by rw [ht,e])
   rw [Array.getD_eq_getD_getElem?,Array.getElem?_setIfInBounds_ne hne,← Array.getD_eq_getD_getElem?];exact this
  ·exact this
theorem wH (F:Fixed P slots nt cf b ops ord X S)(hnt:nt≤a0.tmps.size){t r i:Nat}{o:Oper}(hr:ord[r]?=some i)(ho:ops[i]?=some o)(ht:o.dst=some t):∀p,r<p→(tmM ops ord S listed ι a0 p).getD t undef=l6 ι (vm ord S listed r):=by
 intro p
 induction p with
 | zero=>intro h;omega
 | succ p ih=>
  intro h
  simp only [tmM]
  by_cases hrp:r=p
  ·subst hrp
   simp only [hr,Option.bind_some,ho,ht]
   rw [J9 _ _ _ _ (by rw [ig];exact Nat.lt_of_lt_of_le (F.din i o t ho ht) hnt),if_pos rfl]
  ·have:=ih (by omega)
   split
   ·rename_i t' ht'
    obtain⟨i',hi',ht'⟩:=Option.bind_eq_some_iff.1 ht'
    obtain⟨o',ho',ht'⟩:=Option.bind_eq_some_iff.1 ht'
    have hne:t'≠t:=fun e=>by
     subst e
     have:=F.dsts i i' o o' t' ho ho' ht ht'
     subst this
     exact hrp ((List.getElem?_inj (List.getElem?_eq_some_iff.1 hr).1 F.nodup).1 (hr.trans hi'.symm))
    rw [Array.getD_eq_getD_getElem?,Array.getElem?_setIfInBounds_ne hne,← Array.getD_eq_getD_getElem?];exact this
   ·exact this
theorem ni.looks (F:Fixed P slots nt cf b ops ord X S)(hnt:nt≤a0.tmps.size)(D:ni P G b ops ord X S ι0 m0 w0 a0 listed a w ι q){p i:Nat}{o:Oper}(hp:ord[p]?=some i)(ho:ops[i]?=some o)(hun:listed.getD i false=false)
  (hdep:∀j,Dep ops i j→listed.getD j false=true) {t:Nat} (ht:t∈qG ops o):a.tmps.getD t undef=(tmM ops ord S listed ι a0 p).getD t undef:=by
 by_cases hw:∃j oj,ops[j]?=some oj∧oj.dst=some t∧j≠i
 ·obtain⟨j,oj,hj,hjt,hji⟩:=hw
  obtain⟨r,hr⟩:=List.getElem?_of_mem (F.all j (Array.getElem?_eq_some_iff.1 hj).1)
  have hpl:=(List.getElem?_eq_some_iff.1 hp).1
  rcases F.looks i o t ho ht j oj hj hji hjt with h | h
  ·have hL:=hdep j h
   have hrp:r<p:=by
    rcases Nat.lt_trichotomy r p with h1 | h1 | h1
    ·exact h1
    ·subst h1;rw [hp] at hr;exact absurd (Option.some.inj hr).symm hji
    ·exact absurd (dep_before F h hp hr) (by omega)
   rw [D.tw r j oj t hr hL hj hjt,wH F hnt hr hj hjt p hrp]
   simp [vm,Lp,hr,hL]
  ·have hrp:p<r:=dep_before F h hr hp
   have hnl:listed.getD j false=false:=by
    cases hl:listed.getD j false with
    | false=>rfl
    | true=>
     have:=h.listed D.closed (D.closed j · hl)
     rw [hun] at this;cases this
   rw [D.tn t ?_,mE p ?_]
   ·intro r' i' o' hr' hi' ho' e
    have:=F.dsts j i' oj o' t hj ho' hjt e
    subst this
    have:r'=r:=(List.getElem?_inj (List.getElem?_eq_some_iff.1 hi').1 F.nodup).1 (hi'.trans hr.symm)
    omega
   ·intro i' o' hl' ho' e
    have:=F.dsts j i' oj o' t hj ho' hjt e
    subst this
    rw [hnl] at hl';cases hl'
 ·have hno:∀j oj,ops[j]?=some oj→oj.dst=some t→j=i:=fun j oj hj hjt=>Classical.byContradiction fun hne=>hw ⟨j,oj,hj,hjt,hne⟩
  rw [D.tn t ?_,mE p ?_]
  ·intro r' i' o' hr' hi' ho' e
   have:=hno i' o' ho' e
   subst this
   have:r'=p:=(List.getElem?_inj (List.getElem?_eq_some_iff.1 hi').1 F.nodup).1 (hi'.trans hp.symm)
   omega
  ·intro i' o' hl' ho' e
   have:=hno i' o' ho' e
   subst this
   rw [hun] at hl';cases hl'
where
 dep_before {P:Program} {slots:List Nat} {nt:Nat} {cf:y8} {b:Nat} {ops:Array Oper} {ord:List Nat} {X:Nat→Nat×Inst} {S:Nat→DS} (F:Fixed P slots nt cf b ops ord X S) {i j:Nat} (h:Dep ops i j):∀{p r:Nat},ord[p]?=some i→ord[r]?=some j→r<p:=by
  induction h with
  | @edge i o e ho he hb=>
   intro p r hp hr
   obtain⟨q,h1,h2⟩:=F.edges p i o hp ho e he hb
   have:q=r:=(List.getElem?_inj (List.getElem?_eq_some_iff.1 h2).1 F.nodup).1 (h2.trans hr.symm)
   omega
  | @more i o e j ho he hb _ ih=>
   intro p r hp hr
   obtain⟨q,h1,h2⟩:=F.edges p i o hp ho e he hb
   have:=ih h2 hr
   omega
end
section
variable {P:Program}{G:Mem}{slots:List Nat}{nt:Nat}{cf:y8}{b:Nat}{ops:Array Oper}{ord:List Nat}{X:Nat→Nat×Inst}{S:Nat→DS}
variable {ι0 ι:Inj}{m0:Mem}{w0 w:World}{a0 a:Act}{listed:Array Bool}{q:Nat}
theorem Step.rename {m:Mem}{ι1 ι2:Inj}(hst:Step P G ι0 m0 w0 ι1 m w)(hext:∀i,m.has i→ι2 i=ι1 i):Step P G ι0 m0 w0 ι2 m w:=by
 have h:=hst.rm
 have hnm:(m.nm ι1).le (m.nm ι2):=Mem.O6 (fun i hi=>hi) hext
 have hlive:∀i x,m.get i=some x→K8 x=true→ι2 i=ι1 i:=fun i x hx hl=>hext i (jE hx hl)
 refine⟨⟨h.ok,?_,?_,h.glim,h.limn,h.gle,h.base,h.ghas,fun i hi=>by rw [hext i (h.ghas i hi)];exact h.glob i hi,fun i x hx hl=>by rw [hlive i x hx hl];exact h.spot i x hx hl,h.gsz⟩,fun i hi=>(hext i (hst.has i hi)).trans (hst.ext i hi),hst.has,hst.next,hst.lim,hst.old,hst.size,hst.frame,?_,hst.os,hst.out,hst.tape⟩
 ·intro i x hx
  by_cases hv:ah x=true
  ·cases x<;>first | trivial | cases hv
  ·rw [hext i ⟨x,hx,by simpa using hv⟩]
   exact (h.blk i x hx).mono (n:=m.nm ι1) hext hnm fun _=>rfl
 ·intro i x hi hx hl
  have ho:=h.own i x hi hx hl
  refine⟨fun j y hj hy hly=>?_,fun c e fz hc=>?_⟩
  ·rw [hlive i x hx hl,hlive j y hy hly];exact ho.alone j y hj hy hly
  ·rw [hlive i x hx hl] at hc;exact ho.free c e fz hc
 ·rintro b ⟨i,x,hi,hx,hl,rfl⟩
  rw [hlive i x hx hl]
  exact hst.own _ ⟨i,x,hi,hx,hl,rfl⟩
theorem wI {p:Nat}(h:Lp ord listed p=true):p<ord.length:=by
 unfold Lp at h
 split at h
 ·rename_i i hi;exact (List.getElem?_eq_some_iff.1 hi).1
 ·cases h
theorem jl {p i:Nat}(hp:ord[p]?=some i):Lp ord listed p=listed.getD i false:=by simp [Lp,hp]
theorem K3 (A:Array Bool)(i j:Nat)(hi:i<A.size):(A.setIfInBounds i true).getD j false=if j=i then true else A.getD j false:=by
 rw [Array.getD_eq_getD_getElem?,Array.getD_eq_getD_getElem?]
 by_cases h:i=j
 ·subst h;rw [if_pos rfl,Array.getElem?_setIfInBounds_self_of_lt hi];rfl
 ·rw [if_neg (fun e=>h e.symm),Array.getElem?_setIfInBounds_ne h]
theorem Gc (hnd:ord.Nodup){p i:Nat}(hp:ord[p]?=some i)(hi:i<listed.size)(r:Nat):Lp ord (listed.setIfInBounds i true) r=if r=p then true else Lp ord listed r:=by
 by_cases hr:r=p
 ·subst hr;rw [jl hp,K3 _ _ _ hi,if_pos rfl,if_pos rfl]
 ·rw [if_neg hr]
  unfold Lp
  cases hj:ord[r]? with
  | none=>rfl
  | some j=>
   show (listed.setIfInBounds i true).getD j false=_
   rw [K3 _ _ _ hi,if_neg]
   intro e;subst e
   exact hr ((List.getElem?_inj (List.getElem?_eq_some_iff.1 hj).1 hnd).1 (hj.trans hp.symm))
theorem ni.OO (F:Fixed P slots nt cf b ops ord X S)(hnt:nt≤a0.tmps.size)(D:ni P G b ops ord X S ι0 m0 w0 a0 listed a w ι q){p i:Nat}{o:Oper}(hp:ord[p]?=some i)(ho:ops[i]?=some o){ι':Inj}
  (hc:∀r,Lp ord listed r=true→l6 ι' (Vof S r)=l6 ι (Vof S r)):
  (∀r j o' t,ord[r]?=some j→(listed.setIfInBounds i true).getD j false=true→ops[j]?=some o'→o'.dst=some t→(a.put o.dst (l6 ι' (Vof S p))).tmps.getD t undef=l6 ι' (Vof S r))∧
  (∀t,(∀j o',(listed.setIfInBounds i true).getD j false=true→ops[j]?=some o'→o'.dst≠some t)→(a.put o.dst (l6 ι' (Vof S p))).tmps.getD t undef=a0.tmps.getD t undef)∧
  (a.put o.dst (l6 ι' (Vof S p))).tmps.size=a0.tmps.size∧(a.put o.dst (l6 ι' (Vof S p))).defers=a0.defers:=by
 have hi:i<listed.size:=by rw [D.len];exact (Array.getElem?_eq_some_iff.1 ho).1
 refine⟨fun r j o' t hr hl hj ht=>?_,fun t h=>?_,by rw [N9];exact D.sz,by rw [(bB a o.dst _).2];exact D.defs⟩
 ·rw [(bB a o.dst _).1]
  rw [K3 _ _ _ hi] at hl
  by_cases hji:j=i
  ·subst hji
   rw [ho] at hj;cases hj
   have:r=p:=(List.getElem?_inj (List.getElem?_eq_some_iff.1 hr).1 F.nodup).1 (hr.trans hp.symm)
   subst this
   rw [ht]
   show (a.tmps.setIfInBounds t _).getD t undef=_
   rw [J9 _ _ _ _ (by rw [D.sz];exact Nat.lt_of_lt_of_le (F.din _ o t ho ht) hnt),if_pos rfl]
  ·rw [if_neg hji] at hl
   have h1:=D.tw r j o' t hr hl hj ht
   rw [hc r (by rw [jl hr];exact hl),← h1]
   cases hd:o.dst with
   | none=>rfl
   | some t'=>
    have hne:t'≠t:=fun e=>hji (F.dsts j i o' o t hj ho ht (by rw [hd,e]))
    show (a.tmps.setIfInBounds t' _).getD t undef=_
    rw [Array.getD_eq_getD_getElem?,Array.getElem?_setIfInBounds_ne hne,← Array.getD_eq_getD_getElem?]
 ·rw [(bB a o.dst _).1]
  have hnot:=h i o (by rw [K3 _ _ _ hi,if_pos rfl]) ho
  have h1:=D.tn t fun j o' hl hj=>h j o' (by rw [K3 _ _ _ hi];split<;>simp_all) hj
  rw [← h1]
  cases hd:o.dst with
  | none=>rfl
  | some t'=>
   have hne:t'≠t:=fun e=>hnot (by rw [hd,e])
   show (a.tmps.setIfInBounds t' _).getD t undef=_
   rw [Array.getD_eq_getD_getElem?,Array.getElem?_setIfInBounds_ne hne,← Array.getD_eq_getD_getElem?]
theorem ni.closed' (D:ni P G b ops ord X S ι0 m0 w0 a0 listed a w ι q){i:Nat}{o:Oper}(ho:ops[i]?=some o)(hr:∀e∈o.after,Region.binds .any e=true→listed.getD e.on false=true):
  eG ops (listed.setIfInBounds i true):=by
 have hi:i<listed.size:=by rw [D.len];exact (Array.getElem?_eq_some_iff.1 ho).1
 intro j oj hj hoj e he hb
 rw [K3 _ _ _ hi] at hj ⊢
 by_cases hji:j=i
 ·subst hji
  rw [ho] at hoj;cases hoj
  rw [hr e he hb];split<;>rfl
 ·rw [if_neg hji] at hj
  rw [D.closed j oj hj hoj e he hb];split<;>rfl
theorem ni.quiet (F:Fixed P slots nt cf b ops ord X S)(hnt:nt≤a0.tmps.size)(D:ni P G b ops ord X S ι0 m0 w0 a0 listed a w ι q){d i:Nat}{o:Oper}(hp:ord[q+d]?=some i)(ho:ops[i]?=some o)(hun:listed.getD i false=false)
  (hr:∀e∈o.after,Region.binds .any e=true→listed.getD e.on false=true) (hE:isE (X (q+d)).2=false) {ι':Inj} {w':World} (hst:Step P G ι (S q).m w ι' (S q).m w') (hheap:∀k,k<w.heap.size→w'.heap[k]?=w.heap[k]?)
  (hι:∀j,(∀blk,fG b X S (q+d)≠some (j,blk))→ι' j=ι j)
  (hblk:∀id blk,fG b X S (q+d)=some (id,blk)→Z9 P ι' ((aT b X S q (Lp ord (listed.setIfInBounds i true)) (d+1)).nm ι') w'.heap (ι' id) blk∧ah blk=false∧
   (K8 blk=true→((ι' id).b=w.heap.size∧(ι' id).spot=none)∧∀c e fz,w'.heap[(ι' id).b]?=some (.cells c e fz)→∀k,k<c.size→¬ (fz.1≤k∧k<fz.2)))
  (hV:(Vof S (q+d)).lt ((aT b X S q (Lp ord (listed.setIfInBounds i true)) (d+1)).nm ι')):
  ni P G b ops ord X S ι0 m0 w0 a0 (listed.setIfInBounds i true) (a.put o.dst (l6 ι' (Vof S (q+d)))) w' ι' q:=by
 have hi:i<listed.size:=by rw [D.len];exact (Array.getElem?_eq_some_iff.1 ho).1
 have hpl:q+d<ord.length:=(List.getElem?_eq_some_iff.1 hp).1
 have hLs:=Gc (listed:=listed) F.nodup hp hi
 have hLmono:∀r,Lp ord listed r=true→Lp ord (listed.setIfInBounds i true) r=true:=fun r hL=>by rw [hLs];split<;>simp [hL]
 have hLn:Lp ord listed (q+d)=false:=by rw [jl hp];exact hun
 have hnames:∀d',q+d'≤ord.length→∀j,(aT b X S q (Lp ord listed) d').has j→ι' j=ι j:=by
  intro d' hd' j hj
  refine hι j fun blk hm=>?_
  obtain⟨y,h1,h2⟩:=hj
  have hv:=F.wG D.head (Nat.le_add_right q d) hpl hm
  rcases (F.lay D.head D.base.rm.ok (Lp ord listed) d' hd').from_ j y h1 with h | ⟨d3,h3,h4,h5⟩
  ·rw [hv] at h;cases h;cases h2
  ·rcases Nat.lt_trichotomy d d3 with h6 | h6 | h6
   ·have:=F.Dy (p:=q+d) (q:=q+d3) (by omega) (wI h4) hm h5;omega
   ·subst h6;rw [hLn] at h4;cases h4
   ·have:=F.Dy (p:=q+d3) (q:=q+d) (by omega) hpl h5 hm;omega
 have hle:∀d',q+d'≤ord.length→((aT b X S q (Lp ord listed) d').nm ι).le ((aT b X S q (Lp ord (listed.setIfInBounds i true)) d').nm ι'):=fun d' hd'=>
  Mem.O6 (fun j hj=>F.rM D.head D.base.rm.ok (Nat.le_refl _) hd' (fun k _ h=>hLmono _ h) hj) (hnames d' hd')
 have hext:∀d' id blk,d'≠d→Lp ord listed (q+d')=true→fG b X S (q+d')=some (id,blk)→ι' id=ι id∧(K8 blk=true→(ι id).b<w.heap.size):=by
  intro d' id blk hne hL hm
  have hl:=wI hL
  obtain⟨g1,g2,_⟩:=D.ext d' id blk hL hm
  refine⟨hnames (d'+1) (by omega) id ⟨blk,(F.lay D.head D.base.rm.ok _ (d'+1) (by omega)).laid d' id blk (by omega) hL hm,g2⟩,fun hlv=>R9 g1 hlv⟩
 have hne:∀d',Lp ord (listed.setIfInBounds i true) (q+d')=true→d'≠d→Lp ord listed (q+d')=true:=fun d' h hd=>by rw [hLs,if_neg (by omega)] at h;exact h
 have hvals:∀r,Lp ord listed r=true→l6 ι' (Vof S r)=l6 ι (Vof S r):=by
  intro r hL
  have hl:=wI hL
  by_cases hrq:r<q
  ·exact F7 (n:=(S q).m.nm ι) hst.ext _ (D.valsl r hrq)
  ·have:=D.vals (r-q) (by rw [show q+(r-q)=r from by omega];exact hL)
   rw [show q+(r-q)=r from by omega] at this
   exact F7 (n:=(aT b X S q (Lp ord listed) (r-q+1)).nm ι) (hnames _ (by omega)) _ this
 obtain⟨t1,t2,t3,t4⟩:=D.OO F hnt hp ho hvals
 refine⟨D.hq,D.head,fun p hpq=>hLmono p (D.low p hpq),fun p hqp he=>?_,D.base.trans hst,?_,?_,?_,fun p hpq=>?_,t1,t2,t3,t4,D.closed' ho hr,by simpa using D.len⟩
 ·rw [hLs,if_neg (fun e=>by rw [e,hE] at he;cases he)];exact D.high p hqp he
 ·intro d' id blk hL hm
  by_cases hd:d'=d
  ·subst hd
   obtain⟨g1,g2,g3⟩:=hblk id blk hm
   refine⟨g1,g2,fun hlv=>⟨⟨by rw [(g3 hlv).1.1];exact D.base.size,(g3 hlv).1.2⟩,fun j y hj hly=>?_,(g3 hlv).2⟩⟩
   rw [(g3 hlv).1.1,hst.ext j (jE hj hly)]
   have:=R9 (D.base.rm.blk j y hj) hly
   omega
  ·have hL:=hne d' hL hd
   have hl:=wI hL
   obtain⟨g1,g2,g3⟩:=D.ext d' id blk hL hm
   obtain⟨e1,e2⟩:=hext d' id blk hd hL hm
   rw [e1]
   refine⟨g1.mono (hnames _ (by omega)) (hle _ (by omega)) fun hlv=>hheap _ (e2 hlv),g2,fun hlv=>⟨(g3 hlv).1,fun j y hj hly=>?_,fun c e fz hc=>?_⟩⟩
   ·rw [hst.ext j (jE hj hly)];exact (g3 hlv).2.1 j y hj hly
   ·rw [hheap _ (e2 hlv)] at hc;exact (g3 hlv).2.2 c e fz hc
 ·intro d1 d2 i1 i2 b1 b2 hd12 hL1 hL2 hm1 hm2 hl1 hl2
  by_cases h1:d1=d
  ·subst h1
   have hL2:=hne d2 hL2 (fun e=>hd12 e.symm)
   obtain⟨e1,e2⟩:=hext d2 i2 b2 (fun e=>hd12 e.symm) hL2 hm2
   rw [((hblk i1 b1 hm1).2.2 hl1).1.1,e1]
   have:=e2 hl2;omega
  ·have hL1:=hne d1 hL1 h1
   obtain⟨e1,e2⟩:=hext d1 i1 b1 h1 hL1 hm1
   by_cases h2:d2=d
   ·subst h2
    rw [((hblk i2 b2 hm2).2.2 hl2).1.1,e1]
    have:=e2 hl1;omega
   ·have hL2:=hne d2 hL2 h2
    rw [e1,(hext d2 i2 b2 h2 hL2 hm2).1]
    exact D.ext2 d1 d2 i1 i2 b1 b2 hd12 hL1 hL2 hm1 hm2 hl1 hl2
 ·intro d' hL
  by_cases hd:d'=d
  ·subst hd;exact hV
  ·have hL:=hne d' hL hd
   exact j3.F4 (hle _ (by have:=wI hL;omega)) _ (D.vals d' hL)
 ·exact j3.F4 (Mem.O6 (fun j hj=>hj) hst.ext) _ (D.valsl p hpq)
theorem ni.effect (F:Fixed P slots nt cf b ops ord X S)(hb:m0.lim≤b)(hnt:nt≤a0.tmps.size)(D:ni P G b ops ord X S ι0 m0 w0 a0 listed a w ι q){d i:Nat}{o:Oper}(hp:ord[q+d]?=some i)(ho:ops[i]?=some o)(hun:listed.getD i false=false)
  (hr:∀e∈o.after,Region.binds .any e=true→listed.getD e.on false=true) (hE:isE (X (q+d)).2=true) (hall:∀k,k<d→Lp ord listed (q+k)=true) {ι':Inj} {w':World} (hst:Step P G ι (S (q+d)).m w ι' (S (q+d+1)).m w')
  (hV:(Vof S (q+d)).lt ((S (q+d+1)).m.nm ι')):
  ∃ι'',l6 ι'' (Vof S (q+d))=l6 ι' (Vof S (q+d))∧ni P G b ops ord X S ι0 m0 w0 a0 (listed.setIfInBounds i true) (a.put o.dst (l6 ι'' (Vof S (q+d)))) w' ι'' (q+d+1):=by
 have hi:i<listed.size:=by rw [D.len];exact (Array.getElem?_eq_some_iff.1 ho).1
 have hpl:q+d<ord.length:=(List.getElem?_eq_some_iff.1 hp).1
 have hLs:=Gc (listed:=listed) F.nodup hp hi
 have hLmono:∀r,Lp ord listed r=true→Lp ord (listed.setIfInBounds i true) r=true:=fun r hL=>by rw [hLs];split<;>simp [hL]
 have hLn:Lp ord listed (q+d)=false:=by rw [jl hp];exact hun
 have hnoE:∀k,k<d→isE (X (q+k)).2=false:=fun k hk=>by
  cases he:isE (X (q+k)).2 with
  | false=>rfl
  | true=>have h1:=D.high (q+k) (by omega) he;rw [hall k hk] at h1;cases h1
 have hmem:=F.lay_all (L:=Lp ord listed) d (by omega) fun k hk=>⟨hall k hk,hnoE k hk⟩
 have hbase:=D.lay F hb d (by omega)
 rw [hmem] at hbase
 have LFd:=F.lay D.head D.base.rm.ok (Lp ord listed) d (by omega)
 have Lsub:=LFd.sub
 have Llaid:=LFd.laid
 have Lfrom:=LFd.from_
 rw [hmem] at Lsub Llaid Lfrom
 have hmkE:fG b X S (q+d)=none:=by
  cases hm:fG b X S (q+d) with
  | none=>rfl
  | some y=>
   obtain⟨j,blk⟩:=y
   obtain⟨_,⟨o',h1,_⟩,_⟩:=F.made hpl hm
   simp [isE,h1] at hE
 let E:Nat→Prop:=fun k=>∃p blk,q+d<p∧Lp ord listed p=true∧fG b X S p=some (k,blk)
 have hhead':q+d+1=0∨isE (X (q+d+1-1)).2=true:=.inr (by rw [Nat.add_sub_cancel];exact hE)
 have hvoid:∀k,E k→(S (q+d+1)).m.get k=some .void:=by
  rintro k ⟨p,blk,h1,h2,h3⟩
  exact F.wG hhead' (by omega) (wI h2) h3
 classical
 let ι'':Inj:=fun k=>if E k then ι k else ι' k
 have hE1:∀k,E k→ι'' k=ι k:=fun k hk=>if_pos hk
 have hE2:∀k,(S (q+d+1)).m.has k→ι'' k=ι' k:=fun k ⟨y,h1,h2⟩=>if_neg fun hk=>by rw [hvoid k hk] at h1;cases h1;cases h2
 have hst':Step P G ι0 m0 w0 ι'' (S (q+d+1)).m w':=(hbase.trans hst).rename hE2
 have hstι:Step P G ι (S (q+d)).m w ι'' (S (q+d+1)).m w':=hst.rename hE2
 have hok':=hst'.rm.ok
 have hc:=F7 (n:=(S (q+d+1)).m.nm ι') (ι:=ι') (ι':=ι'') hE2 _ hV
 have hnames:∀d',q+d'≤ord.length→∀j,(aT b X S q (Lp ord listed) d').has j→ι'' j=ι j∧((S (q+d+1)).m.has j∨∃p blk,q+d<p∧p<q+d'∧Lp ord listed p=true∧fG b X S p=some (j,blk)∧ah blk=false):=by
  intro d' hd' j ⟨y,h1,h2⟩
  have hsub:(S (q+d)).m.has j→ι'' j=ι j∧(S (q+d+1)).m.has j:=fun hj=>⟨hstι.ext j hj,hstι.has j hj⟩
  rcases (F.lay D.head D.base.rm.ok (Lp ord listed) d' hd').from_ j y h1 with h | ⟨d3,h3,h4,h5⟩
  ·obtain⟨e1,e2⟩:=hsub ⟨y,Lsub j y h h2,h2⟩
   exact⟨e1,.inl e2⟩
  ·rcases Nat.lt_trichotomy d3 d with h6 | h6 | h6
   ·obtain⟨e1,e2⟩:=hsub ⟨y,Llaid d3 j y h6 h4 h5,h2⟩
    exact⟨e1,.inl e2⟩
   ·subst h6;rw [hLn] at h4;cases h4
   ·exact⟨hE1 j ⟨q+d3,y,by omega,h4,h5⟩,.inr ⟨q+d3,y,by omega,by omega,h4,h5,h2⟩⟩
 have hle:∀d1 d2,q+d1=q+d+1+d2→q+d1≤ord.length→((aT b X S q (Lp ord listed) d1).nm ι).le ((aT b X S (q+d+1) (Lp ord (listed.setIfInBounds i true)) d2).nm ι''):=by
  intro d1 d2 hd hd1
  refine Mem.O6 (fun j hj=>?_) fun j hj=>(hnames d1 hd1 j hj).1
  have LF':=F.lay hhead' hok' (Lp ord (listed.setIfInBounds i true)) d2 (by omega)
  rcases (hnames d1 hd1 j hj).2 with⟨y,h1,h2⟩ | ⟨p,blk,h1,h2,h3,h4,h5⟩
  ·exact⟨y,LF'.sub j y h1 h2,h2⟩
  ·refine⟨blk,LF'.laid (p-(q+d+1)) j blk (by omega) (by rw [show q+d+1+(p-(q+d+1))=p from by omega];exact hLmono p h3) (by rw [show q+d+1+(p-(q+d+1))=p from by omega];exact h4),h5⟩
 have hold:∀d2,Lp ord (listed.setIfInBounds i true) (q+d+1+d2)=true→Lp ord listed (q+(d+1+d2))=true:=fun d2 h=>by
  rw [hLs,if_neg (by omega)] at h;rw [show q+(d+1+d2)=q+d+1+d2 from by omega];exact h
 have hnotown:∀d1 id blk,d<d1→Lp ord listed (q+d1)=true→fG b X S (q+d1)=some (id,blk)→K8 blk=true→(ι id).b<w.heap.size∧∀j y,(S (q+d)).m.get j=some y→K8 y=true→(ι j).b≠(ι id).b:=by
  intro d1 id blk hd1 hL hm hlv
  obtain⟨g1,g2,g3⟩:=D.ext d1 id blk hL hm
  refine⟨R9 g1 hlv,fun j y hj hly=>?_⟩
  rcases Lfrom j y hj with h | ⟨d3,h3,h4,h5⟩
  ·exact (g3 hlv).2.1 j y h hly
  ·exact D.ext2 d1 d3 id j blk y (by omega) hL h4 hm h5 hlv hly
 have hframe:∀d1 id blk,d<d1→Lp ord listed (q+d1)=true→fG b X S (q+d1)=some (id,blk)→K8 blk=true→w'.heap[(ι id).b]?=w.heap[(ι id).b]?:=by
  intro d1 id blk hd1 hL hm hlv
  obtain⟨g1,g2⟩:=hnotown d1 id blk hd1 hL hm hlv
  exact hst.frame _ g1 fun ⟨j,y,_,hj,hly,e⟩=>g2 j y hj hly e
 have hvals:∀r,Lp ord listed r=true→l6 ι'' (Vof S r)=l6 ι (Vof S r):=by
  intro r hL
  have hl:=wI hL
  by_cases hrq:r<q
  ·have h1:=D.valsl r hrq
   exact F7 (n:=(S q).m.nm ι) (fun j hj=>(hnames 0 (by omega) j hj).1) _ h1
  ·have:=D.vals (r-q) (by rw [show q+(r-q)=r from by omega];exact hL)
   rw [show q+(r-q)=r from by omega] at this
   exact F7 (n:=(aT b X S q (Lp ord listed) (r-q+1)).nm ι) (fun j hj=>(hnames _ (by omega) j hj).1) _ this
 obtain⟨t1,t2,t3,t4⟩:=D.OO F hnt hp ho hvals
 refine⟨ι'',hc,by omega,hhead',fun p hpq=>?_,fun p hqp he=>?_,hst',?_,?_,?_,fun p hpq=>?_,t1,t2,t3,t4,D.closed' ho hr,by simpa using D.len⟩
 ·rw [hLs]
  split
  ·rfl
  ·by_cases h:p<q
   ·exact D.low p h
   ·have:=hall (p-q) (by omega)
    rwa [show q+(p-q)=p from by omega] at this
 ·rw [hLs,if_neg (by omega)];exact D.high p (by omega) he
 ·intro d2 id blk hL hm
  have hL:=hold d2 hL
  have hm':fG b X S (q+(d+1+d2))=some (id,blk):=by rw [show q+(d+1+d2)=q+d+1+d2 from by omega];exact hm
  have hl:=wI hL
  obtain⟨g1,g2,g3⟩:=D.ext (d+1+d2) id blk hL hm'
  have e1:ι'' id=ι id:=hE1 id ⟨q+(d+1+d2),blk,by omega,hL,hm'⟩
  rw [e1]
  refine⟨g1.mono (fun j hj=>(hnames _ (by omega) j hj).1) (hle (d+1+d2+1) (d2+1) (by omega) (by omega)) fun hlv=>hframe _ id blk (by omega) hL hm' hlv,g2,fun hlv=>⟨(g3 hlv).1,fun j y hj hly=>?_,fun c e fz hcc=>?_⟩⟩
  ·obtain⟨n1,n2⟩:=hnotown (d+1+d2) id blk (by omega) hL hm' hlv
   rw [hE2 j (jE hj hly)]
   by_cases hjl:(S (q+d)).m.lim≤j
   ·rcases hst.own _ ⟨j,y,by rw [hst.lim];exact hjl,hj,hly,rfl⟩ with⟨j',y',_,hj',hly',e⟩ | h
    ·rw [← e];exact n2 j' y' hj' hly'
    ·omega
   ·have hj':(S (q+d)).m.get j=some y:=by rw [← hst.old j (by omega)];exact hj
    rw [hst.ext j (jE hj' hly)]
    exact n2 j y hj' hly
  ·rw [hframe _ id blk (by omega) hL hm' hlv] at hcc;exact (g3 hlv).2.2 c e fz hcc
 ·intro d1 d2 i1 i2 b1 b2 hd12 hL1 hL2 hm1 hm2 hl1 hl2
  have hL1:=hold d1 hL1
  have hL2:=hold d2 hL2
  rw [show q+d+1+d1=q+(d+1+d1) from by omega] at hm1
  rw [show q+d+1+d2=q+(d+1+d2) from by omega] at hm2
  rw [hE1 i1 ⟨_,b1,by omega,hL1,hm1⟩,hE1 i2 ⟨_,b2,by omega,hL2,hm2⟩]
  exact D.ext2 (d+1+d1) (d+1+d2) i1 i2 b1 b2 (by omega) hL1 hL2 hm1 hm2 hl1 hl2
 ·intro d2 hL
  have hL:=hold d2 hL
  have hl:=wI hL
  have:=D.vals (d+1+d2) hL
  rw [show q+(d+1+d2)=q+d+1+d2 from by omega] at this
  exact j3.F4 (hle (d+1+d2+1) (d2+1) (by omega) (by omega)) _ this
 ·by_cases h:p=q+d
  ·subst h;exact j3.F4 (Mem.O6 (fun j hj=>hj) hE2) _ hV
  ·by_cases hpq':p<q
   ·refine j3.F4 (Mem.O6 (fun j ⟨y,h1,h2⟩=>?_) fun j hj=>(hnames 0 (by omega) j hj).1) _ (D.valsl p hpq')
    exact hstι.has j ⟨y,Lsub j y h1 h2,h2⟩
   ·have:=D.vals (p-q) (by have:=hall (p-q) (by omega);exact this)
    rw [show q+(p-q)=p from by omega] at this
    refine j3.F4 (Mem.O6 (fun j hj=>?_) fun j hj=>(hnames _ (by omega) j hj).1) _ this
    have h2:=F.rM D.head D.base.rm.ok (L:=Lp ord listed) (L':=Lp ord listed) (d:=p-q+1) (d':=d) (by omega) (by omega) (fun _ _ h=>h) hj
    rw [hmem] at h2
    exact hstι.has j h2
end
end
end Go.AM
