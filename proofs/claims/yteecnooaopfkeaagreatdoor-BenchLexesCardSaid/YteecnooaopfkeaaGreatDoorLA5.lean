/- A part of an evaluator for the model, proved sound: what it answers holds of the model; it speaks of every program, no condition. -/
import Derived.Test.YteecnooaopfkeaaGreatDoorLA4
import Derived.Deep.Slices
import Derived.Below
import Derived.Lib.SplitLaws
import Derived.Lib.Join
import Derived.Lib.SmallJoins
set_option linter.unusedSimpArgs false
set_option linter.unusedVariables false
namespace Go.AM
open Go
noncomputable section
def Ch (P:Program):List Field→Nat→Nat→Bool
 | [],o,n=>Nat.beq o n
 | f::fs,o,n=>Nat.beq f.offset o&&Ch P fs (o+P.cellsOf f.type) n
def yX (P:Program):Nat→TypeId→Bool
 | 0,_=>false
 | n+1,t=>match P.underlying t with
  | some .bool=>true
  | some (.int _)=>true
  | some .string=>true
  | some (.slice e)=>yX P n e&&Nat.blt 0 (P.cellsOf e)
  | some (.struct fs)=>fs.toList.all (fun f=>yX P n f.type)&&Ch P fs.toList 0 (P.cellsOf t)
  | _=>false
def Gw (S:TypeId→List j3→Prop):List Field→List j3→Prop
 | [],vs=>vs=[]
 | f::fs,vs=>∃a b,vs=a++b∧S f.type a∧Gw S fs b
def shp (P:Program)(m:Mem):Nat→TypeId→List j3→Prop
 | 0,_,_=>False
 | n+1,t,vs=>match P.underlying t with
  | some .bool=>∃b,vs=[.bool b]
  | some (.int k)=>∃i,vs=[.int k i]∧(Lit.int k i).wf=true
  | some .string=>∃s:List UInt8,vs=[.str s]∧s.length≤maxLen
  | some (.slice e)=>vs=[.nilSlice]∨∃id len cap,vs=[.slice id 0 len cap]∧len≤cap∧cap≤maxLen∧
    ((cap=0∧m.get id=some .dead)∨∃rows,0<cap∧m.get id=some (.cells (P.cellsOf e) cap rows)∧∀i,i<cap→∃row,rows.get i=some row∧row.length=P.cellsOf e∧shp P m n e row)
  | some (.struct fs)=>Gw (shp P m n) fs.toList vs
  | _=>False
theorem uT {S S':TypeId→List j3→Prop}(h:∀t vs,S t vs→S' t vs):∀fs vs,Gw S fs vs→Gw S' fs vs
 | [],_,hv=>hv
 | _::fs,_,⟨a,b,e,h1,h2⟩=>⟨a,b,e,h _ _ h1,uT h fs b h2⟩
theorem wO {P:Program}{m m':Mem}(h:∀i b,m.get i=some b→m'.get i=some b):∀n t vs,shp P m n t vs→shp P m' n t vs:=by
 intro n
 induction n with
 | zero=>intro t vs hv;exact hv
 | succ n ih=>
  intro t vs hv
  unfold shp at hv ⊢
  split at hv
  ·exact hv
  ·exact hv
  ·exact hv
  ·rcases hv with hv | ⟨id,len,cap,h1,h2,h3,h4⟩
   ·exact .inl hv
   ·refine .inr ⟨id,len,cap,h1,h2,h3,?_⟩
    rcases h4 with⟨h4,h5⟩ | ⟨rows,h4,h5,h6⟩
    ·exact .inl ⟨h4,h _ _ h5⟩
    ·exact .inr ⟨rows,h4,h _ _ h5,fun i hi=>by
      obtain⟨row,g1,g2,g3⟩:=h6 i hi
      exact⟨row,g1,g2,ih _ _ g3⟩⟩
  ·exact uT (fun t vs=>ih t vs) _ _ hv
  ·exact hv
section
variable {P:Program}{G:Mem}{hp:Array Obj}
theorem Mem.mM (m:Mem)(i:Nat):m.shut.get i=m.get i:=rfl
theorem RM.push {ι:Inj}{m:Mem}(h:RM P G ι m hp)(hl:m.lim=m.next){b:Blk}{l:Loc}(hv:ah b=false)(hs:K8 b=true→l.spot=none)
  (hb:Z9 P (ι.upd m.next l) ((m.new b).nm (ι.upd m.next l)) hp l b):RM P G (ι.upd m.next l) (m.new b).shut hp:=by
 have hget:∀i,(m.new b).shut.get i=if i=m.next then some b else m.get i:=fun i=>Mem.D7 h.ok b i
 have hne:∀i x,m.get i=some x→i≠m.next:=fun i x hx e=>by have:=Mem.y9 h.ok hx;omega
 have hext:∀j,m.has j→ι.upd m.next l j=ι j:=fun j ⟨x,hx,_⟩=>ι.upd_ne l (hne j x hx)
 have hhas:∀i,m.has i→(m.new b).shut.has i:=fun i ⟨x,hx,hv⟩=>⟨x,by rw [hget,if_neg (hne i x hx)];exact hx,hv⟩
 have hG:G.next≤m.next:=Nat.le_trans h.glim h.limn
 refine⟨h.ok.push b,fun i x hx=>?_,fun i x hi hx _=>?_,?_,Nat.le_refl _,h.gle,fun i hi=>?_,fun i hi=>hhas i (h.ghas i hi),fun i hi=>?_,fun i x hx hlx=>?_,h.gsz⟩
 ·rw [hget] at hx
  split at hx
  ·rename_i e;subst e;cases hx;rw [ι.G6];exact hb
  ·rename_i e
   rw [ι.upd_ne l e]
   exact (h.blk i x hx).mono (n:=m.nm ι) hext (Mem.O6 hhas hext) fun _=>rfl
 ·have h1:=Mem.y9 (m:=(m.new b).shut) (h.ok.push b) hx
  have hi:(m.new b).shut.next≤i:=hi
  omega
 ·show G.next≤m.next+1;omega
 ·rw [hget,if_neg (by omega)];exact h.base i hi
 ·rw [hext i (h.ghas i hi)];exact h.glob i hi
 ·rw [hget] at hx
  split at hx
  ·rename_i e;subst e;cases hx;rw [ι.G6];exact hs hlx
  ·rename_i e;rw [ι.upd_ne l e];exact h.spot i x hx hlx
structure Lifts (P:Program)(G:Mem)(hp:Array Obj)(ι:Inj)(m:Mem)(ι':Inj)(m':Mem):Prop where
 rm:RM P G ι' m' hp
 lim:m'.lim=m'.next
 get:∀i b,m.get i=some b→m'.get i=some b
 ext:∀i,m.has i→ι' i=ι i
theorem Lifts.refl {ι:Inj}{m:Mem}(h:RM P G ι m hp)(hl:m.lim=m.next):Lifts P G hp ι m ι m:=⟨h,hl,fun _ _ h=>h,fun _ _=>rfl⟩
theorem Lifts.has {ι ι':Inj}{m m':Mem}(h:Lifts P G hp ι m ι' m')(i:Nat)(hi:m.has i):m'.has i:=by
 obtain⟨x,h1,h2⟩:=hi
 exact⟨x,h.get i x h1,h2⟩
theorem Lifts.trans {ι1 ι2 ι3:Inj}{m1 m2 m3:Mem}(h:Lifts P G hp ι1 m1 ι2 m2)(k:Lifts P G hp ι2 m2 ι3 m3):Lifts P G hp ι1 m1 ι3 m3:=
 ⟨k.rm,k.lim,fun i b hb=>k.get i b (h.get i b hb),fun i hi=>(k.ext i (h.has i hi)).trans (h.ext i hi)⟩
theorem Lifts.l6 {ι ι':Inj}{m m':Mem}(h:Lifts P G hp ι m ι' m'){vs:List j3}(hv:ltL (m.nm ι) vs):l8 ι' vs=l8 ι vs:=U2 (n:=m.nm ι) h.ext vs hv
theorem Lifts.lt {ι ι':Inj}{m m':Mem}(h:Lifts P G hp ι m ι' m'){vs:List j3}(hv:ltL (m.nm ι) vs):ltL (m'.nm ι') vs:=R8 (Mem.O6 h.has h.ext) vs hv
theorem Lifts.push {ι:Inj}{m:Mem}(h:RM P G ι m hp)(hl:m.lim=m.next){b:Blk}{l:Loc}(hv:ah b=false)(hs:K8 b=true→l.spot=none)
  (hb:Z9 P (ι.upd m.next l) ((m.new b).nm (ι.upd m.next l)) hp l b):Lifts P G hp ι m (ι.upd m.next l) (m.new b).shut:=by
 have hne:∀i x,m.get i=some x→i≠m.next:=fun i x hx e=>by have:=Mem.y9 h.ok hx;omega
 exact⟨h.push hl hv hs hb,rfl,fun i x hx=>by rw [Mem.mM,Mem.D7 h.ok,if_neg (hne i x hx)];exact hx,fun j ⟨x,hx,_⟩=>ι.upd_ne l (hne j x hx)⟩
def Gets (P:Program)(G:Mem)(hp:Array Obj)(ι:Inj)(m:Mem)(cs:List Value)(S:Mem→List j3→Prop):Prop:=
 ∃ι' m' vs,Lifts P G hp ι m ι' m'∧l8 ι' vs=cs∧ltL (m'.nm ι') vs∧S m' vs
variable {H:Type}{enc:TypeId×Value→H}{w:World}{held:Bool}
theorem AQ {cs:List Value}{S:Mem→TypeId→List j3→Prop}(hS:∀m m' t vs,(∀i b,m.get i=some b→m'.get i=some b)→S m t vs→S m' t vs):
  ∀(fs:List Field) (o:Nat),(∀f∈fs,∀ι m,RM P G ι m hp→m.lim=m.next→Gets P G hp ι m ((cs.drop f.offset).take (P.cellsOf f.type)) (fun m' vs=>S m' f.type vs))→Ch P fs o cs.length=true→
   ∀ι m,RM P G ι m hp→m.lim=m.next→Gets P G hp ι m (cs.drop o) (fun m' vs=>Gw (S m') fs vs):=by
 intro fs
 induction fs with
 | nil=>
  intro o _ ho ι m hm hl
  have:o=cs.length:=Nat.eq_of_beq_eq_true ho
  exact⟨ι,m,[],Lifts.refl hm hl,by rw [this];simp [l8],trivial,rfl⟩
 | cons f fs ih=>
  intro o hf ho ι m hm hl
  simp only [Ch,Bool.and_eq_true] at ho
  have h1:f.offset=o:=Nat.eq_of_beq_eq_true ho.1
  obtain⟨ι1,m1,a,g1,g2,g3,g4⟩:=hf f (by simp) ι m hm hl
  obtain⟨ι2,m2,b,k1,k2,k3,k4⟩:=ih (o+P.cellsOf f.type) (fun f' hf'=>hf f' (by simp [hf'])) ho.2 ι1 m1 g1.rm g1.lim
  refine⟨ι2,m2,a++b,g1.trans k1,?_,bA (k1.lt g3) k3,a,b,rfl,hS _ _ _ _ k1.get g4,k4⟩
  rw [bW,k1.l6 g3,g2,k2,h1,← List.drop_drop,List.take_append_drop]
theorem Gx {n ce:Nat}{row:Nat→List Value}{S:Mem→List j3→Prop}(hS:∀m m' vs,(∀i b,m.get i=some b→m'.get i=some b)→S m vs→S m' vs)
  (h:∀i,i<n→∀ι m,RM P G ι m hp→m.lim=m.next→Gets P G hp ι m (row i) S):∀c,c≤n→∀ι m,RM P G ι m hp→m.lim=m.next→
   ∃(ι':Inj) (m':Mem) (rl:List (List j3)),Lifts P G hp ι m ι' m'∧rl.length=c∧∀i r,rl[i]?=some r→l8 ι' r=row i∧ltL (m'.nm ι') r∧S m' r:=by
 intro c
 induction c with
 | zero=>intro _ ι m hm hl;exact⟨ι,m,[],Lifts.refl hm hl,rfl,fun i r hr=>by simp at hr⟩
 | succ c ih=>
  intro hc ι m hm hl
  obtain⟨ι1,m1,rl,g1,g2,g3⟩:=ih (by omega) ι m hm hl
  obtain⟨ι2,m2,r,k1,k2,k3,k4⟩:=h c (by omega) ι1 m1 g1.rm g1.lim
  refine⟨ι2,m2,rl ++ [r],g1.trans k1,by simp [g2],fun i r' hr=>?_⟩
  by_cases hi:i<rl.length
  ·rw [List.getElem?_append_left hi] at hr
   obtain⟨q1,q2,q3⟩:=g3 i r' hr
   exact⟨by rw [k1.l6 q2,q1],k1.lt q2,hS _ _ _ k1.get q3⟩
  ·rw [List.getElem?_append_right (by omega)] at hr
   have:i-rl.length=0:=by
    have:=(List.getElem?_eq_some_iff.1 hr).1
    simp at this;omega
   rw [this] at hr
   simp at hr
   subst hr
   rw [show i=c from by omega]
   exact⟨k2,k3,k4⟩
theorem lift (k:Nat):∀(n:Nat) (t:TypeId) (cs:List Value) (x:DataW H×List MemPlace),DataW.trod enc P w 0 (fun _=>true) held n t cs=some x→yX P k t=true→
  ∀ι m,RM P G ι m w.heap→m.lim=m.next→Gets P G w.heap ι m cs (fun m' vs=>shp P m' k t vs):=by
 induction k with
 | zero=>intro n t cs x _ h;cases h
 | succ k ih=>
  intro n t cs x hx hp ι m hm hl
  unfold yX at hp
  have self:∀vs:List j3,l8 ι vs=cs→ltL (m.nm ι) vs→shp P m (k+1) t vs→Gets P G w.heap ι m cs (fun m' vs=>shp P m' (k+1) t vs):=fun vs h1 h2 h3=>⟨ι,m,vs,Lifts.refl hm hl,h1,h2,h3⟩
  split at hp
  ·rename_i ht
   obtain⟨b,rfl,_⟩:=DataW.trod_bool ht hx
   exact self [.bool b] rfl ⟨trivial,trivial⟩ (by unfold shp;rw [ht];exact⟨b,rfl⟩)
  ·rename_i ik ht
   obtain⟨i,rfl,_,hw⟩:=DataW.trod_int ht hx
   exact self [.int ik i] rfl ⟨trivial,trivial⟩ (by unfold shp;rw [ht];exact⟨i,rfl,hw⟩)
  ·rename_i ht
   obtain⟨s,rfl,_,hw⟩:=DataW.trod_string ht hx
   have hw':s.data.toList.length≤maxLen:=by simpa using hw
   exact self [.str s.data.toList] (by simp [l8,l6]) ⟨trivial,trivial⟩ (by unfold shp;rw [ht];exact⟨s.data.toList,rfl,hw'⟩)
  ·rename_i e ht
   simp only [Bool.and_eq_true] at hp
   have hce:0<P.cellsOf e:=Nat.blt_eq.mp hp.2
   rcases Deep.open_slice ht hx with⟨rfl,_⟩ | ⟨a,len,cap,mm,n',D,Pl,rfl,_,hlen,hcap,hmm,_,hel⟩
   ·exact self [.nilSlice] rfl ⟨trivial,trivial⟩ (by unfold shp;rw [ht];exact .inl rfl)
   ·have hmm:mm=cap:=by simpa using hmm
    subst hmm
    by_cases h0:mm=0
    ·subst h0
     have hlen:len=0:=by omega
     subst hlen
     have L:=Lifts.push (b:=.dead) (l:=⟨a.block,a.off,0,a.spot⟩) hm hl rfl (by intro h;cases h) trivial
     refine⟨_,_,[.slice m.next 0 0 0],L,?_,⟨⟨.dead,by rw [Mem.mM,Mem.D7 hm.ok,if_pos rfl],rfl⟩,trivial⟩,?_⟩
     ·simp [l8,l6,Inj.at]
     ·unfold shp
      rw [ht]
      exact .inr ⟨m.next,0,0,rfl,Nat.le_refl _,hcap,.inl ⟨rfl,by rw [Mem.mM,Mem.D7 hm.ok,if_pos rfl]⟩⟩
    ·obtain⟨row,hrow⟩:=Deep.choose_lt hel
     obtain⟨ι1,m1,rl,g1,g2,g3⟩:=Gx (n:=mm) (ce:=P.cellsOf e) (row:=row) (S:=fun m' vs=>shp P m' k e vs) (fun m m' vs h hs=>wO h k e vs hs)
      (fun i hi ι m hm hl=>ih n' e (row i) _ (hrow i hi).2 hp.1 ι m hm hl) mm (Nat.le_refl _) ι m hm hl
     have cell:∀i j,i<mm→j<P.cellsOf e→w.cell? ((a.add (i*P.cellsOf e)).add j)=(row i)[j]?∧(row i).length=P.cellsOf e:=fun i j hi hj=>by
      obtain⟨_,q2,q3⟩:=World.cells?_some (hrow i hi).1
      exact⟨q3 j hj,q2⟩
     have hsome:∀i j,i<mm→j<P.cellsOf e→∃v,(row i)[j]?=some v:=fun i j hi hj=>⟨_,List.getElem?_eq_getElem (by rw [(cell i j hi hj).2];exact hj)⟩
     have hspot:a.spot=none:=by
      obtain⟨v,hv⟩:=hsome 0 0 (by omega) hce
      have:=(cell 0 0 (by omega) hce).1
      rw [hv] at this
      unfold World.cell? at this
      split at this
      ·split at this
       ·cases this
       ·rename_i hn
        simp only [Nat.zero_mul,Addr.add,if_true] at hn
        cases hs:a.spot with
        | none=>rfl
        | some s=>rw [hs] at hn;simp at hn
      ·cases this
     obtain⟨c,et,fz,hc⟩:∃c et fz,w.heap[a.block]?=some (.cells c et fz):=by
      obtain⟨v,hv⟩:=hsome 0 0 (by omega) hce
      have:=(cell 0 0 (by omega) hce).1
      rw [hv] at this
      unfold World.cell? at this
      split at this
      ·rename_i c et fz hh
       simp only [Nat.zero_mul,Addr.add,if_true] at hh
       exact⟨c,et,fz,hh⟩
      ·cases this
     have hadd:∀i j,(a.add (i*P.cellsOf e)).add j=⟨a.block,a.off+(i*P.cellsOf e+j),none⟩:=fun i j=>by
      rw [Deep.add_add]
      unfold Addr.add
      split
      ·rename_i h;rw [h,Nat.add_zero,← hspot]
      ·rfl
     have hcc:∀i j,i<mm→j<P.cellsOf e→c[a.off+(i*P.cellsOf e+j)]?=(row i)[j]?:=fun i j hi hj=>by
      have:=(cell i j hi hj).1
      rw [hadd] at this
      simpa [World.cell?,hc] using this
     have hbound:a.off+mm*P.cellsOf e≤c.size:=by
      obtain⟨v,hv⟩:=hsome (mm-1) (P.cellsOf e-1) (by omega) (by omega)
      have:=hcc (mm-1) (P.cellsOf e-1) (by omega) (by omega)
      rw [hv] at this
      have h1:=(Array.getElem?_eq_some_iff.1 this).1
      have h2:(mm-1)*P.cellsOf e+P.cellsOf e=mm*P.cellsOf e:=by
       rw [← Nat.succ_mul];congr 1;omega
      omega
     have hrl:∀i,i<mm→∃r,rl[i]?=some r∧l8 ι1 r=row i∧ltL (m1.nm ι1) r∧shp P m1 k e r∧r.length=P.cellsOf e:=fun i hi=>by
      have hh:rl[i]?=some rl[i]:=List.getElem?_eq_getElem (by omega)
      obtain⟨q1,q2,q3⟩:=g3 i _ hh
      refine⟨_,hh,q1,q2,q3,?_⟩
      have:=congrArg List.length q1
      rw [G9] at this
      rw [this,(cell i 0 hi hce).2]
     have hne:∀i x,m1.get i=some x→i≠m1.next:=fun i x hx e=>by have:=Mem.y9 g1.rm.ok hx;omega
     have hext:∀j,m1.has j→(ι1.upd m1.next ⟨a.block,a.off,mm*P.cellsOf e,none⟩) j=ι1 j:=fun j ⟨x,hx,_⟩=>ι1.upd_ne _ (hne j x hx)
     have hhas:∀i,m1.has i→(m1.new (.cells (P.cellsOf e) mm (T.ofList rl))).has i:=fun i ⟨x,hx,hv⟩=>⟨x,by rw [Mem.D7 g1.rm.ok,if_neg (hne i x hx)];exact hx,hv⟩
     have L:=Lifts.push (b:=.cells (P.cellsOf e) mm (T.ofList rl)) (l:=⟨a.block,a.off,mm*P.cellsOf e,none⟩) g1.rm g1.lim rfl (fun _=>rfl)
      ⟨c,et,fz,hc,hbound,⟨Nat.le_refl _,rl.length,by omega,T.Y9 rl,nG fun h1=>by
       rw [T.M9]
       exact List.getElem?_eq_none (by omega)⟩,fun i hi=>by
       obtain⟨r,q1,q2,q3,q4,q5⟩:=hrl i hi
       refine⟨r,by rw [T.M9];exact q1,q5,R8 (Mem.O6 hhas hext) r q3,fun j hj=>?_⟩
       show c[a.off+(i*P.cellsOf e+j)]?=_
       rw [hcc i j hi hj,← q2,K7]
       cases hr:r[j]? with
       | none=>rfl
       | some v=>simp [F7 (n:=m1.nm ι1) hext v (R5.1 q3 v (List.mem_of_getElem? hr))]⟩
     refine⟨_,_,[.slice m1.next 0 len mm],g1.trans L,?_,⟨⟨_,by rw [Mem.mM,Mem.D7 g1.rm.ok,if_pos rfl],rfl⟩,trivial⟩,?_⟩
     ·simp only [l8,l6]
      rw [Inj.qH (by rw [Inj.G6]),Inj.G6]
      simp only [Nat.add_zero]
      rw [← hspot]
     ·unfold shp
      rw [ht]
      refine .inr ⟨m1.next,len,mm,rfl,hlen,hcap,.inr ⟨T.ofList rl,by omega,by rw [Mem.mM,Mem.D7 g1.rm.ok,if_pos rfl],fun i hi=>?_⟩⟩
      obtain⟨r,q1,q2,q3,q4,q5⟩:=hrl i hi
      exact⟨r,by rw [T.M9];exact q1,q5,wO L.get k e r q4⟩
  ·rename_i fs ht
   simp only [Bool.and_eq_true,List.all_eq_true] at hp
   obtain⟨xs,n',rfl,_,hcl,hxl,hf⟩:=DataW.trod_struct ht hx
   have:=AQ (P:=P) (G:=G) (hp:=w.heap) (cs:=cs) (S:=fun m' t vs=>shp P m' k t vs) (fun m m' t vs h hs=>wO h k t vs hs) fs.toList 0
    (fun f hfm ι m hm hl=>by
     obtain⟨i,hi⟩:=List.getElem?_of_mem hfm
     have hi':fs[i]?=some f:=by simpa using hi
     have h1:=hf i f hi'
     have hlt:i<xs.length:=by rw [hxl];exact (Array.getElem?_eq_some_iff.1 hi').1
     rw [List.getElem?_eq_getElem hlt] at h1
     exact ih n' f.type _ _ h1 (hp.1 f hfm) ι m hm hl) (by rw [hcl];exact hp.2) ι m hm hl
   obtain⟨ι',m',vs,q1,q2,q3,q4⟩:=this
   refine⟨ι',m',vs,q1,by simpa using q2,q3,?_⟩
   unfold shp
   rw [ht]
   exact q4
  ·cases hp
end
def Ci (P:Program)(slots:List Nat)(ops:Array Oper):Option M6:=
 match eY P slots ops [] (canon (CX ops) (masks ops.toList) ops.size) with
 | none=>none
 | some insts=>some (.dreg (zR insts) (numbered (masks ops.toList) ((canon (CX ops) (masks ops.toList) ops.size).zip insts) [] 0))
theorem yY {P:Program}{slots:List Nat}{ops:Array Oper}{c:M6}(h:vH P slots ops=some c):Ci P slots ops=some c:=by
 unfold vH at h
 unfold Ci
 split at h
 ·cases h
 ·rename_i insts hi
  rw [hi]
  split at h
  ·exact h
  ·cases h
def AR (P:Program)(slots:List Nat)(ops:Array Oper):Option M6:=
 match Ci P slots (ops.extract 0 (ops.size-3)) with
 | some (.dreg n l)=>vI (lD P slots [] ops (ops.size-3)) (lD P slots [(ops[ops.size-3]?).bind (·.dst)] ops (ops.size-2)) (lD P slots [] ops (ops.size-1)) n l
 | _=>none
theorem DV {P:Program}{slots:List Nat}{ops:Array Oper}{c:M6}(h:xH P slots ops=some c):AR P slots ops=some c:=by
 unfold xH at h
 unfold AR
 split at h
 ·rename_i n l hd
  rw [yY hd]
  split at h
  ·exact h
  ·cases h
 ·cases h
def dx (P:Program)(slots:List Nat):Code→Option M6
 | .skip=>some .skip
 | .region _ ops false=>match eY P slots ops [] (List.range ops.size) with
  | some l=>some (.reg l)
  | none=>none
 | .region _ ops true=>if splits ops then AR P slots ops else Ci P slots ops
 | .seq a b=>match dx P slots a,dx P slots b with
  | some x,some y=>some (.seq x y)
  | _,_=>none
 | .cond c a b=>match J7 P slots [] c,dx P slots a,dx P slots b with
  | some z,some x,some y=>some (.cond z x y)
  | _,_,_=>none
 | .block id a=>match dx P slots a with
  | some x=>some (.block id x)
  | none=>none
 | .loop a=>match dx P slots a with
  | some x=>some (.loop x)
  | none=>none
 | .exit id=>some (.exit id)
 | .ret=>some .ret
 | .rangeFunc f ps a b=>match J7 P slots [] f,dx P slots a,dx P slots b with
  | some z,some x,some y=>some (.rangeFunc z (ps.toList.map fun t=>idxOf t slots 0) x y)
  | _,_,_=>none
 | .refuse _=>some (.reg [⟨.e .bad,none,none⟩])
 | _=>none
theorem aR {P:Program}{slots:List Nat}:∀(k:Code) {c:M6},I8 P slots k=some c→dx P slots k=some c
 | .skip,_,h=>h
 | .region _ _ false,_,h=>h
 | .region _ ops true,_,h=>by
  unfold I8 at h
  unfold dx
  split at h
  ·rename_i hs;rw [if_pos hs];exact DV h
  ·rename_i hs;rw [if_neg hs];exact yY h
 | .seq a b,c,h=>by
  unfold I8 at h
  split at h
  ·rename_i x y hx hy
   unfold dx
   rw [aR a hx,aR b hy];exact h
  ·cases h
 | .cond z a b,c,h=>by
  unfold I8 at h
  split at h
  ·rename_i w x y hw hx hy
   unfold dx
   rw [hw,aR a hx,aR b hy];exact h
  ·cases h
 | .block _ a,c,h=>by
  unfold I8 at h
  split at h
  ·rename_i x hx
   unfold dx
   rw [aR a hx];exact h
  ·cases h
 | .loop a,c,h=>by
  unfold I8 at h
  split at h
  ·rename_i x hx
   unfold dx
   rw [aR a hx];exact h
  ·cases h
 | .rangeFunc z _ a b,c,h=>by
  unfold I8 at h
  split at h
  ·rename_i w x y hw hx hy
   unfold dx
   rw [hw,aR a hx,aR b hy];exact h
  ·cases h
 | .exit _,_,h=>h
 | .ret,_,h=>h
 | .scope _,_,h=>by cases h
 | .label _,_,h=>by cases h
 | .goto _,_,h=>by cases h
 | .refuse _,_,h=>h
def UJ (P:Program)(slots:List Nat)(f:FuncId):Option AFn:=
 match P.funcs[f]? with
 | none=>none
 | some fn=>match fn.body with
  | none=>none
  | some c=>match dx P slots c,Eo P slots fn.results.toList with
   | some b,some r=>some ⟨fn.params.size+fn.nfree,(List.range (fn.params.size+fn.nfree)).map fun t=>idxOf t slots 0,slots.length,r,b⟩
   | _,_=>none
theorem Mr {P:Program}{slots:List Nat}{f:FuncId}{a:AFn}(h:cFn P slots f=some a):UJ P slots f=some a:=by
 unfold cFn at h
 unfold UJ
 split at h
 ·cases h
 ·rename_i fn hf
  rw [hf]
  split at h
  ·cases h
  ·rename_i c hc
   simp only [hc]
   split at h
   ·rename_i b r hb hr
    rw [aR _ hb,hr]
    split at h
    ·exact h
    ·cases h
   ·cases h
def cT (P:Program)(slots:List Nat)(pure rc:Bool)(f:FuncId):SFn:=NG pure rc ((UJ P slots f).getD ⟨0,[],0,[],.skip⟩)
theorem Mt {P:Program}{slots:List Nat}{f:FuncId}{pure rc:Bool}(h:(cFn P slots f).isSome=true):uK P f (cT P slots pure rc f):=by
 obtain⟨a,ha⟩:=Option.isSome_iff_exists.1 h
 have:cT P slots pure rc f=NG pure rc a:=by unfold cT;rw [Mr ha];rfl
 rw [this]
 exact Gl ha pure rc
structure Weak (m1 m2:Mem):Prop where
 next:m2.next=m1.next
 lim:m2.lim=m1.lim
 ok:T.Ok m2.t m2.next
 old:∀i,i<m1.lim→m2.get i=m1.get i
 blk:∀i b,m2.get i=some b→∃b1,m1.get i=some b1∧(b=b1∨(b=.dead∧ah b1=false)∨
  ∃es es1,(b1=.map es1∨b1=.mapU es1)∧b=.mapU es∧es.Perm es1∧(∀e∈es,∃s,e.1=.str s)∧(es.map (·.1)).Nodup)
theorem Weak.void {m1 m2:Mem}(h:Weak m1 m2){i:Nat}{b b1:Blk}(h2:m2.get i=some b)(h1:m1.get i=some b1):ah b=ah b1:=by
 obtain⟨b1',g1,g2⟩:=h.blk i b h2
 rw [h1] at g1;cases g1
 rcases g2 with rfl | ⟨rfl,g⟩ | ⟨es,es1,rfl | rfl,rfl,_⟩
 ·rfl
 ·rw [g];rfl
 ·rfl
 ·rfl
theorem Weak.live {m1 m2:Mem}(h:Weak m1 m2){i:Nat}{b:Blk}(h2:m2.get i=some b)(hl:K8 b=true):∃b1,m1.get i=some b1∧K8 b1=true:=by
 obtain⟨b1,g1,g2⟩:=h.blk i b h2
 refine⟨b1,g1,?_⟩
 rcases g2 with rfl | ⟨rfl,g⟩ | ⟨es,es1,rfl | rfl,rfl,_⟩
 ·exact hl
 ·cases hl
 ·rfl
 ·rfl
theorem Weak.get {m1 m2:Mem}(h:Weak m1 m2)(hok:T.Ok m1.t m1.next){i:Nat}{b1:Blk}(h1:m1.get i=some b1):∃b,m2.get i=some b:=
 (h.ok.get i).2 (by rw [h.next];exact (hok.get i).1 ⟨b1,h1⟩)
theorem Weak.has {m1 m2:Mem}(h:Weak m1 m2)(hok:T.Ok m1.t m1.next)(i:Nat):m2.has i↔m1.has i:=by
 constructor
 ·rintro⟨b,h2,hv⟩
  obtain⟨b1,g1,_⟩:=h.blk i b h2
  exact⟨b1,g1,by rw [← h.void h2 g1];exact hv⟩
 ·rintro⟨b1,h1,hv⟩
  obtain⟨b,h2⟩:=h.get hok h1
  exact⟨b,h2,by rw [h.void h2 h1];exact hv⟩
theorem Weak.nm {m1 m2:Mem}(h:Weak m1 m2)(hok:T.Ok m1.t m1.next)(ι:Inj):m2.nm ι=m1.nm ι:=by
 unfold Mem.nm
 congr 1
 funext i
 exact propext (h.has hok i)
theorem mO (ι:Inj):∀(es:List (j3×j3)) (i:Nat),(A8 ι es i).map (fun x=>(x.key,x.val))=es.map fun e=>(l6 ι e.1,l6 ι e.2)
 | [],_=>rfl
 | e::es,i=>by simp [A8,mO ι es (i+1)]
section
variable {P:Program}{G:Mem}{ι:Inj}
theorem Weak.rm {m1 m2:Mem}{h:Array Obj}(k:Weak m1 m2)(hm:RM P G ι m1 h):RM P G ι m2 h where
 ok:=k.ok
 blk i b hb:=by
  rw [k.nm hm.ok]
  obtain⟨b1,g1,g2⟩:=k.blk i b hb
  have h1:=hm.blk i b1 g1
  rcases g2 with rfl | ⟨rfl,_⟩ | ⟨es,es1,hb1,rfl,hp,hs,hn⟩
  ·exact h1
  ·trivial
  ·have hpm:(es1.map fun e=>(l6 ι e.1,l6 ι e.2)).Perm (es.map fun e=>(l6 ι e.1,l6 ι e.2)):=(hp.map _).symm
   rcases hb1 with rfl | rfl
   ·exact⟨A8 ι es1 0,es1.length,h1.1,⟨by rw [mO];exact hpm,hs,hn⟩,fun e he=>h1.2 e (hp.subset he)⟩
   ·obtain⟨L,ck,a1,a2,a3⟩:=h1
    exact⟨L,ck,a1,⟨a2.1.trans hpm,hs,hn⟩,fun e he=>a3 e (hp.subset he)⟩
 own i b hi hb hl:=by
  obtain⟨b1,g1,g2⟩:=k.live hb hl
  obtain⟨o1,o2⟩:=hm.own i b1 (by rw [← k.lim];exact hi) g1 g2
  exact⟨fun j b' hne hb' hl'=>by
   obtain⟨b1',g1',g2'⟩:=k.live hb' hl'
   exact o1 j b1' hne g1' g2',o2⟩
 glim:=by rw [k.lim];exact hm.glim
 limn:=by rw [k.lim,k.next];exact hm.limn
 gle:=hm.gle
 base i hi:=(k.old i (Nat.lt_of_lt_of_le hi hm.glim)).trans (hm.base i hi)
 ghas i hi:=(k.has hm.ok i).2 (hm.ghas i hi)
 glob:=hm.glob
 spot i b hb hl:=by
  obtain⟨b1,g1,g2⟩:=k.live hb hl
  exact hm.spot i b1 g1 g2
 gsz:=hm.gsz
theorem Step.weak {ι':Inj}{m m1 m2:Mem}{w w':World}(h:Step P G ι m w ι' m1 w')(k:Weak m1 m2):Step P G ι m w ι' m2 w' where
 rm:=k.rm h.rm
 ext:=h.ext
 has i hi:=(k.has h.rm.ok i).2 (h.has i hi)
 next:=by rw [k.next];exact h.next
 lim:=k.lim.trans h.lim
 old i hi:=(k.old i (by rw [h.lim];exact hi)).trans (h.old i hi)
 size:=h.size
 frame:=h.frame
 own b:=by
  rintro⟨i,x,h1,h2,h3,h4⟩
  obtain⟨b1,g1,g2⟩:=k.live h2 h3
  exact h.own b ⟨i,b1,by rw [← k.lim];exact h1,g1,g2,h4⟩
 os:=h.os
 out:=h.out
 tape:=h.tape
theorem F9.weak {m:Mem}{w w':World}{outs1 outs2:List VM}{e:Ending}(h:F9 P G ι m w outs1 e w')(k:∀o∈outs1,∃o'∈outs2,o'.v=o.v∧Weak o.m o'.m):F9 P G ι m w outs2 e w':=by
 rcases h with⟨v,he,r,hr,ι',hst,hlt,hv⟩ | ⟨r,hr,x,ι',hx,hst,hlt,he⟩
 ·obtain⟨o',h1,h2,h3⟩:=k r hr
  exact .inl ⟨v,he,o',h1,ι',hst.weak h3,by rw [h2,h3.nm hst.rm.ok];exact hlt,by rw [h2];exact hv⟩
 ·obtain⟨o',h1,h2,h3⟩:=k r hr
  exact .inr ⟨o',h1,x,ι',h2.trans hx,hst.weak h3,by rw [h3.nm hst.rm.ok];exact hlt,he⟩
theorem DW {K:Known}(hK:KOk P K){fuel n:Nat}{f:FuncId}{args:List j3}{m:Mem}{outs1 outs2:List VM}(h:w9 K fuel n (.func f) args m=some outs1)
  (k:∀o∈outs1,∃o'∈outs2,o'.v=o.v∧Weak o.m o'.m):
  Dm P f∧∀{ι:Inj} {w:World},RM P K.base ι m w.heap→ltL (m.nm ι) args→CallsIn Fence.wide 0 P f (l8 ι args).toArray w (F9 P K.base ι m w outs2):=by
 obtain⟨h1,h2⟩:=(rZ hK fuel n).func h
 exact⟨h1,fun hm hargs=>(h2 hm hargs).mono fun e w' he=>he.weak k⟩
theorem kR {K:Known}(hK:KOk P K){f:FuncId}{sf:SFn}(hf:K.fns f=some sf){args:List j3}{m:Mem}{outs2:List VM}
  (h:T.Ok m.t m.next→m.lim≤m.next→∃fuel n outs1,w9 K fuel n (.func f) args m=some outs1∧∀o∈outs1,∃o'∈outs2,o'.v=o.v∧Weak o.m o'.m):
  Dm P f∧∀{ι:Inj} {w:World},RM P K.base ι m w.heap→ltL (m.nm ι) args→CallsIn Fence.wide 0 P f (l8 ι args).toArray w (F9 P K.base ι m w outs2):=by
 refine⟨(hK.fns f sf hf).ok,fun {ι w} hm hargs=>?_⟩
 obtain⟨fuel,n,outs1,h1,h2⟩:=h hm.ok hm.limn
 exact (DW hK h1 h2).2 hm hargs
end
theorem Cj {α β:Type}{f:α→Option (List β)}{g:β→Prop}:∀{l:List α},(∀r∈l,∃os,f r=some os∧∀o∈os,g o)→∃outs,zN f l=some outs∧∀o∈outs,g o
 | [],_=>⟨[],rfl,fun o ho=>by cases ho⟩
 | a::l,h=>by
  obtain⟨os,h1,h2⟩:=h a (List.mem_cons_self ..)
  obtain⟨outs,h3,h4⟩:=Cj (l:=l) fun r hr=>h r (List.mem_cons_of_mem _ hr)
  refine⟨os++outs,by rw [nP,h1,h3];rfl,fun o ho=>?_⟩
  rcases List.mem_append.1 ho with ho | ho
  ·exact h2 o ho
  ·exact h4 o ho
theorem Qb {α β:Type}{l:List α}{f:α→Option (List β)}{g:β→Prop}(h:∀r∈l,∃os,f r=some os∧∀o∈os,g o):∃outs,bnd (some l) f=some outs∧∀o∈outs,g o:=by
 match l,h with
 | [],_=>exact⟨[],rfl,fun o ho=>by cases ho⟩
 | [a],h=>exact h a (List.mem_singleton.2 rfl)
 | a::b::t,h=>exact Cj (l:=a::b::t) h
theorem P9 {α β:Type}{x:Option (List α)}{f:α→Option (List β)}{g1:α→Prop}{g:β→Prop}(hx:∃l,x=some l∧∀r∈l,g1 r)(h:∀r,g1 r→∃os,f r=some os∧∀o∈os,g o):∃outs,bnd x f=some outs∧∀o∈outs,g o:=by
 obtain⟨l,rfl,hl⟩:=hx
 exact Qb fun r hr=>h r (hl r hr)
def V3 (n:Nat)(m:Mem):Mem:=Nat.rec (fun m=>m) (fun _ ih m=>ih (m.new .dead)) n m
def Ck (k:j3)(l:List (j3×j3)):Bool:=match k with
 | .str s=>List.rec true (fun e _ ih=>match e.1 with
  | .str t=>bi (strEq s t) false ih
  | _=>false) l
 | _=>false
def strKeys (l:List (j3×j3)):Bool:=List.rec true (fun e t ih=>bi (Ck e.1 t) ih false) l
def SV (l:List (j3×j3)):Bool:=List.rec true (fun e _ ih=>match e.2 with
 | .agg [a,b]=>bi (bM a) (bi (bM b) ih false) false
 | _=>false) l
def AU (args:List j3)(m:Mem):iR:=match args with
 | [.map d,.map s]=>bi (Nat.blt d m.lim) none (bi (Nat.beq d s) none (vEs (m.get s) fun es=>JW (m.get d) fun ds=>
   bi (strKeys (dz ds es)) (bi (SV es) (bi (Nat.blt (len' es) 100000) (one (.tuple []) ((V3 (Nat.succ (len' es)) m).set d (.mapU (dz ds es)))) none) none) none))
 | _=>none
def Q8:List (Int×Int×List UInt8×Int):=
 [(5,3,[42],6),(5,3,[47],7),(5,3,[37],8),(4,3,[43],9),(4,3,[45],10),(3,3,[60],11),(3,3,[60,61],12),(3,3,[62],13),(3,3,[62,61],14),(3,3,[61,61],15),(3,3,[33,61],16),
  (1,1,[97,110,100],17),(0,1,[111,114],18)]
def Gy (lv k:Int)(s:List UInt8):Option Int:=List.rec none (fun e _ ih=>bi (aG e.1 lv) (bi (aG e.2.1 k) (bi (strEq e.2.2.1 s) (some e.2.2.2) ih) ih) ih) Q8
def jw (args:List j3)(m:Mem):iR:=match args with
 | [.ptr r off,.int .i64 lv]=>K5 (m.get r) fun rs n rows=>ob (cell1 rs n rows off) fun v=>ob (lenOf v) fun len=>
   Nat.rec (vSl v (one (.int .i64 0) (V3 2 m)) (fun _ _ _ _=>one (.int .i64 0) (V3 2 m)) (fun _ _ _ _=>one (.int .i64 0) (V3 2 m))) (fun _ _=>vSl v none (fun id o _ _=>tok id o v r off lv) (fun id o _ _=>tok id o v r off lv)) len
 | _=>none
where
 tok (id o:Nat) (v:j3) (r off:Nat) (lv:Int):iR:=K5 (m.get id) fun rs n rows=>ob (eT rs n rows o 2) fun l=>match l with
  | [.int .i64 k,.str s]=>Option.rec (one (.int .i64 0) (V3 2 m)) (fun kd=>ob (F3 (V3 2 m).next 2 v 1 none) fun p=>storeAt (iM (V3 2 m) p.2) r off [p.1] fun m'=>one (.int .i64 kd) m') (Gy lv k s)
  | _=>none
def jY (sep:List UInt8)(l:List (List UInt8)):List UInt8:=List.rec [] (fun s t ih=>List.rec s (fun _ _ _=>dz s (dz sep ih)) t) l
def uU (l:List (List j3)):Option (List (List UInt8)):=List.rec (some []) (fun r _ ih=>match r with
 | [.str s]=>ob ih fun t=>some (s::t)
 | _=>none) l
def Jt (c:UInt8)(s:List UInt8):Bool:=List.rec false (fun b _ ih=>bi (Nat.beq b.toNat c.toNat) true ih) s
def yZ (c:UInt8)(s:List UInt8):Int:=List.rec (Int.negSucc 0) (fun b _ ih=>bi (Nat.beq b.toNat c.toNat) 0 (bi (aG ih (Int.negSucc 0)) (Int.negSucc 0) (ih+1))) s
def za (c:UInt8)(s:List UInt8):Nat:=List.rec 0 (fun b _ ih=>bi (Nat.beq b.toNat c.toNat) (Nat.succ ih) ih) s
def adD (fi fn fj nx:Nat)(f:FuncId)(args:List j3)(bs:List NB):Option Ans:=
 bi (Nat.beq f fi) (match args,bs with
  | [.str s,.str [c]],[]=>bi (Nat.blt (len' s) 1000000) (some ⟨.int .i64 (yZ c s),[]⟩) none
  | _,_=>none)
 (bi (Nat.beq f fn) (match args,bs with
  | [.str s,.str [c]],[]=>bi (Nat.blt (len' s) 1000000) (some ⟨.int .i64 (.ofNat (za c s)),[]⟩) none
  | _,_=>none)
 (bi (Nat.beq f fj) (match args,bs with
  | [v,.str sep],[.cells 1 rows]=>vSl v none
    (fun id off n c=>bi (Nat.beq id nx) (bi (Nat.ble n c) (bi (Nat.blt n 1000000) (ob (takeN n (fJ off rows)) fun l=>ob (uU l) fun ws=>bi (Nat.blt (len' (jY sep ws)) 1000000) (some ⟨.str (jY sep ws),[]⟩) none) none) none) none)
    (fun id off n _=>bi (Nat.beq id nx) (bi (Nat.blt n 1000000) (ob (takeN n (fJ off rows)) fun l=>ob (uU l) fun ws=>bi (Nat.blt (len' (jY sep ws)) 1000000) (some ⟨.str (jY sep ws),[]⟩) none) none) none)
  | [.nilSlice,.str _],[]=>some ⟨.str [],[]⟩
  | _,_=>none) none))
set_option maxRecDepth 100000
set_option maxHeartbeats 1000000
def left (seen:List Nat):List (j3×j3)→Nat→List (Nat×(j3×j3))
 | [],_=>[]
 | e::es,i=>if vF i seen=true then left seen es (i+1) else (i,e)::left seen es (i+1)
theorem ze (n x:Nat)(l:List Nat):vF n (x::l)=bi (Nat.beq x n) true (vF n l):=rfl
theorem Gz (n:Nat)(l:List Nat):vF n (n::l)=true:=by rw [ze,Nat.beq_refl];rfl
theorem wP {n x:Nat}(h:x≠n)(l:List Nat):vF n (x::l)=vF n l:=by
 rw [ze,show Nat.beq x n=false from by
  cases hb:Nat.beq x n with
  | false=>rfl
  | true=>exact absurd (Nat.eq_of_beq_eq_true hb) h];rfl
theorem left_skip (j:Nat)(seen:List Nat):∀(es:List (j3×j3)) (k:Nat),j<k→left (j::seen) es k=left seen es k
 | [],_,_=>rfl
 | e::es,k,h=>by
  simp only [left]
  rw [wP (by omega),left_skip j seen es (k+1) (by omega)]
theorem mP {seen:List Nat}:∀{es:List (j3×j3)} {i:Nat} {p:Nat×(j3×j3)},p∈left seen es i→i≤p.1∧es[p.1-i]?=some p.2∧vF p.1 seen=false
 | e::es,i,p,h=>by
  simp only [left] at h
  have next:p∈left seen es (i+1)→i≤p.1∧(e::es)[p.1-i]?=some p.2∧vF p.1 seen=false:=fun h=>by
   obtain⟨h1,h2,h3⟩:=mP h
   refine⟨by omega,?_,h3⟩
   rw [show p.1-i=(p.1-(i+1))+1 from by omega,List.getElem?_cons_succ];exact h2
  split at h
  ·exact next h
  ·rename_i hs
   rcases List.mem_cons.1 h with rfl | h
   ·exact⟨Nat.le_refl _,by simp,by simpa using hs⟩
   ·exact next h
theorem jy {seen:List Nat}:∀{es:List (j3×j3)} {i:Nat} {p:Nat×(j3×j3)},p∈left seen es i→(left seen es i).Perm (p::left (p.1::seen) es i)
 | e::es,i,p,h=>by
  have hm:=mP h
  simp only [left] at h ⊢
  by_cases hs:vF i seen=true
  ·rw [if_pos hs] at h ⊢
   have hne:p.1≠i:=fun e=>by rw [e,hs] at hm;cases hm.2.2
   rw [wP hne,if_pos hs]
   exact jy h
  ·rw [if_neg hs] at h ⊢
   rcases List.mem_cons.1 h with rfl | h
   ·rw [Gz,if_pos rfl,left_skip _ _ _ _ (Nat.lt_succ_self _)]
   ·have:=(mP h).1
    rw [wP (by omega),if_neg hs]
    exact ((jy h).cons _).trans (List.Perm.swap ..)
theorem Cm (es:List (j3×j3)):∀i,(left [] es i).map (·.2)=es:=by
 induction es with
 | nil=>intro i;rfl
 | cons e es ih=>intro i;simp [left,ih,vF]
theorem wQ (es:List (j3×j3)):∀i,(left [] es i).length=es.length:=fun i=>by
 have:=congrArg List.length (Cm es i);simpa using this
theorem uV (m:Mem)(id mp since:Nat)(seen:List Nat):∀(es:List (j3×j3)) (i:Nat),
  nexts m id mp since seen es i=(left seen es i).map fun p=>⟨.tuple [.bool true,p.2.1,p.2.2],m.set id (.iter (some mp) since (p.1::seen))⟩
 | [],_=>rfl
 | e::es,i=>by
  have h:nexts m id mp since seen (e::es) i=bi (vF i seen) (nexts m id mp since seen es (i+1)) (⟨.tuple [.bool true,e.1,e.2],m.set id (.iter (some mp) since (i::seen))⟩::nexts m id mp since seen es (i+1)):=rfl
  rw [h,uV m id mp since seen es (i+1)]
  simp only [left]
  cases vF i seen<;>rfl
theorem Cn {it:OF}{cf:y8}{ls:List j3}{env:T j3}{m:Mem}{i s:Nat}{seen:List Nat}{es:List (j3×j3)}(h:it ls env=.ptr i 0)(hl:m.lim≤i)
  (hi:m.get i=some (.iter (some s) es.length seen)) (hs:m.get s=some (.map es)):
  ∃l,xw it cf ls env m=some l∧∀r∈l,(left seen es 0=[]∧r=⟨.tuple [.bool false],m⟩)∨∃p∈left seen es 0,r=⟨.tuple [.bool true,p.2.1,p.2.2],m.set i (.iter (some s) es.length (p.1::seen))⟩:=by
 have e:xw it cf ls env m=some (Br m (nexts m i s es.length seen es 0)):=by
  show iP (it ls env) _=_
  rw [h]
  show bi (Nat.beq 0 0) (bi (Nat.blt i m.lim) none _) none=_
  rw [show Nat.blt i m.lim=false from by
   cases hb:Nat.blt i m.lim with
   | false=>rfl
   | true=>have:=Nat.blt_eq.mp hb;omega]
  show CQ (m.get i) _ _=_
  rw [hi]
  show vEs (m.get s) _=_
  rw [hs]
  show bi (Nat.beq (len' es) es.length) _ _=_
  rw [C8,Nat.beq_refl]
  rfl
 refine⟨_,e,fun r hr=>?_⟩
 rw [uV] at hr
 match hl:left seen es 0 with
 | []=>
  rw [hl] at hr
  exact .inl ⟨rfl,List.mem_singleton.1 hr⟩
 | q::t=>
  rw [hl] at hr
  have hr:r∈(q::t).map fun p=>(⟨.tuple [.bool true,p.2.1,p.2.2],m.set i (.iter (some s) es.length (p.1::seen))⟩:VM):=hr
  obtain⟨p,h1,h2⟩:=List.mem_map.1 hr
  exact .inr ⟨p,h1,h2.symm⟩
theorem zf {it:OF}{ls:List j3}{env:T j3}{m:Mem}{i s j:Nat}{seen:List Nat}{es:List (j3×j3)}{e:j3×j3}(h:it ls env=.ptr i 0)
  (hi:m.get i=some (.iter (some s) es.length (j::seen))) (hs:m.get s=some (.map es)) (hj:es[j]?=some e):kY it ls env m=some (.tuple [e.1,e.2]):=by
 show iP (it ls env) _=_
 rw [h]
 show bi (Nat.beq 0 0) (CQ (m.get i) none _) none=_
 rw [hi]
 show vEs (m.get s) _=_
 rw [hs]
 show bi (Nat.beq (len' es) es.length) (ob (sW j es) _) _=_
 rw [C8,Nat.beq_refl,cZ,hj]
 rfl
theorem sF (k:List UInt8):∀(es:List (j3×j3)) (i:Nat),(∀e∈es,∃s,e.1=.str s∧s≠k)→findKey eqStr (.str k) es i=some none
 | [],_,_=>rfl
 | e::es,i,h=>by
  obtain⟨s,h1,h2⟩:=h e (List.mem_cons_self ..)
  show ob (eqStr (.str k) e.1) _=_
  rw [h1]
  show bi (strEq k s) _ _=_
  rw [bK,beq_eq_false_iff_ne.2 (Ne.symm h2)]
  exact sF k es (i+1) fun e he=>h e (List.mem_cons_of_mem _ he)
theorem zh (k:List UInt8)(es:List (j3×j3))(h:∀e∈es,∃s,e.1=.str s∧s≠k):I6 eqStr 1 (.str k) es=some none:=by
 cases es with
 | nil=>rw [yV];rfl
 | cons e es=>rw [wN];exact sF k (e::es) 0 h
theorem AV {k:j3}{l:List (j3×j3)}(h:Ck k l=true):∃s,k=.str s∧∀e∈l,∃t,e.1=.str t∧s≠t:=by
 cases k with
 | str s=>
  refine⟨s,rfl,?_⟩
  induction l with
  | nil=>intro e he;cases he
  | cons x l ih=>
   obtain⟨kx,vx⟩:=x
   intro e he
   cases kx with
   | str t=>
    have h:bi (strEq s t) false (Ck (.str s) l)=true:=h
    rw [bK] at h
    by_cases hst:s=t
    ·rw [beq_iff_eq.2 hst] at h;cases h
    ·rw [beq_eq_false_iff_ne.2 hst] at h
     rcases List.mem_cons.1 he with rfl | he
     ·exact⟨t,rfl,hst⟩
     ·exact ih h e he
   | _=>cases h
 | _=>cases h
theorem pI:∀{l:List (j3×j3)},strKeys l=true→(∀e∈l,∃s,e.1=.str s)∧(l.map (·.1)).Nodup
 | [],_=>⟨fun e he=>(by cases he),List.nodup_nil⟩
 | x::l,h=>by
  obtain⟨h1,h2⟩:=V4 (show bi (Ck x.1 l) (strKeys l) false=true from h)
  obtain⟨s,hs,hl⟩:=AV h1
  obtain⟨g1,g2⟩:=pI h2
  refine⟨fun e he=>?_,?_⟩
  ·rcases List.mem_cons.1 he with rfl | he
   ·exact⟨s,hs⟩
   ·exact g1 e he
  ·rw [List.map_cons]
   refine List.nodup_cons.2 ⟨fun hm=>?_,g2⟩
   obtain⟨e,he,hk⟩:=List.mem_map.1 hm
   obtain⟨t,ht,hne⟩:=hl e he
   rw [hs] at hk
   rw [ht] at hk
   cases hk
   exact hne rfl
theorem zi:∀{l:List (j3×j3)},SV l=true→∀e∈l,∃a b,e.2=.agg [a,b]∧bM a=true∧bM b=true
 | (k,.agg [a,b])::l,h,e,he=>by
  obtain⟨h1,h2⟩:=V4 (show bi (bM a) (bi (bM b) (SV l) false) false=true from h)
  obtain⟨h2,h3⟩:=V4 h2
  rcases List.mem_cons.1 he with rfl | he
  ·exact⟨a,b,rfl,h1,h2⟩
  ·exact zi h3 e he
def uW:SC:=d9 (j4 (u6 (xw (D5 (gL gH))) (rcP (pExt oL0 0) (sR sH) j6))) (d9 (l5 (D5 (gR gH)) l7 (lg 0)) (o7 1 (d9 (j4 (A9 (kY (D5 (gL gH))) (j5 (pExt oL0 0) (j5 (pExt oL1 1)
 (rcL (bO [(.int .i64 (.ofNat 0)),.nilFunc]) (sL (sR sH)) (rcP (J6 oL2) (sR (sL sH)) (u6 (C9 2 oL1 oL2) j6))))))) (j4 (A9 (I5 2 (D5 (gL (gR gH)))) (u6 (y5 eqStr 1 (D5 (gL (gL gH))) (D5 (gR (gL gH))) oL0) j6))))))
def KD:SFn:=⟨false,[(some 3),(some 0)],6,[],(d9 (j4 (rcE (iU (D5 gH)) (sL sH) j6)) (o7 0 (D9 uW))),none⟩
def kS (s it d b k p:j3):T j3:=.nd (.nd (.nd .e d .e) it (.nd .e p .e)) s (.nd (.nd .e k .e) b .e)
def mkB (u:Bool)(l:List (j3×j3)):Blk:=match u with
 | false=>.map l
 | true=>.mapU l
structure Ju (m0:Mem)(d s it:Nat)(u:Bool)(es:List (j3×j3))(m:Mem)(seen:List Nat)(cur:List (j3×j3)):Prop where
 ok:m.Ok
 lim:m.lim=m0.lim
 dl:m0.lim≤d
 dn:d<m0.next
 ds:d≠s
 sn:s<m0.next
 itn:it=m0.next
 mn:m0.next<m.next
 gs:m.get s=some (.map es)
 gi:m.get it=some (.iter (some s) es.length seen)
 gd:m.get d=some (mkB u cur)
 old:∀i,i<m0.next→i≠d→m.get i=m0.get i
 new:∀i,m0.next≤i→∀b,m.get i=some b→ah b=false
 len:m.next+(left seen es 0).length=m0.next+1+es.length
structure Mv (m0:Mem)(d:Nat)(u:Bool)(all:List (j3×j3))(n:Nat)(m:Mem):Prop where
 ok:m.Ok
 lim:m.lim=m0.lim
 next:m.next=m0.next+1+n
 gd:∃l,m.get d=some (mkB u l)∧all.Perm l
 old:∀i,i<m0.next→i≠d→m.get i=m0.get i
 new:∀i,m0.next≤i→∀b,m.get i=some b→ah b=false
theorem KE {a b:Nat}(h:b≤a):Nat.blt a b=false:=by
 cases hb:Nat.blt a b with
 | false=>rfl
 | true=>have:=Nat.blt_eq.mp hb;omega
theorem Co {m0:Mem}{d s it:Nat}{u:Bool}{es:List (j3×j3)}{m:Mem}{seen:List Nat}{cur:List (j3×j3)}(h:Ju m0 d s it u es m seen cur)(hm0:m0.lim≤m0.next)(h2:∀e∈es,∃a b,e.2=.agg [a,b]∧bM a=true∧bM b=true)
  (hk:(∀e∈cur++(left seen es 0).map (·.2),∃t,e.1=.str t)∧((cur++(left seen es 0).map (·.2)).map (·.1)).Nodup) (cf:y8) (fu:Nat) (b k p:j3):
  ∃outs,uW cf fu none (kS (.map s) (.ptr it 0) (.map d) b k p) m []=some outs∧∀o∈outs,
   (left seen es 0=[]∧∃env,o=⟨.exit 0,env,m,[],none⟩)∨
   ∃q∈left seen es 0,∃m' b' k' p',o=⟨.normal,kS (.map s) (.ptr it 0) (.map d) b' k' p',m',[],none⟩∧Ju m0 d s it u es m' (q.1::seen) (cur ++ [q.2]):=by
 unfold uW
 rw [mK,qm]
 refine P9 (g1:=fun o:Out=>(left seen es 0=[]∧o=⟨.normal,kS (.map s) (.ptr it 0) (.map d) (.bool false) k p,m,[],none⟩)∨
  ∃q∈left seen es 0,o=⟨.normal,kS (.map s) (.ptr it 0) (.map d) (.bool true) k p,m.set it (.iter (some s) es.length (q.1::seen)),[],none⟩) ?_ ?_
 ·refine P9 (g1:=fun e:EM=>(left seen es 0=[]∧e=⟨kS (.map s) (.ptr it 0) (.map d) (.bool false) k p,m,none,[]⟩)∨
   ∃q∈left seen es 0,e=⟨kS (.map s) (.ptr it 0) (.map d) (.bool true) k p,m.set it (.iter (some s) es.length (q.1::seen)),none,[]⟩) ?_ ?_
  ·rw [AJ]
   refine P9 (Cn (it:=D5 (gL gH)) (env:=kS (.map s) (.ptr it 0) (.map d) b k p) rfl (by rw [h.lim,h.itn];exact hm0) h.gi h.gs) ?_
   rintro r (⟨h1,rfl⟩ | ⟨q,h1,rfl⟩)
   ·exact⟨_,rfl,fun o ho=>.inl ⟨h1,List.mem_singleton.1 ho⟩⟩
   ·exact⟨_,rfl,fun o ho=>.inr ⟨q,h1,List.mem_singleton.1 ho⟩⟩
  ·rintro e (⟨h1,rfl⟩ | ⟨q,h1,rfl⟩)
   ·exact⟨_,rfl,fun o ho=>.inl ⟨h1,List.mem_singleton.1 ho⟩⟩
   ·exact⟨_,rfl,fun o ho=>.inr ⟨q,h1,List.mem_singleton.1 ho⟩⟩
 ·rintro o (⟨h1,rfl⟩ | ⟨q,h1,rfl⟩)
  ·exact⟨_,rfl,fun o ho=>.inl ⟨h1,_,List.mem_singleton.1 ho⟩⟩
  ·obtain⟨_,hq2,hq3⟩:=mP h1
   rw [Nat.sub_zero] at hq2
   have hqe:q.2∈es:=List.mem_of_getElem? hq2
   obtain⟨x,y,hxy,hx1,hy1⟩:=h2 q.2 hqe
   have hp:=jy h1
   have hpm:(cur++(left seen es 0).map (·.2)).Perm (cur++q.2::(left (q.1::seen) es 0).map (·.2)):=(hp.map _).append_left _
   have hmem:q.2∈cur++(left seen es 0).map (·.2):=List.mem_append_right _ (List.mem_map_of_mem h1)
   obtain⟨t,ht⟩:=hk.1 q.2 hmem
   have hfind:I6 eqStr 1 (.str t) cur=some none:=zh t cur fun e he=>by
    obtain⟨t',ht'⟩:=hk.1 e (List.mem_append_left _ he)
    refine⟨t',ht',fun e'=>?_⟩
    have hn:((cur++q.2::(left (q.1::seen) es 0).map (·.2)).map (·.1)).Nodup:=(hpm.map _).nodup hk.2
    rw [List.map_append,List.nodup_append] at hn
    exact hn.2.2 _ (List.mem_map_of_mem he) _ (by rw [List.map_cons];exact List.mem_cons_self ..) (by rw [ht',ht,e'])
   have hit:it<m.next:=by rw [h.itn];exact h.mn
   have hsi:s≠it:=by rw [h.itn];exact Nat.ne_of_lt h.sn
   have hdi:d≠it:=by rw [h.itn];exact Nat.ne_of_lt h.dn
   have hsn:s<m.next:=Nat.lt_trans h.sn h.mn
   have hdn:d<m.next:=Nat.lt_trans h.dn h.mn
   generalize hM:m.set it (.iter (some s) es.length (q.1::seen))=M
   have Mok:M.Ok:=by rw [← hM];exact Mem.Ok.set h.ok hit _
   have Mn:M.next=m.next:=by rw [← hM];rfl
   have Ml:M.lim=m0.lim:=by rw [← hM];exact h.lim
   have Mg:∀i,M.get i=if i=it then some (.iter (some s) es.length (q.1::seen)) else m.get i:=fun i=>by rw [← hM,Mem.K4 h.ok hit]
   have Ms:M.get s=some (.map es):=by rw [Mg,if_neg hsi];exact h.gs
   have Mi:M.get it=some (.iter (some s) es.length (q.1::seen)):=by rw [Mg,if_pos rfl]
   have Md:M.get d=some (mkB u cur):=by rw [Mg,if_neg hdi];exact h.gd
   have hent:∀(env:T j3),gL gH env=.ptr it 0→kY (D5 (gL gH)) [] env M=some (.tuple [q.2.1,q.2.2]):=fun env he=>zf (it:=D5 (gL gH)) he Mi Ms hq2
   have Mlim:M.lim≤M.next:=by rw [Ml,Mn];exact Nat.le_trans hm0 (Nat.le_of_lt h.mn)
   have g1:(M.new (Q9 [x,y])).get d=some (mkB u cur):=by rw [Mem.D7 Mok,if_neg (by rw [Mn];exact Nat.ne_of_lt hdn)];exact Md
   have hput:∀(env:T j3) (ls:List j3),env=kS (.map s) (.ptr it 0) (.map d) (.bool true) (.str t) (.ptr M.next 0)→ls=[.agg [x,y]]→
     y5 eqStr 1 (D5 (gL (gL gH))) (D5 (gR (gL gH))) oL0 cf ls env (M.new (Q9 [x,y]))=some [⟨.undef,(M.new (Q9 [x,y])).set d (mkB u (cur ++ [(.str t,.agg [x,y])]))⟩]:=by
    rintro env ls rfl rfl
    rw [uS]
    show bi (Nat.blt d M.lim) none (ob (msB ((M.new (Q9 [x,y])).get d) eqStr 1 (.str t) (.agg [x,y])) _)=_
    rw [KE (by rw [Ml];exact h.dl),g1]
    cases u with
    | false=>
     show ob (ob (I6 eqStr 1 (.str t) cur) _) _=_
     rw [hfind];rfl
    | true=>
     show ob (ob (I6 eqStr 1 (.str t) cur) _) _=_
     rw [hfind];rfl
   refine⟨[⟨.normal,kS (.map s) (.ptr it 0) (.map d) (.bool true) (.str t) (.ptr M.next 0),(M.new (Q9 [x,y])).set d (mkB u (cur ++ [(.str t,.agg [x,y])])),[],none⟩],?_,fun o ho=>.inr ⟨q,h1,_,_,_,_,List.mem_singleton.1 ho,?_⟩⟩
   ·have hst:∀(env:T j3) (c:j3),C9 2 oL1 oL2 cf [.str t,.ptr M.next 0,.agg [x,y],.str t,.tuple [.str t,.agg [x,y]]] env (M.new (Q9 [c,.nilFunc]))=some [⟨.undef,M.new (Q9 [x,y])⟩]:=fun env c=>by
     show storeAt (M.new (Q9 [c,.nilFunc])) M.next 0 [x,y] (fun m'=>one .undef m')=_
     rw [dN (m:=M.new (Q9 [c,.nilFunc])) Mlim (by show bi (bM x) (bi (bM y) true false) false=true;rw [hx1,hy1];rfl),Mem.D7 Mok,if_pos rfl,P8 (by simp) (by simp),G5,Mem.wM Mok]
     rfl
    have hent':=hent (kS (.map s) (.ptr it 0) (.map d) (.bool true) k p) rfl
    have hput':=hput _ _ rfl rfl
    have hld:ldN ((M.new (Q9 [x,y])).get M.next) 0 2=some (.agg [x,y]):=by
     rw [Mem.D7 Mok,if_pos rfl,S9 (by simp) (by simp)];rfl
    rw [ht,hxy] at hent'
    simp only [kS] at hent' hput' ⊢
    simp [hent',hst,hput',hld,bO]
   ·have hq:q.2=(.str t,.agg [x,y]):=by rw [← ht,← hxy]
    rw [← hq]
    have Nok:(M.new (Q9 [x,y])).Ok:=Mem.Ok.new Mok _
    have hdn':d<(M.new (Q9 [x,y])).next:=by show d<M.next+1;rw [Mn];exact Nat.lt_succ_of_lt hdn
    have gg:∀i,((M.new (Q9 [x,y])).set d (mkB u (cur ++ [q.2]))).get i=if i=d then some (mkB u (cur ++ [q.2])) else if i=M.next then some (Q9 [x,y]) else if i=it then some (.iter (some s) es.length (q.1::seen)) else m.get i:=fun i=>by
     rw [Mem.K4 Nok hdn',Mem.D7 Mok,Mg]
    exact {
     ok:=Mem.Ok.set Nok hdn' _
     lim:=Ml
     dl:=h.dl
     dn:=h.dn
     ds:=h.ds
     sn:=h.sn
     itn:=h.itn
     mn:=by show m0.next<M.next+1;rw [Mn];exact Nat.lt_succ_of_lt h.mn
     gs:=by rw [gg,if_neg (Ne.symm h.ds),if_neg (by rw [Mn];exact Nat.ne_of_lt hsn),if_neg hsi];exact h.gs
     gi:=by rw [gg,if_neg (Ne.symm hdi),if_neg (by rw [Mn];exact Nat.ne_of_lt hit),if_pos rfl]
     gd:=by rw [gg,if_pos rfl]
     old:=fun i hi hid=>by rw [gg,if_neg hid,if_neg (by rw [Mn];have:=h.mn;omega),if_neg (by rw [h.itn];omega)];exact h.old i hi hid
     new:=fun i hi b' hb=>by
      rw [gg] at hb
      split at hb
      ·cases hb;cases u<;>rfl
      ·split at hb
       ·cases hb;rfl
       ·split at hb
        ·cases hb;rfl
        ·exact h.new i hi b' hb
     len:=by
      have:=h.len
      have hl:=hp.length_eq
      rw [List.length_cons] at hl
      show M.next+1 + _=_
      rw [Mn]
      omega}
theorem Mw {m0:Mem}{d s it:Nat}{u:Bool}{es:List (j3×j3)}(hm0:m0.lim≤m0.next)(h2:∀e∈es,∃a b,e.2=.agg [a,b]∧bM a=true∧bM b=true)(cf:y8)(fu:Nat){all:List (j3×j3)}
  (hk:(∀e∈all,∃t,e.1=.str t)∧(all.map (·.1)).Nodup):
  ∀(n:Nat) (m:Mem) (seen:List Nat) (cur:List (j3×j3)) (b k p:j3),Ju m0 d s it u es m seen cur→(left seen es 0).length=n→all.Perm (cur++(left seen es 0).map (·.2))→∀N,n<N→
   ∃outs,aD (fun env m k=>uW cf fu none env m k) N (kS (.map s) (.ptr it 0) (.map d) b k p) m []=some outs∧∀o∈outs,∃env m',o=⟨.exit 0,env,m',[],none⟩∧Mv m0 d u all es.length m':=by
 intro n
 induction n with
 | zero=>
  intro m seen cur b k p h hl hp N hN
  obtain⟨N,rfl⟩:∃N',N=N'+1:=⟨N-1,by omega⟩
  have hnil:left seen es 0=[]:=List.length_eq_zero_iff.1 hl
  rw [y7]
  refine P9 (Co h hm0 h2 ⟨fun e he=>hk.1 e (hp.symm.subset he),(hp.map _).nodup hk.2⟩ cf fu b k p) ?_
  rintro o (⟨_,env,rfl⟩ | ⟨q,hq,_⟩)
  ·refine⟨_,rfl,fun o ho=>?_⟩
   obtain rfl:=List.mem_singleton.1 ho
   refine⟨env,m,rfl,h.ok,h.lim,?_,⟨cur,h.gd,by rw [hnil] at hp;simpa using hp⟩,h.old,h.new⟩
   have:=h.len
   rw [hl] at this
   exact this
  ·rw [hnil] at hq;cases hq
 | succ n ih=>
  intro m seen cur b k p h hl hp N hN
  obtain⟨N,rfl⟩:∃N',N=N'+1:=⟨N-1,by omega⟩
  rw [y7]
  refine P9 (Co h hm0 h2 ⟨fun e he=>hk.1 e (hp.symm.subset he),(hp.map _).nodup hk.2⟩ cf fu b k p) ?_
  rintro o (⟨hnil,_⟩ | ⟨q,hq,m',b',k',p',rfl,h'⟩)
  ·rw [hnil] at hl;cases hl
  ·rw [pG]
   have hpk:=jy hq
   refine ih m' (q.1::seen) (cur ++ [q.2]) b' k' p' h' ?_ ?_ N (by omega)
   ·have:=hpk.length_eq
    rw [hl,List.length_cons] at this
    omega
   ·refine hp.trans (((hpk.map _).append_left cur).trans ?_)
    rw [List.append_assoc]
    exact List.Perm.refl _
theorem oo (n:Nat)(m:Mem):(V3 n m).next=m.next+n∧(V3 n m).lim=m.lim:=by
 induction n generalizing m with
 | zero=>exact⟨rfl,rfl⟩
 | succ n ih=>
  have:V3 (n+1) m=V3 n (m.new .dead):=rfl
  rw [this]
  obtain⟨h1,h2⟩:=ih (m.new .dead)
  exact⟨by rw [h1];show m.next+1+n=_;omega,h2⟩
theorem sG (n:Nat){m:Mem}(hm:m.Ok):(V3 n m).Ok∧∀i,(V3 n m).get i=if m.next≤i∧i<m.next+n then some .dead else m.get i:=by
 induction n generalizing m with
 | zero=>exact⟨hm,fun i=>by rw [if_neg (by omega)];rfl⟩
 | succ n ih=>
  have:V3 (n+1) m=V3 n (m.new .dead):=rfl
  rw [this]
  obtain⟨h1,h2⟩:=ih (Mem.Ok.new hm .dead)
  refine⟨h1,fun i=>?_⟩
  rw [h2,Mem.D7 hm]
  show (if m.next+1≤i∧i<m.next+1+n then _ else if i=m.next then some Blk.dead else m.get i)=_
  by_cases h:i=m.next
  ·rw [if_neg (by omega),if_pos h,if_pos (by omega)]
  ·by_cases h':m.next+1≤i∧i<m.next+1+n
   ·rw [if_pos h',if_pos (by omega)]
   ·rw [if_neg h',if_neg h,if_neg (by omega)]
theorem Jv {P:Program}{K:Known}(hK:KOk P K){f:FuncId}(hf:K.fns f=some KD)(he:∀args m,K.eff f args m=none){args:List j3}{m:Mem}{outs:List VM}(h:AU args m=some outs):
  Dm P f∧∀{ι:Inj} {w:World},RM P K.base ι m w.heap→ltL (m.nm ι) args→CallsIn Fence.wide 0 P f (l8 ι args).toArray w (F9 P K.base ι m w outs):=by
 obtain⟨d,s,rfl⟩:∃d s,args=[.map d,.map s]:=by
  unfold AU at h
  split at h
  ·exact⟨_,_,rfl⟩
  ·cases h
 have h:bi (Nat.blt d m.lim) none (bi (Nat.beq d s) none (vEs (m.get s) fun es=>JW (m.get d) fun ds=>bi (strKeys (dz ds es)) (bi (SV es) (bi (Nat.blt (len' es) 100000) (one (.tuple []) ((V3 (Nat.succ (len' es)) m).set d (.mapU (dz ds es)))) none) none) none))=some outs:=h
 obtain⟨c1,h⟩:=dR h
 obtain⟨c2,h⟩:=dR h
 obtain⟨es,c3,h⟩:=uo h
 obtain⟨ds,c4,h⟩:=vV h
 obtain⟨c5,h⟩:=p9 h
 obtain⟨c6,h⟩:=p9 h
 obtain⟨_,h⟩:=p9 h
 cases h
 rw [L9] at c5 ⊢
 rw [C8]
 have hk:=pI c5
 have h2:=zi c6
 have hds:d≠s:=fun e=>by rw [e,Nat.beq_refl] at c2;cases c2
 have hdl:m.lim≤d:=Nat.le_of_not_lt fun hh=>by rw [show Nat.blt d m.lim=true from Nat.blt_eq▸hh] at c1;cases c1
 obtain⟨u,hu⟩:∃u,m.get d=some (mkB u ds):=by
  rcases c4 with c4 | c4
  ·exact⟨false,c4⟩
  ·exact⟨true,c4⟩
 refine kR hK hf fun hok hln=>?_
 have hok:m.Ok:=hok
 have hsn:=Mem.y9 hok c3
 have hdn:=Mem.y9 hok hu
 have g1:∀i,(m.new (.iter (some s) es.length [])).get i=if i=m.next then some (.iter (some s) es.length []) else m.get i:=fun i=>Mem.D7 hok _ i
 have inv:Ju m d s m.next u es (m.new (.iter (some s) es.length [])) [] ds:={
  ok:=Mem.Ok.new hok _
  lim:=rfl
  dl:=hdl
  dn:=hdn
  ds:=hds
  sn:=hsn
  itn:=rfl
  mn:=Nat.lt_succ_self _
  gs:=by rw [g1,if_neg (by omega)];exact c3
  gi:=by rw [g1,if_pos rfl]
  gd:=by rw [g1,if_neg (by omega)];exact hu
  old:=fun i hi _=>by rw [g1,if_neg (by omega)]
  new:=fun i hi b hb=>by
   rw [g1] at hb
   split at hb
   ·cases hb;rfl
   ·have:=Mem.y9 hok hb;omega
  len:=by show m.next+1 + _=_;rw [wQ]}
 obtain⟨outs,ho1,ho2⟩:=Mw (all:=ds++es) hln h2 (w9 K (es.length+1) 0) (es.length+1) hk es.length _ [] ds .undef .undef .undef inv (wQ es 0) (by rw [Cm]) (es.length+1) (Nat.lt_succ_self _)
 have key:∃l,w9 K (es.length+1) 1 (.func f) [.map d,.map s] m=some l∧∀r∈l,∃m',r=⟨.tuple [],m'⟩∧Mv m d u (ds++es) es.length m':=by
  rw [U3]
  show ∃l,(Option.rec (ob (K.fns f) fun sf=>bi sf.pure (bH K (w9 K (es.length+1) 0) (es.length+1) f sf [.map d,.map s] m) (D6 (w9 K (es.length+1) 0) (qE K (w9 K (es.length+1) 0) (es.length+1)) (es.length+1) sf [.map d,.map s] m)) (fun l=>some l) (K.eff f [.map d,.map s] m):iR)=some l∧_
  rw [he,hf]
  show ∃l,bnd (d9 (j4 (rcE (iU (D5 gH)) (sL sH) j6)) (o7 0 (D9 uW)) (w9 K (es.length+1) 0) (es.length+1) none (kS (.map s) .undef (.map d) .undef .undef .undef) m []) (leave _ [])=some l∧_
  refine P9 (g1:=fun o:Out=>∃env m',o=⟨.normal,env,m',[],none⟩∧Mv m d u (ds++es) es.length m') ?_ ?_
  ·rw [mK,qm,Pg]
   have hr:iU (D5 gH) (w9 K (es.length+1) 0) [] (kS (.map s) .undef (.map d) .undef .undef .undef) m=some [⟨.ptr m.next 0,m.new (.iter (some s) es.length [])⟩]:=by
    show vEs (m.get s) _=_
    rw [c3]
    show one _ (m.new (.iter (some s) (len' es) []))=_
    rw [C8]
    rfl
   rw [hr]
   show ∃l,bnd (aD (fun env m k=>uW (w9 K (es.length+1) 0) (es.length+1) none env m k) (es.length+1) (kS (.map s) (.ptr m.next 0) (.map d) .undef .undef .undef) (m.new (.iter (some s) es.length [])) []) (NU 0)=some l∧_
   refine P9 ⟨outs,ho1,ho2⟩ ?_
   rintro o ⟨env,m',rfl,hm'⟩
   exact⟨_,rfl,fun r hr=>by
    obtain rfl:=List.mem_singleton.1 hr
    exact⟨env,m',rfl,hm'⟩⟩
  ·rintro o ⟨env,m',rfl,hm'⟩
   exact⟨_,rfl,fun r hr=>by
    obtain rfl:=List.mem_singleton.1 hr
    exact⟨m',rfl,hm'⟩⟩
 obtain⟨l,hl1,hl2⟩:=key
 refine⟨_,_,l,hl1,fun o ho=>?_⟩
 obtain⟨m',rfl,hm'⟩:=hl2 o ho
 refine⟨_,List.mem_singleton.2 rfl,rfl,?_⟩
 obtain⟨d1,d2⟩:=oo (es.length+1) m
 obtain⟨d3,d4⟩:=sG (es.length+1) hok
 have hdn2:d<(V3 (es.length+1) m).next:=by rw [d1];omega
 have gg:∀i,((V3 (es.length+1) m).set d (.mapU (ds++es))).get i=if i=d then some (.mapU (ds++es)) else if m.next≤i∧i<m.next+(es.length+1) then some .dead else m.get i:=fun i=>by
  rw [Mem.K4 d3 hdn2,d4]
 exact {
  next:=by show (V3 (es.length+1) m).next=m'.next;rw [d1,hm'.next];omega
  lim:=by show (V3 (es.length+1) m).lim=m'.lim;rw [d2,hm'.lim]
  ok:=Mem.Ok.set d3 hdn2 _
  old:=fun i hi=>by
   rw [hm'.lim] at hi
   rw [gg,if_neg (by omega),if_neg (by omega),hm'.old i (by omega) (by omega)]
  blk:=fun i b hb=>by
   rw [gg] at hb
   split at hb
   ·rename_i hid
    subst hid
    cases hb
    obtain⟨l',g1,g2⟩:=hm'.gd
    refine⟨_,g1,.inr (.inr ⟨ds++es,l',?_,rfl,g2,hk.1,hk.2⟩)⟩
    cases u
    ·exact .inl rfl
    ·exact .inr rfl
   ·rename_i hid
    split at hb
    ·rename_i hr
     cases hb
     obtain⟨b1,g1⟩:=(hm'.ok.get i).2 (by rw [hm'.next];omega)
     exact⟨b1,g1,.inr (.inl ⟨rfl,hm'.new i hr.1 b1 g1⟩)⟩
    ·have:=Mem.y9 hok hb
     exact⟨b,by rw [hm'.old i this hid];exact hb,.inl rfl⟩}
def W9:List (j3×j3):=Q8.map fun e=>(.int .i64 e.2.2.2,.str e.2.2.1)
def atB (tok:Option (Int×List UInt8))(e:Int×Int×List UInt8×Int):Bool:=match tok with
 | some (k,s)=>decide (e.2.1=k)&&(e.2.2.1==s)
 | none=>false
def jZ (lv:Int)(tok:Option (Int×List UInt8))(e:Int×Int×List UInt8×Int):Bool:=decide (e.1=lv)&&atB tok e
def uX (fl fa:Nat):SC:=d9 (j4 (u6 (xw (D5 gH)) (rcP (pExt oL0 0) (sL sH) j6))) (d9 (l5 (D5 (gL gH)) l7 (lg 0)) (o7 1 (d9 (j4 (A9 (kY (D5 gH)) (j5 (pExt oL0 0) (j5 (pExt oL1 1) (rcP (J6 oL1) (sR sH) (rcP (J6 oL1) (sL (sR sH)) j6))))))
 (d9 (j4 (u6 (o8 fl [(D5 (gR gH))]) (j5 (pIb iEq sEq oL0 (D5 (gL (gL gH)))) (j5 (gP oL0 true (J6 (D5 (gR (gL gH))))) (j5 (gP oL1 true (J6 (D5 (gL (gR gH))))) (u6 (gE oL2 true (o8 fa [oL1,oL0])) (rcP (Z8 oL3 oL0 (x9 (.bool false))) (sR (sR sH)) j6)))))))
  (l5 (D5 (gR (gR gH))) (d9 (j4 (j5 (O7 (D5 (gR (gL gH)))) (j5 (D8 0 oL0) (A9 (iF oL0) (eX (lSl 2 oL0 (some (x9 (.int .i64 (.ofNat 1)))) none) (j5 (O7 (D5 (gR (gL gH)))) (j5 (D8 0 oL0) (u6 (C9 1 oL0 oL2) j6))))))))
   (d9 (j4 (rcP (J6 (D5 (gR gH))) (sL (sL (sL sH))) j6)) o9)) l7)))))
def Cq (fs fl fa:Nat):SFn:=⟨false,[(some 4),(some 3)],8,[.tmp 7],(d9 (j4 (rcP (J6 (x9 (.int .i64 (.ofNat 0)))) (sL (sL (sL sH))) j6)) (d9 (d9 (j4 (u6 (o8 fs []) (rcE (iU oL0) sH j6))) (o7 0 (D9 (uX fl fa))))
 (d9 (j4 (rcP (J6 (x9 (.int .i64 (.ofNat 0)))) (sL (sL (sL sH))) j6)) o9))),none⟩
def aV (it b kd lv r sg cd res:j3):T j3:=.nd (.nd (.nd (.nd .e res .e) lv .e) b (.nd .e sg .e)) it (.nd (.nd .e r .e) kd (.nd .e cd .e))
structure sI (m0 m:Mem)(seen:List Nat):Prop where
 ok:m.Ok
 lim:m.lim=m0.lim
 ll:m0.lim≤m0.next
 mn:m.next=m0.next+2
 gs:m.get m0.next=some (.map W9)
 gi:m.get (m0.next+1)=some (.iter (some m0.next) W9.length seen)
 old:∀i,i<m0.next→m.get i=m0.get i
theorem Mx {j:Nat}{x:j3×j3}(h:W9[j]?=some x):∃e∈Q8,Q8[j]?=some e∧x=(.int .i64 e.2.2.2,.str e.2.2.1):=by
 unfold W9 at h
 rw [List.getElem?_map] at h
 obtain⟨e,h1,h2⟩:=Option.map_eq_some_iff.1 h
 exact⟨e,List.mem_of_getElem? h1,h1,h2.symm⟩
theorem Cr {m0 m:Mem}{seen:List Nat}(h:sI m0 m seen){r off fl fa:Nat}{lv:Int}{tok:Option (Int×List UInt8)}{cf:y8}{v v':j3}{p:Option Blk}{B:Blk}
  (Hl:∀e∈Q8,∀M,cf (.func fl) [.int .i64 e.2.2.2] M=some [⟨.int .i64 e.1,M⟩])
  (Ha:∀e∈Q8,∀M:Mem,(∀i,i<m0.next→M.get i=m0.get i)→cf (.func fa) [.ptr r off,.str e.2.2.1] M=some [⟨.bool (atB tok e),M⟩])
  (hld:ld1 (m0.get r) off=some v) (hr:r<m0.next)
  (hsl:∀e∈Q8,jZ lv tok e=true→F3 (m0.next+2) 2 v 1 none=some (v',p)∧bM v'=true∧v'.cells=[v']∧stB (m0.get r) off [v']=some B∧m0.lim≤r) (fu:Nat) (b kd sg cd res:j3):
  ∃outs,uX fl fa cf fu none (aV (.ptr (m0.next+1) 0) b kd (.int .i64 lv) (.ptr r off) sg cd res) m []=some outs∧∀o∈outs,
   (left seen W9 0=[]∧∃env,o=⟨.exit 0,aV (.ptr (m0.next+1) 0) (.bool false) kd (.int .i64 lv) (.ptr r off) sg cd res,m,[],none⟩∧env=())∨
   ∃q∈left seen W9 0,∃e∈Q8,Q8[q.1]?=some e∧∃M,sI m0 M (q.1::seen)∧
    ((jZ lv tok e=false∧∃b' kd' sg' cd',o=⟨.normal,aV (.ptr (m0.next+1) 0) b' kd' (.int .i64 lv) (.ptr r off) sg' cd' res,M,[],none⟩)∨
     (jZ lv tok e=true∧∃b' kd' sg' cd',o=⟨.ret,aV (.ptr (m0.next+1) 0) b' kd' (.int .i64 lv) (.ptr r off) sg' cd' (.int .i64 e.2.2.2),(iM M p).set r B,[],none⟩)):=by
 unfold uX
 rw [mK,qm]
 refine P9 (g1:=fun o:Out=>(left seen W9 0=[]∧o=⟨.normal,aV (.ptr (m0.next+1) 0) (.bool false) kd (.int .i64 lv) (.ptr r off) sg cd res,m,[],none⟩)∨
  ∃q∈left seen W9 0,o=⟨.normal,aV (.ptr (m0.next+1) 0) (.bool true) kd (.int .i64 lv) (.ptr r off) sg cd res,m.set (m0.next+1) (.iter (some m0.next) W9.length (q.1::seen)),[],none⟩) ?_ ?_
 ·refine P9 (g1:=fun e:EM=>(left seen W9 0=[]∧e=⟨aV (.ptr (m0.next+1) 0) (.bool false) kd (.int .i64 lv) (.ptr r off) sg cd res,m,none,[]⟩)∨
   ∃q∈left seen W9 0,e=⟨aV (.ptr (m0.next+1) 0) (.bool true) kd (.int .i64 lv) (.ptr r off) sg cd res,m.set (m0.next+1) (.iter (some m0.next) W9.length (q.1::seen)),none,[]⟩) ?_ ?_
  ·rw [AJ]
   refine P9 (Cn (it:=D5 gH) (env:=aV (.ptr (m0.next+1) 0) b kd (.int .i64 lv) (.ptr r off) sg cd res) rfl (by rw [h.lim];have:=h.ll;omega) h.gi h.gs) ?_
   rintro r (⟨h1,rfl⟩ | ⟨q,h1,rfl⟩)
   ·exact⟨_,rfl,fun o ho=>.inl ⟨h1,List.mem_singleton.1 ho⟩⟩
   ·exact⟨_,rfl,fun o ho=>.inr ⟨q,h1,List.mem_singleton.1 ho⟩⟩
  ·rintro e (⟨h1,rfl⟩ | ⟨q,h1,rfl⟩)
   ·exact⟨_,rfl,fun o ho=>.inl ⟨h1,List.mem_singleton.1 ho⟩⟩
   ·exact⟨_,rfl,fun o ho=>.inr ⟨q,h1,List.mem_singleton.1 ho⟩⟩
 ·rintro o (⟨h1,rfl⟩ | ⟨q,h1,rfl⟩)
  ·exact⟨_,rfl,fun o ho=>.inl ⟨h1,(),List.mem_singleton.1 ho,rfl⟩⟩
  ·obtain⟨_,hq2,hq3⟩:=mP h1
   rw [Nat.sub_zero] at hq2
   obtain⟨e,he,hej,heq⟩:=Mx hq2
   have hit:m0.next+1<m.next:=by rw [h.mn];omega
   generalize hM:m.set (m0.next+1) (.iter (some m0.next) W9.length (q.1::seen))=M
   have Mg:∀i,M.get i=if i=m0.next+1 then some (.iter (some m0.next) W9.length (q.1::seen)) else m.get i:=fun i=>by rw [← hM,Mem.K4 h.ok hit]
   have inv:sI m0 M (q.1::seen):={
    ok:=by rw [← hM];exact Mem.Ok.set h.ok hit _
    lim:=by rw [← hM];exact h.lim
    ll:=h.ll
    mn:=by rw [← hM];exact h.mn
    gs:=by rw [Mg,if_neg (by omega)];exact h.gs
    gi:=by rw [Mg,if_pos rfl]
    old:=fun i hi=>by rw [Mg,if_neg (by omega)];exact h.old i hi}
   have hent:∀(env:T j3),gH env=.ptr (m0.next+1) 0→kY (D5 gH) [] env M=some (.tuple [q.2.1,q.2.2]):=fun env he=>zf (it:=D5 gH) he inv.gi inv.gs hq2
   rw [heq] at hent
   have hent':=hent (aV (.ptr (m0.next+1) 0) (.bool true) kd (.int .i64 lv) (.ptr r off) sg cd res) rfl
   have hl:=Hl e he M
   have ha:=Ha e he M inv.old
   have hMr:M.get r=m0.get r:=inv.old r hr
   cases hlv:decide (e.1=lv) with
   | false=>
    refine⟨[⟨.normal,aV (.ptr (m0.next+1) 0) (.bool true) (.int .i64 e.2.2.2) (.int .i64 lv) (.ptr r off) (.str e.2.2.1) (.bool false) res,M,[],none⟩],?_,fun o ho=>.inr ⟨q,h1,e,he,hej,M,inv,.inl ⟨by simp [jZ,hlv],_,_,_,_,List.mem_singleton.1 ho⟩⟩⟩
    simp only [aV] at hent' ⊢
    simp [hent',o8,hl,ha,hlv]
   | true=>
    cases hat:atB tok e with
    | false=>
     refine⟨[⟨.normal,aV (.ptr (m0.next+1) 0) (.bool true) (.int .i64 e.2.2.2) (.int .i64 lv) (.ptr r off) (.str e.2.2.1) (.bool false) res,M,[],none⟩],?_,fun o ho=>.inr ⟨q,h1,e,he,hej,M,inv,.inl ⟨by simp [jZ,hlv,hat],_,_,_,_,List.mem_singleton.1 ho⟩⟩⟩
     rw [hat] at ha
     simp only [aV] at hent' ⊢
     simp [hent',o8,hl,ha,hlv]
    | true=>
     obtain⟨s1,s2,s3,s4,hrl⟩:=hsl e he (by simp [jZ,hlv,hat])
     refine⟨[⟨.ret,aV (.ptr (m0.next+1) 0) (.bool true) (.int .i64 e.2.2.2) (.int .i64 lv) (.ptr r off) (.str e.2.2.1) (.bool true) (.int .i64 e.2.2.2),(iM M p).set r B,[],none⟩],?_,fun o ho=>.inr ⟨q,h1,e,he,hej,M,inv,.inr ⟨by simp [jZ,hlv,hat],_,_,_,_,List.mem_singleton.1 ho⟩⟩⟩
     rw [hat] at ha
     simp only [aV] at hent' ⊢
     have hMn:M.next=m0.next+2:=inv.mn
     have hsl':∀(env:T j3) (ls:List j3),lSl 2 oL0 (some (x9 (.int .i64 1))) none (v::ls) env M.next=some (v',p):=fun env ls=>by
      rw [hMn];exact s1
     have hg:(iM M p).get r=m0.get r:=by
      cases p with
      | none=>exact hMr
      | some x=>show (M.new x).get r=_;rw [Mem.D7 inv.ok,if_neg (by rw [hMn];omega)];exact hMr
     have hnl:(iM M p).lim≤r:=by
      cases p with
      | none=>show M.lim≤r;rw [inv.lim];exact hrl
      | some x=>show M.lim≤r;rw [inv.lim];exact hrl
     have hst:∀(env:T j3) (ls:List j3) (c1:j3),C9 1 oL0 oL2 cf (.ptr r off::c1::v'::ls) env (iM M p)=some [⟨.undef,(iM M p).set r B⟩]:=fun env ls c1=>by
      show bi (Nat.beq (len' v'.cells) 1) (storeAt (iM M p) r off v'.cells _) none=_
      rw [s3]
      show storeAt (iM M p) r off [v'] _=_
      rw [dN hnl (by show bi (bM v') true false=true;rw [s2];rfl),hg,s4]
      rfl
     simp [hent',o8,hl,ha,hlv,hMr,hld,hsl',hst]
theorem Ct {seen:List Nat}:∀{es:List (j3×j3)} {i:Nat},left seen es i=[]→∀j,i≤j→j<i+es.length→vF j seen=true
 | [],i,_,j,h1,h2=>by simp at h2;omega
 | e::es,i,h,j,h1,h2=>by
  simp only [left] at h
  split at h
  ·rename_i hs
   by_cases hj:j=i
   ·rw [hj];exact hs
   ·exact Ct h j (by omega) (by simp at h2;omega)
  ·cases h
theorem MB {m0:Mem}{r off fl fa:Nat}{lv:Int}{tok:Option (Int×List UInt8)}{cf:y8}{v v':j3}{p:Option Blk}{B:Blk}
  (Hl:∀e∈Q8,∀M,cf (.func fl) [.int .i64 e.2.2.2] M=some [⟨.int .i64 e.1,M⟩])
  (Ha:∀e∈Q8,∀M:Mem,(∀i,i<m0.next→M.get i=m0.get i)→cf (.func fa) [.ptr r off,.str e.2.2.1] M=some [⟨.bool (atB tok e),M⟩])
  (hld:ld1 (m0.get r) off=some v) (hr:r<m0.next)
  (hsl:∀e∈Q8,jZ lv tok e=true→F3 (m0.next+2) 2 v 1 none=some (v',p)∧bM v'=true∧v'.cells=[v']∧stB (m0.get r) off [v']=some B∧m0.lim≤r) (fu:Nat) (res:j3):
  ∀(n:Nat) (m:Mem) (seen:List Nat) (b kd sg cd:j3),sI m0 m seen→(left seen W9 0).length=n→(∀j e,vF j seen=true→Q8[j]?=some e→jZ lv tok e=false)→∀N,n<N→
   ∃outs,aD (fun env m k=>uX fl fa cf fu none env m k) N (aV (.ptr (m0.next+1) 0) b kd (.int .i64 lv) (.ptr r off) sg cd res) m []=some outs∧∀o∈outs,
    ((∀e∈Q8,jZ lv tok e=false)∧∃b' kd' sg' cd' M seen',sI m0 M seen'∧o=⟨.exit 0,aV (.ptr (m0.next+1) 0) b' kd' (.int .i64 lv) (.ptr r off) sg' cd' res,M,[],none⟩)∨
    ∃e∈Q8,jZ lv tok e=true∧∃b' kd' sg' cd' M seen',sI m0 M seen'∧o=⟨.ret,aV (.ptr (m0.next+1) 0) b' kd' (.int .i64 lv) (.ptr r off) sg' cd' (.int .i64 e.2.2.2),(iM M p).set r B,[],none⟩:=by
 intro n
 induction n with
 | zero=>
  intro m seen b kd sg cd h hl hs N hN
  obtain⟨N,rfl⟩:∃N',N=N'+1:=⟨N-1,by omega⟩
  have hnil:left seen W9 0=[]:=List.length_eq_zero_iff.1 hl
  rw [y7]
  refine P9 (Cr h Hl Ha hld hr hsl fu b kd sg cd res) ?_
  rintro o (⟨_,_,rfl,_⟩ | ⟨q,hq,_⟩)
  ·refine⟨_,rfl,fun o ho=>.inl ⟨fun e he=>?_,_,_,_,_,m,seen,h,List.mem_singleton.1 ho⟩⟩
   obtain⟨j,hj⟩:=List.getElem?_of_mem he
   refine hs j e (Ct hnil j (by omega) ?_) hj
   have:=(List.getElem?_eq_some_iff.1 hj).1
   simp [W9];omega
  ·rw [hnil] at hq;cases hq
 | succ n ih=>
  intro m seen b kd sg cd h hl hs N hN
  obtain⟨N,rfl⟩:∃N',N=N'+1:=⟨N-1,by omega⟩
  rw [y7]
  refine P9 (Cr h Hl Ha hld hr hsl fu b kd sg cd res) ?_
  rintro o (⟨hnil,_⟩ | ⟨q,hq,e,he,hej,M,inv,⟨hh,b',kd',sg',cd',rfl⟩ | ⟨hh,b',kd',sg',cd',rfl⟩⟩)
  ·rw [hnil] at hl;cases hl
  ·rw [pG]
   refine ih M (q.1::seen) b' kd' sg' cd' inv ?_ (fun j e' hj he'=>?_) N (by omega)
   ·have:=(jy hq).length_eq
    rw [hl,List.length_cons] at this
    omega
   ·by_cases hjq:q.1=j
    ·rw [← hjq,hej] at he';cases he';exact hh
    ·rw [wP hjq] at hj;exact hs j e' hj he'
  ·exact⟨_,rfl,fun o ho=>.inr ⟨e,he,hh,b',kd',sg',cd',M,_,inv,List.mem_singleton.1 ho⟩⟩
def AX (M:Mem)(r off:Nat)(tok:Option (Int×List UInt8)):Prop:=∃v,ld1 (M.get r) off=some v∧
 ((tok=none∧(v=.nilSlice∨(∃id o c,v=.slice id o 0 c)∨∃id o es,v=.sliceU id o 0 es))∨∃k s id o len,((∃c,v=.slice id o (len+1) c)∨∃es,v=.sliceU id o (len+1) es)∧ldN (M.get id) o 2=some (.agg [.int .i64 k,.str s])∧tok=some (k,s))
theorem uY {lv k:Int}{s:List UInt8}:∀(l:List (Int×Int×List UInt8×Int)),(∀e∈l,∀e'∈l,e.2.2.1=e'.2.2.1→e=e')→
  match (List.rec none (fun e _ ih=>bi (aG e.1 lv) (bi (aG e.2.1 k) (bi (strEq e.2.2.1 s) (some e.2.2.2) ih) ih) ih) l:Option Int) with
  | none=>∀e∈l,jZ lv (some (k,s)) e=false
  | some kd=>(∃e∈l,jZ lv (some (k,s)) e=true)∧∀e∈l,jZ lv (some (k,s)) e=true→e.2.2.2=kd
 | [],_=>fun e he=>by cases he
 | e::l,hu=>by
  have ih:=uY (lv:=lv) (k:=k) (s:=s) l fun a ha b hb=>hu a (List.mem_cons_of_mem _ ha) b (List.mem_cons_of_mem _ hb)
  have hb:jZ lv (some (k,s)) e=(aG e.1 lv&&(aG e.2.1 k&&strEq e.2.2.1 s)):=by
   rw [bI,bI,bK];rfl
  have h0:(List.rec none (fun e _ ih=>bi (aG e.1 lv) (bi (aG e.2.1 k) (bi (strEq e.2.2.1 s) (some e.2.2.2) ih) ih) ih) (e::l):Option Int) =
    bi (jZ lv (some (k,s)) e) (some e.2.2.2) (List.rec none (fun e _ ih=>bi (aG e.1 lv) (bi (aG e.2.1 k) (bi (strEq e.2.2.1 s) (some e.2.2.2) ih) ih) ih) l):=by
   rw [hb]
   show bi (aG e.1 lv) (bi (aG e.2.1 k) (bi (strEq e.2.2.1 s) _ _) _) _=_
   cases aG e.1 lv<;>cases aG e.2.1 k<;>cases strEq e.2.2.1 s<;>rfl
  rw [h0]
  cases hh:jZ lv (some (k,s)) e with
  | true=>
   refine⟨⟨e,List.mem_cons_self ..,hh⟩,fun e' he' h'=>?_⟩
   have ht:∀x:Int×Int×List UInt8×Int,jZ lv (some (k,s)) x=true→x.2.2.1=s:=fun x hx=>by
    simp only [jZ,atB,Bool.and_eq_true] at hx
    simpa using hx.2.2
   rw [hu e' he' e (List.mem_cons_self ..) (by rw [ht e' h',ht e hh])]
  | false=>
   show match (List.rec none _ l:Option Int) with
    | none=>_
    | some kd=>_
   revert ih
   cases (List.rec none (fun e _ ih=>bi (aG e.1 lv) (bi (aG e.2.1 k) (bi (strEq e.2.2.1 s) (some e.2.2.2) ih) ih) ih) l:Option Int) with
   | none=>
    intro ih e' he'
    rcases List.mem_cons.1 he' with rfl | he'
    ·exact hh
    ·exact ih e' he'
   | some kd=>
    rintro⟨⟨x,hx1,hx2⟩,h2⟩
    refine⟨⟨x,List.mem_cons_of_mem _ hx1,hx2⟩,fun e' he' h'=>?_⟩
    rcases List.mem_cons.1 he' with rfl | he'
    ·rw [hh] at h';cases h'
    ·exact h2 e' he' h'
theorem AY (lv k:Int)(s:List UInt8):match Gy lv k s with
  | none=>∀e∈Q8,jZ lv (some (k,s)) e=false
  | some kd=>(∃e∈Q8,jZ lv (some (k,s)) e=true)∧∀e∈Q8,jZ lv (some (k,s)) e=true→e.2.2.2=kd:=uY Q8 (by decide)
theorem Cu {K:Known}{f fs fl fa:Nat}(hf:K.fns f=some (Cq fs fl fa))(he:∀args m,K.eff f args m=none){N n:Nat}(hN:14≤N)
  (Hs:∀m:Mem,m.Ok→m.lim≤m.next→w9 K N n (.func fs) [] m=some [⟨.map m.next,m.new (.map W9)⟩])
  (Hl:∀e∈Q8,∀M,w9 K N n (.func fl) [.int .i64 e.2.2.2] M=some [⟨.int .i64 e.1,M⟩])
  (Ha:∀tok r off M,AX M r off tok→∀e∈Q8,w9 K N n (.func fa) [.ptr r off,.str e.2.2.1] M=some [⟨.bool (atB tok e),M⟩])
  {m:Mem} (hok:m.Ok) (hln:m.lim≤m.next) {r off:Nat} {lv:Int} {tok:Option (Int×List UInt8)} {v v':j3} {p:Option Blk} {B:Blk} (hr:r<m.next) (ht:AX m r off tok) (hld:ld1 (m.get r) off=some v)
  (hsl:∀e∈Q8,jZ lv tok e=true→F3 (m.next+2) 2 v 1 none=some (v',p)∧bM v'=true∧v'.cells=[v']∧stB (m.get r) off [v']=some B∧m.lim≤r):
  ∃l,w9 K N (n+1) (.func f) [.ptr r off,.int .i64 lv] m=some l∧∀o∈l,∃M seen,sI m M seen∧
   (((∀e∈Q8,jZ lv tok e=false)∧o=⟨.int .i64 0,M⟩)∨∃e∈Q8,jZ lv tok e=true∧o=⟨.int .i64 e.2.2.2,(iM M p).set r B⟩):=by
 have Ha':∀e∈Q8,∀M:Mem,(∀i,i<m.next→M.get i=m.get i)→w9 K N n (.func fa) [.ptr r off,.str e.2.2.1] M=some [⟨.bool (atB tok e),M⟩]:=fun e hm M hM=>by
  refine Ha tok r off M ?_ e hm
  obtain⟨w,h1,h2⟩:=ht
  refine⟨w,by rw [hM r hr];exact h1,?_⟩
  rcases h2 with h2 | ⟨k,s,id,o,len,h3,h4,h5⟩
  ·exact .inl h2
  ·obtain⟨_,_,_,hb,_⟩:=Q6 h4
   have hid:=Mem.y9 hok hb
   exact .inr ⟨k,s,id,o,len,h3,by rw [hM id hid];exact h4,h5⟩
 generalize hm2:(m.new (.map W9)).new (.iter (some m.next) W9.length [])=mI
 have ok1:=Mem.Ok.new hok (.map W9)
 have gI:∀i,mI.get i=if i=m.next+1 then some (.iter (some m.next) W9.length []) else if i=m.next then some (.map W9) else m.get i:=fun i=>by
  rw [← hm2,Mem.D7 ok1,Mem.D7 hok];rfl
 have inv:sI m mI []:={
  ok:=by rw [← hm2];exact Mem.Ok.new ok1 _
  lim:=by rw [← hm2];rfl
  ll:=hln
  mn:=by rw [← hm2];rfl
  gs:=by rw [gI,if_neg (by omega),if_pos rfl]
  gi:=by rw [gI,if_pos rfl]
  old:=fun i hi=>by rw [gI,if_neg (by omega),if_neg (by omega)]}
 have hlen:W9.length=13:=by decide
 obtain⟨outs,ho1,ho2⟩:=MB (fu:=N) Hl Ha' hld hr hsl (.int .i64 0) 13 mI [] .undef .undef .undef .undef inv (by rw [wQ,hlen]) (fun j e hj=>by cases hj) N (by omega)
 rw [U3]
 show ∃l,(Option.rec (ob (K.fns f) fun sf=>bi sf.pure (bH K (w9 K N n) N f sf [.ptr r off,.int .i64 lv] m) (D6 (w9 K N n) (qE K (w9 K N n) N) N sf [.ptr r off,.int .i64 lv] m)) (fun l=>some l) (K.eff f [.ptr r off,.int .i64 lv] m):iR)=some l∧_
 rw [he,hf]
 show ∃l,bnd (d9 (d9 (j4 (u6 (o8 fs []) (rcE (iU oL0) sH j6))) (o7 0 (D9 (uX fl fa)))) (d9 (j4 (rcP (J6 (x9 (.int .i64 (.ofNat 0)))) (sL (sL (sL sH))) j6)) o9) (w9 K N n) N none
  (aV .undef .undef .undef (.int .i64 lv) (.ptr r off) .undef .undef (.int .i64 0)) m []) (leave _ [.tmp 7])=some l∧_
 refine P9 (g1:=fun o:Out=>∃b' kd' sg' cd' M seen',sI m M seen'∧(((∀e∈Q8,jZ lv tok e=false)∧o=⟨.ret,aV (.ptr (m.next+1) 0) b' kd' (.int .i64 lv) (.ptr r off) sg' cd' (.int .i64 0),M,[],none⟩)∨
  ∃e∈Q8,jZ lv tok e=true∧o=⟨.ret,aV (.ptr (m.next+1) 0) b' kd' (.int .i64 lv) (.ptr r off) sg' cd' (.int .i64 e.2.2.2),(iM M p).set r B,[],none⟩)) ?_ ?_
 ·rw [mK]
  refine P9 (g1:=fun o:Out=>∃b' kd' sg' cd' M seen',sI m M seen'∧(((∀e∈Q8,jZ lv tok e=false)∧o=⟨.normal,aV (.ptr (m.next+1) 0) b' kd' (.int .i64 lv) (.ptr r off) sg' cd' (.int .i64 0),M,[],none⟩)∨
   ∃e∈Q8,jZ lv tok e=true∧o=⟨.ret,aV (.ptr (m.next+1) 0) b' kd' (.int .i64 lv) (.ptr r off) sg' cd' (.int .i64 e.2.2.2),(iM M p).set r B,[],none⟩)) ?_ ?_
  ·rw [mK,qm,AJ]
   have hcall:o8 fs [] (w9 K N n) [] (aV .undef .undef .undef (.int .i64 lv) (.ptr r off) .undef .undef (.int .i64 0)) m=some [⟨.map m.next,m.new (.map W9)⟩]:=Hs m hok hln
   rw [hcall]
   have hr2:iU oL0 (w9 K N n) [.map m.next] (aV .undef .undef .undef (.int .i64 lv) (.ptr r off) .undef .undef (.int .i64 0)) (m.new (.map W9))=some [⟨.ptr (m.next+1) 0,mI⟩]:=by
    show vEs ((m.new (.map W9)).get m.next) _=_
    rw [Mem.D7 hok,if_pos rfl]
    show one _ ((m.new (.map W9)).new (.iter (some m.next) (len' W9) []))=_
    rw [C8,hm2]
    rfl
   show ∃l,bnd (bnd (bnd (iU oL0 (w9 K N n) [.map m.next] (aV .undef .undef .undef (.int .i64 lv) (.ptr r off) .undef .undef (.int .i64 0)) (m.new (.map W9))) _) (bQ [])) _=some l∧_
   rw [hr2]
   show ∃l,bnd (aD (fun env m k=>uX fl fa (w9 K N n) N none env m k) N (aV (.ptr (m.next+1) 0) .undef .undef (.int .i64 lv) (.ptr r off) .undef .undef (.int .i64 0)) mI []) (NU 0)=some l∧_
   refine P9 ⟨outs,ho1,ho2⟩ ?_
   rintro o (⟨h1,b',kd',sg',cd',M,seen',hi,rfl⟩ | ⟨e,h1,h2,b',kd',sg',cd',M,seen',hi,rfl⟩)
   ·exact⟨_,rfl,fun o ho=>⟨b',kd',sg',cd',M,seen',hi,.inl ⟨h1,List.mem_singleton.1 ho⟩⟩⟩
   ·exact⟨_,rfl,fun o ho=>⟨b',kd',sg',cd',M,seen',hi,.inr ⟨e,h1,h2,List.mem_singleton.1 ho⟩⟩⟩
  ·rintro o ⟨b',kd',sg',cd',M,seen',hi,⟨h1,rfl⟩ | ⟨e,h1,h2,rfl⟩⟩
   ·exact⟨_,rfl,fun o ho=>⟨b',kd',sg',cd',M,seen',hi,.inl ⟨h1,List.mem_singleton.1 ho⟩⟩⟩
   ·exact⟨_,rfl,fun o ho=>⟨b',kd',sg',cd',M,seen',hi,.inr ⟨e,h1,h2,List.mem_singleton.1 ho⟩⟩⟩
 ·rintro o ⟨b',kd',sg',cd',M,seen',hi,⟨h1,rfl⟩ | ⟨e,h1,h2,rfl⟩⟩
  ·exact⟨_,rfl,fun o ho=>⟨M,seen',hi,.inl ⟨h1,List.mem_singleton.1 ho⟩⟩⟩
  ·exact⟨_,rfl,fun o ho=>⟨M,seen',hi,.inr ⟨e,h1,h2,List.mem_singleton.1 ho⟩⟩⟩
theorem GA {m M:Mem}{seen:List Nat}(hok:m.Ok)(h:sI m M seen):Weak M (V3 2 m):=by
 obtain⟨d1,d2⟩:=oo 2 m
 obtain⟨d3,d4⟩:=sG 2 hok
 exact {
  next:=by rw [d1,h.mn]
  lim:=by rw [d2,h.lim]
  ok:=d3
  old:=fun i hi=>by
   rw [h.lim] at hi
   have:=h.ll
   rw [d4,if_neg (by omega),h.old i (by omega)]
  blk:=fun i b hb=>by
   rw [d4] at hb
   split at hb
   ·rename_i hr
    cases hb
    by_cases hi:i=m.next
    ·rw [hi];exact⟨_,h.gs,.inr (.inl ⟨rfl,rfl⟩)⟩
    ·rw [show i=m.next+1 from by omega];exact⟨_,h.gi,.inr (.inl ⟨rfl,rfl⟩)⟩
   ·have:=Mem.y9 hok hb
    exact⟨b,by rw [h.old i this];exact hb,.inl rfl⟩}
theorem Weak.iM {m1 m2:Mem}(h:Weak m1 m2)(hok:m1.Ok)(p:Option Blk):Weak (iM m1 p) (iM m2 p):=by
 cases p with
 | none=>exact h
 | some x=>
  have ok2:m2.Ok:=h.ok
  exact {
   next:=congrArg Nat.succ h.next
   lim:=h.lim
   ok:=Mem.Ok.new ok2 x
   old:=fun i hi=>by
    have hi:i<m1.lim:=hi
    show (m2.new x).get i=(m1.new x).get i
    rw [Mem.D7 ok2,Mem.D7 hok,h.next,h.old i hi]
   blk:=fun i b hb=>by
    have hb:(m2.new x).get i=some b:=hb
    show ∃b1,(m1.new x).get i=some b1∧_
    rw [Mem.D7 ok2,h.next] at hb
    rw [Mem.D7 hok]
    split at hb
    ·rename_i hi;rw [if_pos hi];exact⟨b,hb,.inl rfl⟩
    ·rename_i hi;rw [if_neg hi];exact h.blk i b hb}
theorem Weak.set {m1 m2:Mem}(h:Weak m1 m2)(hok:m1.Ok){r:Nat}(hr:r<m1.next)(hl:m1.lim≤r)(B:Blk):Weak (m1.set r B) (m2.set r B):=by
 have ok2:m2.Ok:=h.ok
 have hr2:r<m2.next:=by rw [h.next];exact hr
 exact {
  next:=h.next
  lim:=h.lim
  ok:=Mem.Ok.set ok2 hr2 B
  old:=fun i hi=>by
   have hi:i<m1.lim:=hi
   rw [Mem.K4 ok2 hr2,Mem.K4 hok hr,h.old i hi]
  blk:=fun i b hb=>by
   rw [Mem.K4 ok2 hr2] at hb
   rw [Mem.K4 hok hr]
   split at hb
   ·rename_i hi;rw [if_pos hi];exact⟨b,hb,.inl rfl⟩
   ·rename_i hi;rw [if_neg hi];exact h.blk i b hb}
theorem Jw {m:Mem}(hok:m.Ok)(p:Option Blk){i:Nat}(hi:i<m.next):(iM m p).get i=m.get i:=by
 cases p with
 | none=>rfl
 | some x=>show (m.new x).get i=_;rw [Mem.D7 hok,if_neg (by omega)]
theorem zk (m:Mem)(p:Option Blk):m.next≤(iM m p).next∧(iM m p).lim=m.lim:=by
 cases p with
 | none=>exact⟨Nat.le_refl _,rfl⟩
 | some x=>exact⟨Nat.le_succ _,rfl⟩
theorem MC {m:Mem}(hok:m.Ok)(p:Option Blk):(iM m p).Ok:=by
 cases p with
 | none=>exact hok
 | some x=>exact Mem.Ok.new hok x
theorem Jy {P:Program}{K:Known}(hK:KOk P K){f fs fl fa:Nat}(hf:K.fns f=some (Cq fs fl fa))(he:∀args m,K.eff f args m=none){N n:Nat}(hN:14≤N)
  (Hs:∀m:Mem,m.Ok→m.lim≤m.next→w9 K N n (.func fs) [] m=some [⟨.map m.next,m.new (.map W9)⟩])
  (Hl:∀e∈Q8,∀M,w9 K N n (.func fl) [.int .i64 e.2.2.2] M=some [⟨.int .i64 e.1,M⟩])
  (Ha:∀tok r off M,AX M r off tok→∀e∈Q8,w9 K N n (.func fa) [.ptr r off,.str e.2.2.1] M=some [⟨.bool (atB tok e),M⟩])
  {args:List j3} {m:Mem} {outs:List VM} (h:jw args m=some outs):
  Dm P f∧∀{ι:Inj} {w:World},RM P K.base ι m w.heap→ltL (m.nm ι) args→CallsIn Fence.wide 0 P f (l8 ι args).toArray w (F9 P K.base ι m w outs):=by
 obtain⟨r,off,lv,rfl⟩:∃r off lv,args=[.ptr r off,.int .i64 lv]:=by
  unfold jw at h
  split at h
  ·exact⟨_,_,_,rfl⟩
  ·cases h
 have h:(K5 (m.get r) fun rs n rows=>ob (cell1 rs n rows off) fun v=>ob (lenOf v) fun len=>
   (Nat.rec (vSl v (one (.int .i64 0) (V3 2 m)) (fun _ _ _ _=>one (.int .i64 0) (V3 2 m)) (fun _ _ _ _=>one (.int .i64 0) (V3 2 m))) (fun _ _=>vSl v none (fun id o _ _=>jw.tok m id o v r off lv) (fun id o _ _=>jw.tok m id o v r off lv)) len:iR))=some outs:=h
 obtain⟨rs,nn,rows,hg,h⟩:=Q6 h
 obtain⟨v,hv,h⟩:=r9 h
 obtain⟨len,hlen,h⟩:=r9 h
 have hld:ld1 (m.get r) off=some v:=by rw [hg];exact hv
 have none_case:∀tok,AX m r off tok→(∀e∈Q8,jZ lv tok e=false)→outs=[⟨.int .i64 0,V3 2 m⟩]→Dm P f∧∀{ι:Inj} {w:World},RM P K.base ι m w.heap→ltL (m.nm ι) [.ptr r off,.int .i64 lv]→CallsIn Fence.wide 0 P f (l8 ι [.ptr r off,.int .i64 lv]).toArray w (F9 P K.base ι m w outs):=by
  intro tok ht hno ho
  refine kR hK hf fun hok hln=>?_
  have hok:m.Ok:=hok
  obtain⟨l,hl1,hl2⟩:=Cu (v':=.undef) (p:=none) (B:=.void) hf he hN Hs Hl Ha hok hln (Mem.y9 hok hg) ht hld (lv:=lv) (fun e hm hh=>by rw [hno e hm] at hh;cases hh)
  refine⟨N,n+1,l,hl1,fun o ho'=>?_⟩
  obtain⟨M,seen,inv,⟨_,rfl⟩ | ⟨e,hm,hh,_⟩⟩:=hl2 o ho'
  ·exact⟨⟨.int .i64 0,V3 2 m⟩,by rw [ho];exact List.mem_singleton.2 rfl,rfl,GA hok inv⟩
  ·rw [hno e hm] at hh;cases hh
 cases len with
 | zero=>
  cases v with
  | nilSlice=>
   have h:one (.int .i64 0) (V3 2 m)=some outs:=h
   cases h
   exact none_case none ⟨_,hld,.inl ⟨rfl,.inl rfl⟩⟩ (fun e _=>by simp [jZ,atB]) rfl
  | slice id o l c=>
   obtain rfl:l=0:=Option.some.inj hlen
   have h:one (.int .i64 0) (V3 2 m)=some outs:=h
   cases h
   exact none_case none ⟨_,hld,.inl ⟨rfl,.inr (.inl ⟨_,_,_,rfl⟩)⟩⟩ (fun e _=>by simp [jZ,atB]) rfl
  | sliceU id o l c=>
   obtain rfl:l=0:=Option.some.inj hlen
   have h:one (.int .i64 0) (V3 2 m)=some outs:=h
   cases h
   exact none_case none ⟨_,hld,.inl ⟨rfl,.inr (.inr ⟨_,_,_,rfl⟩)⟩⟩ (fun e _=>by simp [jZ,atB]) rfl
  | _=>cases h
 | succ len=>
  have key:∀id o,((∃c,v=.slice id o (len+1) c)∨∃es,v=.sliceU id o (len+1) es)→jw.tok m id o v r off lv=some outs→
    Dm P f∧∀{ι:Inj} {w:World},RM P K.base ι m w.heap→ltL (m.nm ι) [.ptr r off,.int .i64 lv]→CallsIn Fence.wide 0 P f (l8 ι [.ptr r off,.int .i64 lv]).toArray w (F9 P K.base ι m w outs):=by
   intro id o hvs h
   unfold jw.tok at h
   obtain⟨rs2,n2,rows2,hg2,h⟩:=Q6 h
   obtain⟨l,hl,h⟩:=r9 h
   split at h
   ·rename_i k s
    have ht:AX m r off (some (k,s)):=⟨v,hld,.inr ⟨k,s,id,o,len,hvs,by rw [hg2];show ob (eT rs2 n2 rows2 o 2) _=_;rw [hl];rfl,rfl⟩⟩
    have hspec:=AY lv k s
    cases hfd:Gy lv k s with
    | none=>
     rw [hfd] at h hspec
     have h:one (.int .i64 0) (V3 2 m)=some outs:=h
     cases h
     exact none_case _ ht hspec rfl
    | some kd=>
     rw [hfd] at h hspec
     have h:(ob (F3 (V3 2 m).next 2 v 1 none) fun p=>storeAt (iM (V3 2 m) p.2) r off [p.1] fun m'=>one (.int .i64 kd) m')=some outs:=h
     obtain⟨⟨v',p⟩,hs,h⟩:=r9 h
     have h0:=h
     obtain⟨c1,h⟩:=dR h
     obtain⟨c2,h⟩:=p9 h
     have hlim:(iM (V3 2 m) p).lim≤r:=Nat.le_of_not_lt fun hh=>by rw [show Nat.blt r (iM (V3 2 m) p).lim=true from Nat.blt_eq▸hh] at c1;cases c1
     rw [dN hlim c2] at h0
     obtain⟨B,hB,h0⟩:=r9 h0
     cases h0
     have h1v:bM v'=true:=(V4 c2).1
     have hcells:v'.cells=[v']:=by cases v'<;>first | rfl | cases h1v
     refine kR hK hf fun hok hln=>?_
     have hok:m.Ok:=hok
     have hrn:=Mem.y9 hok hg
     obtain⟨d1,d2⟩:=oo 2 m
     obtain⟨d3,d4⟩:=sG 2 hok
     have hrl:m.lim≤r:=by rw [(zk _ p).2,d2] at hlim;exact hlim
     rw [Jw d3 p (by rw [d1];omega),d4,if_neg (by omega)] at hB
     obtain⟨l,hl1,hl2⟩:=Cu (v':=v') (p:=p) (B:=B) hf he hN Hs Hl Ha hok hln hrn ht hld (lv:=lv) (fun e hm hh=>⟨by rw [← d1];exact hs,h1v,hcells,hB,hrl⟩)
     refine⟨N,n+1,l,hl1,fun o ho'=>?_⟩
     obtain⟨M,seen,inv,⟨hno,_⟩ | ⟨e,hm,hh,rfl⟩⟩:=hl2 o ho'
     ·obtain⟨⟨e,hm,hh⟩,_⟩:=hspec
      rw [hno e hm] at hh;cases hh
     ·refine⟨_,List.mem_singleton.2 rfl,by rw [hspec.2 e hm hh],?_⟩
      have hMn:M.next≤(iM M p).next∧(iM M p).lim=M.lim:=zk M p
      exact ((GA hok inv).iM inv.ok p).set (MC inv.ok p) (by have:=inv.mn;omega) (by rw [hMn.2,inv.lim];exact hrl) B
   ·cases h
  cases v with
  | slice id o l c=>
   obtain rfl:l=len+1:=Option.some.inj hlen
   exact key id o (.inl ⟨c,rfl⟩) h
  | sliceU id o l c=>
   obtain rfl:l=len+1:=Option.some.inj hlen
   exact key id o (.inr ⟨c,rfl⟩) h
  | _=>cases h
set_option maxHeartbeats 2000000
def wR:SFn:=⟨false,[],1,[.tmp 0],(d9 (j4 (rcP (J6 (x9 .nilMap)) sH j6)) (d9 (j4 (eX (iQ) (u6 (y5 J5 1 oL0 (x9 (.int .i64 (.ofNat 6))) (x9 (.str [42]))) (u6 (y5 J5 1 oL1 (x9 (.int .i64 (.ofNat 7))) (x9 (.str [47]))) (u6 (y5 J5 1 oL2 (x9 (.int .i64 (.ofNat 8))) (x9 (.str [37]))) (u6 (y5 J5 1 oL3 (x9 (.int .i64 (.ofNat 9))) (x9 (.str [43]))) (u6 (y5 J5 1 (dB 4) (x9 (.int .i64 (.ofNat 10))) (x9 (.str [45]))) (u6 (y5 J5 1 (dB 5) (x9 (.int .i64 (.ofNat 11))) (x9 (.str [60]))) (u6 (y5 J5 1 (dB 6) (x9 (.int .i64 (.ofNat 12))) (x9 (.str [60,61]))) (u6 (y5 J5 1 (dB 7) (x9 (.int .i64 (.ofNat 13))) (x9 (.str [62]))) (u6 (y5 J5 1 (dB 8) (x9 (.int .i64 (.ofNat 14))) (x9 (.str [62,61]))) (u6 (y5 J5 1 (dB 9) (x9 (.int .i64 (.ofNat 15))) (x9 (.str [61,61]))) (u6 (y5 J5 1 (dB 10) (x9 (.int .i64 (.ofNat 16))) (x9 (.str [33,61]))) (u6 (y5 J5 1 (dB 11) (x9 (.int .i64 (.ofNat 17))) (x9 (.str [97,110,100]))) (u6 (y5 J5 1 (dB 12) (x9 (.int .i64 (.ofNat 18))) (x9 (.str [111,114]))) (rcP (J6 (dB 13)) sH j6)))))))))))))))) o9)),none⟩
def AZ:SFn:=⟨false,[(some 0)],10,[.tmp 9],(d9 (j4 (rcP (J6 (x9 (.int .i64 (.ofNat 0)))) (sL (sR (sL sH))) j6)) (d9 (d9 (j4 (rcP (J6 (D5 gH)) (sL sH) j6)) (o7 0 (d9 (j4 (j5 (pIb iEq sEq (D5 (gL gH)) (x9 (.int .i64 (.ofNat 18)))) (rcP (J6 oL0) (sR sH) j6))) (l5 (D5 (gR gH)) (d9 (j4 (rcP (J6 (x9 (.int .i64 (.ofNat 0)))) (sL (sR (sL sH))) j6)) o9) (d9 (j4 (j5 (pIb iEq sEq (D5 (gL gH)) (x9 (.int .i64 (.ofNat 17)))) (rcP (J6 oL0) (sL (sL sH)) j6))) (l5 (D5 (gL (gL gH))) (d9 (j4 (rcP (J6 (x9 (.int .i64 (.ofNat 1)))) (sL (sR (sL sH))) j6)) o9) (d9 (j4 (j5 (pIb iEq sEq (D5 (gL gH)) (x9 (.int .i64 (.ofNat 5)))) (rcP (J6 oL0) (sR (sL sH)) j6))) (l5 (D5 (gR (gL gH))) (d9 (j4 (rcP (J6 (x9 (.int .i64 (.ofNat 2)))) (sL (sR (sL sH))) j6)) o9) (d9 (d9 (j4 (j5 (pIb iEq sEq (D5 (gL gH)) (x9 (.int .i64 (.ofNat 11)))) (rcP (J6 oL0) (sL (sR sH)) j6))) (l5 (D5 (gL (gR gH))) l7 (d9 (j4 (j5 (pIb iEq sEq (D5 (gL gH)) (x9 (.int .i64 (.ofNat 12)))) (rcP (J6 oL0) (sL (sR sH)) j6))) (l5 (D5 (gL (gR gH))) l7 (d9 (j4 (j5 (pIb iEq sEq (D5 (gL gH)) (x9 (.int .i64 (.ofNat 13)))) (rcP (J6 oL0) (sL (sR sH)) j6))) (l5 (D5 (gL (gR gH))) l7 (d9 (j4 (j5 (pIb iEq sEq (D5 (gL gH)) (x9 (.int .i64 (.ofNat 14)))) (rcP (J6 oL0) (sL (sR sH)) j6))) (l5 (D5 (gL (gR gH))) l7 (d9 (j4 (j5 (pIb iEq sEq (D5 (gL gH)) (x9 (.int .i64 (.ofNat 15)))) (rcP (J6 oL0) (sL (sR sH)) j6))) (l5 (D5 (gL (gR gH))) l7 (j4 (j5 (pIb iEq sEq (D5 (gL gH)) (x9 (.int .i64 (.ofNat 16)))) (rcP (J6 oL0) (sL (sR sH)) j6))))))))))))) (l5 (D5 (gL (gR gH))) (d9 (j4 (rcP (J6 (x9 (.int .i64 (.ofNat 3)))) (sL (sR (sL sH))) j6)) o9) (d9 (d9 (j4 (j5 (pIb iEq sEq (D5 (gL gH)) (x9 (.int .i64 (.ofNat 9)))) (rcP (J6 oL0) (sR (sR sH)) j6))) (l5 (D5 (gR (gR gH))) l7 (j4 (j5 (pIb iEq sEq (D5 (gL gH)) (x9 (.int .i64 (.ofNat 10)))) (rcP (J6 oL0) (sR (sR sH)) j6))))) (l5 (D5 (gR (gR gH))) (d9 (j4 (rcP (J6 (x9 (.int .i64 (.ofNat 4)))) (sL (sR (sL sH))) j6)) o9) (d9 (d9 (j4 (j5 (pIb iEq sEq (D5 (gL gH)) (x9 (.int .i64 (.ofNat 6)))) (rcP (J6 oL0) (sL (sL (sL sH))) j6))) (l5 (D5 (gL (gL (gL gH)))) l7 (d9 (j4 (j5 (pIb iEq sEq (D5 (gL gH)) (x9 (.int .i64 (.ofNat 7)))) (rcP (J6 oL0) (sL (sL (sL sH))) j6))) (l5 (D5 (gL (gL (gL gH)))) l7 (j4 (j5 (pIb iEq sEq (D5 (gL gH)) (x9 (.int .i64 (.ofNat 8)))) (rcP (J6 oL0) (sL (sL (sL sH))) j6))))))) (l5 (D5 (gL (gL (gL gH)))) (d9 (j4 (rcP (J6 (x9 (.int .i64 (.ofNat 5)))) (sL (sR (sL sH))) j6)) o9) (d9 (j4 (j5 (pIb iEq sEq (D5 (gL gH)) (x9 (.int .i64 (.ofNat 4)))) (rcP (J6 oL0) (sR (sL (sL sH))) j6))) (l5 (D5 (gR (gL (gL gH)))) (d9 (j4 (rcP (J6 (x9 (.int .i64 (.ofNat 6)))) (sL (sR (sL sH))) j6)) o9) l7)))))))))))))))) (d9 (j4 (rcP (J6 (x9 (.int .i64 (.ofNat 7)))) (sL (sR (sL sH))) j6)) o9))),none⟩
theorem Cv {K:Known}{f:FuncId}{sf:SFn}(hf:K.fns f=some sf)(hp:sf.pure=false)(he:∀args m,K.eff f args m=none)(N n:Nat)(args:List j3)(m:Mem):
  w9 K N (n+1) (.func f) args m=D6 (w9 K N n) (qE K (w9 K N n) N) N sf args m:=by
 rw [U3]
 show (Option.rec (ob (K.fns f) fun sf=>bi sf.pure (bH K (w9 K N n) N f sf args m) (D6 (w9 K N n) (qE K (w9 K N n) N) N sf args m)) (fun l=>some l) (K.eff f args m):iR)=_
 rw [he,hf]
 show bi sf.pure _ _=_
 rw [hp];rfl
theorem bF {m:Mem}(hok:m.Ok)(hln:m.lim≤m.next)(cur:List (j3×j3))(k:Int)(s:List UInt8)(h:I6 J5 1 (.int .i64 k) cur=some none){mp:OF}{ls:List j3}{env:T j3}(cf:y8)(hmp:mp ls env=.map m.next):
  y5 J5 1 mp (x9 (.int .i64 k)) (x9 (.str s)) cf ls env (m.new (.map cur))=some [⟨.undef,m.new (.map (cur ++ [(.int .i64 k,.str s)]))⟩]:=by
 rw [uS,hmp]
 show bi (Nat.blt m.next m.lim) none (ob (msB ((m.new (.map cur)).get m.next) J5 1 (.int .i64 k) (.str s)) fun b=>some [(⟨.undef,(m.new (.map cur)).set m.next b⟩:VM)])=_
 rw [KE hln,Mem.D7 hok,if_pos rfl]
 show ob (ob (I6 J5 1 (.int .i64 k) cur) _) _=_
 rw [h]
 show some [(⟨.undef,(m.new (.map cur)).set m.next (.map (cur ++ [(.int .i64 k,.str s)]))⟩:VM)]=_
 rw [Mem.wM hok]
theorem Jz {K:Known}{f:FuncId}(hf:K.fns f=some wR)(he:∀args m,K.eff f args m=none)(N n:Nat)(m:Mem)(hok:m.Ok)(hln:m.lim≤m.next):
  w9 K N (n+1) (.func f) [] m=some [⟨.map m.next,m.new (.map W9)⟩]:=by
 rw [Cv hf rfl he]
 have q0:=fun (cf:y8) (mp:OF) (ls:List j3) (env:T j3) (h:mp ls env=.map m.next)=>bF hok hln [] 6 [42] (by rfl) cf h
 have q1:=fun (cf:y8) (mp:OF) (ls:List j3) (env:T j3) (h:mp ls env=.map m.next)=>bF hok hln [(.int .i64 6,.str [42])] 7 [47] (by rfl) cf h
 have q2:=fun (cf:y8) (mp:OF) (ls:List j3) (env:T j3) (h:mp ls env=.map m.next)=>bF hok hln [(.int .i64 6,.str [42]),(.int .i64 7,.str [47])] 8 [37] (by rfl) cf h
 have q3:=fun (cf:y8) (mp:OF) (ls:List j3) (env:T j3) (h:mp ls env=.map m.next)=>bF hok hln [(.int .i64 6,.str [42]),(.int .i64 7,.str [47]),(.int .i64 8,.str [37])] 9 [43] (by rfl) cf h
 have q4:=fun (cf:y8) (mp:OF) (ls:List j3) (env:T j3) (h:mp ls env=.map m.next)=>bF hok hln [(.int .i64 6,.str [42]),(.int .i64 7,.str [47]),(.int .i64 8,.str [37]),(.int .i64 9,.str [43])] 10 [45] (by rfl) cf h
 have q5:=fun (cf:y8) (mp:OF) (ls:List j3) (env:T j3) (h:mp ls env=.map m.next)=>bF hok hln [(.int .i64 6,.str [42]),(.int .i64 7,.str [47]),(.int .i64 8,.str [37]),(.int .i64 9,.str [43]),(.int .i64 10,.str [45])] 11 [60] (by rfl) cf h
 have q6:=fun (cf:y8) (mp:OF) (ls:List j3) (env:T j3) (h:mp ls env=.map m.next)=>bF hok hln [(.int .i64 6,.str [42]),(.int .i64 7,.str [47]),(.int .i64 8,.str [37]),(.int .i64 9,.str [43]),(.int .i64 10,.str [45]),(.int .i64 11,.str [60])] 12 [60,61] (by rfl) cf h
 have q7:=fun (cf:y8) (mp:OF) (ls:List j3) (env:T j3) (h:mp ls env=.map m.next)=>bF hok hln [(.int .i64 6,.str [42]),(.int .i64 7,.str [47]),(.int .i64 8,.str [37]),(.int .i64 9,.str [43]),(.int .i64 10,.str [45]),(.int .i64 11,.str [60]),(.int .i64 12,.str [60,61])] 13 [62] (by rfl) cf h
 have q8:=fun (cf:y8) (mp:OF) (ls:List j3) (env:T j3) (h:mp ls env=.map m.next)=>bF hok hln [(.int .i64 6,.str [42]),(.int .i64 7,.str [47]),(.int .i64 8,.str [37]),(.int .i64 9,.str [43]),(.int .i64 10,.str [45]),(.int .i64 11,.str [60]),(.int .i64 12,.str [60,61]),(.int .i64 13,.str [62])] 14 [62,61] (by rfl) cf h
 have q9:=fun (cf:y8) (mp:OF) (ls:List j3) (env:T j3) (h:mp ls env=.map m.next)=>bF hok hln [(.int .i64 6,.str [42]),(.int .i64 7,.str [47]),(.int .i64 8,.str [37]),(.int .i64 9,.str [43]),(.int .i64 10,.str [45]),(.int .i64 11,.str [60]),(.int .i64 12,.str [60,61]),(.int .i64 13,.str [62]),(.int .i64 14,.str [62,61])] 15 [61,61] (by rfl) cf h
 have q10:=fun (cf:y8) (mp:OF) (ls:List j3) (env:T j3) (h:mp ls env=.map m.next)=>bF hok hln [(.int .i64 6,.str [42]),(.int .i64 7,.str [47]),(.int .i64 8,.str [37]),(.int .i64 9,.str [43]),(.int .i64 10,.str [45]),(.int .i64 11,.str [60]),(.int .i64 12,.str [60,61]),(.int .i64 13,.str [62]),(.int .i64 14,.str [62,61]),(.int .i64 15,.str [61,61])] 16 [33,61] (by rfl) cf h
 have q11:=fun (cf:y8) (mp:OF) (ls:List j3) (env:T j3) (h:mp ls env=.map m.next)=>bF hok hln [(.int .i64 6,.str [42]),(.int .i64 7,.str [47]),(.int .i64 8,.str [37]),(.int .i64 9,.str [43]),(.int .i64 10,.str [45]),(.int .i64 11,.str [60]),(.int .i64 12,.str [60,61]),(.int .i64 13,.str [62]),(.int .i64 14,.str [62,61]),(.int .i64 15,.str [61,61]),(.int .i64 16,.str [33,61])] 17 [97,110,100] (by rfl) cf h
 have q12:=fun (cf:y8) (mp:OF) (ls:List j3) (env:T j3) (h:mp ls env=.map m.next)=>bF hok hln [(.int .i64 6,.str [42]),(.int .i64 7,.str [47]),(.int .i64 8,.str [37]),(.int .i64 9,.str [43]),(.int .i64 10,.str [45]),(.int .i64 11,.str [60]),(.int .i64 12,.str [60,61]),(.int .i64 13,.str [62]),(.int .i64 14,.str [62,61]),(.int .i64 15,.str [61,61]),(.int .i64 16,.str [33,61]),(.int .i64 17,.str [97,110,100])] 18 [111,114] (by rfl) cf h
 simp only [List.nil_append,List.cons_append] at q0 q1 q2 q3 q4 q5 q6 q7 q8 q9 q10 q11 q12
 have e:W9=[(.int .i64 6,.str [42]),(.int .i64 7,.str [47]),(.int .i64 8,.str [37]),(.int .i64 9,.str [43]),(.int .i64 10,.str [45]),(.int .i64 11,.str [60]),(.int .i64 12,.str [60,61]),(.int .i64 13,.str [62]),(.int .i64 14,.str [62,61]),(.int .i64 15,.str [61,61]),(.int .i64 16,.str [33,61]),(.int .i64 17,.str [97,110,100]),(.int .i64 18,.str [111,114])]:=rfl
 rw [e]
 simp [wR,D6,trD,M7,iQ,q0,q1,q2,q3,q4,q5,q6,q7,q8,q9,q10,q11,q12]
theorem JA {K:Known}{f:FuncId}(hf:K.fns f=some AZ)(he:∀args m,K.eff f args m=none)(N n:Nat):∀e∈Q8,∀m:Mem,w9 K N (n+1) (.func f) [.int .i64 e.2.2.2] m=some [⟨.int .i64 e.1,m⟩]:=by
 intro e hm m
 rw [Cv hf rfl he]
 simp only [Q8,List.mem_cons,List.not_mem_nil,or_false] at hm
 rcases hm with rfl | rfl | rfl | rfl | rfl | rfl | rfl | rfl | rfl | rfl | rfl | rfl | rfl<;>rfl
def qo:SFn:=⟨false,[(some 0)],2,[.tmp 1],(d9 (j4 (rcP (J6 (x9 (.bool false))) (sL sH) j6)) (d9 (j4 (j5 (pIb iGe sGe (D5 gH) (x9 (.int .u8 (.ofNat 97)))) (j5 (gP oL0 true (J6 (D5 gH))) (j5 (gP oL1 true (pIb iLe sLe oL0 (x9 (.int .u8 (.ofNat 122))))) (j5 (Z8 oL2 oL0 (x9 (.bool false))) (rcP (J6 oL0) (sL sH) j6)))))) o9)),none⟩
def Ol (fi:Nat):SFn:=⟨false,[(some 2),(some 0)],5,[.tmp 4],(d9 (j4 (rcP (J6 (x9 (.bool false))) (sR (sL sH)) j6)) (d9 (j4 (rcP (J6 (x9 (.int .i64 (.ofNat 3)))) (sL (sL sH)) j6)) (d9 (d9 (j4 (j5 (nC (D5 gH) (x9 (.int .i64 (.ofNat 0)))) (rcE (o8 fi [oL0]) (sL sH) j6))) (l5 (D5 (gL gH)) (j4 (rcP (J6 (x9 (.int .i64 (.ofNat 1)))) (sL (sL sH)) j6)) l7)) (d9 (j4 (j5 (O7 (D5 (gR gH))) (j5 (D8 0 oL0) (A9 (iF oL0) (j5 (Ei oL0) (j5 (pIb iGt sGt oL0 (x9 (.int .i64 (.ofNat 0)))) (j5 (gP oL0 true (J6 (D5 (gR gH)))) (j5 (gP oL1 true (O7 oL0)) (j5 (gP oL2 true (D8 0 oL0)) (A9 (gRd oL3 true (iF oL0)) (j5 (gP (dB 4) true (G8 2 oL0 (x9 (.int .i64 (.ofNat 0))))) (A9 (gRd (dB 5) true (I5 2 oL0)) (j5 (gP (dB 6) true (J6 (D5 (gL (gL gH))))) (j5 (gP (dB 7) true (J6 (D5 gH))) (j5 (gP (dB 8) true (E9 [(.int .i64 (.ofNat 0)),(.str [])] [(0,1,oL1),(1,1,oL0)])) (j5 (gP (dB 9) true (pEq (kg [.i,.s]) oL3 oL0)) (j5 (Z8 (dB 10) oL0 (x9 (.bool false))) (rcP (J6 oL0) (sR (sL sH)) j6)))))))))))))))))) o9)))),none⟩
theorem GD {K:Known}{f:FuncId}(hf:K.fns f=some qo)(he:∀args m,K.eff f args m=none)(N n:Nat):∀e∈Q8,∃b t,e.2.2.1=b::t∧
  ∀m:Mem,w9 K N (n+1) (.func f) [.int .u8 (b.toNat:Int)] m=some [⟨.bool (decide (e.2.1=1)),m⟩]:=by
 intro e hm
 simp only [Q8,List.mem_cons,List.not_mem_nil,or_false] at hm
 rcases hm with rfl | rfl | rfl | rfl | rfl | rfl | rfl | rfl | rfl | rfl | rfl | rfl | rfl<;>exact⟨_,_,rfl,fun m=>by rw [Cv hf rfl he];rfl⟩
theorem JB:∀e∈Q8,e.2.1=1∨e.2.1=3:=by decide
theorem UK (k n:Int)(s s':List UInt8):kg [.i,.s] (.agg [.int .i64 k,.str s]) (.agg [.int .i64 n,.str s'])=some (decide (n=k)&&(s'==s)):=by
 have h:kg [.i,.s] (.agg [.int .i64 k,.str s]) (.agg [.int .i64 n,.str s'])=some (bi (aG k n) (strEq s s') false):=by
  simp [kg,R6,Ih,J5,eqStr]
  cases aG k n<;>cases strEq s s'<;>rfl
 rw [h,bI,bK]
 congr 1
 by_cases h1:k=n
 ·subst h1
  rw [beq_self_eq_true,decide_eq_true rfl]
  show (s==s')=(true&&(s'==s))
  rw [Bool.true_and]
  exact Bool.eq_iff_iff.2 ⟨fun h=>by simpa using (beq_iff_eq.1 h).symm,fun h=>by simpa using (beq_iff_eq.1 h).symm⟩
 ·rw [beq_eq_false_iff_ne.2 h1,decide_eq_false (Ne.symm h1)];rfl
theorem Qc {cf:y8}{dcf:fO}{N fi r off:Nat}{M:Mem}{tok:Option (Int×List UInt8)}(ht:AX M r off tok){b:UInt8}{t:List UInt8}{lt:Bool}(hc:cf (.func fi) [.int .u8 (b.toNat:Int)] M=some [⟨.bool lt,M⟩]):
  D6 cf dcf N (Ol fi) [.ptr r off,.str (b::t)] M=some [⟨.bool (match tok with | some (k,s)=>decide ((bif lt then 1 else 3)=k)&&((b::t)==s) | none=>false),M⟩]:=by
 have hps:∀(l r:T j3),nC (D5 gH) (x9 (.int .i64 0)) [] (.nd l (.str (b::t)) r)=some (.int .u8 (b.toNat:Int)):=fun _ _=>rfl
 have hlay:∀(n:Int) (ls:List j3) (env:T j3),lay [(0,1,oL1),(1,1,oL0)] (.str (b::t) :: .int .i64 n::ls) env [.int .i64 0,.str []]=some [.int .i64 n,.str (b::t)]:=fun _ _ _=>rfl
 obtain⟨v,hld,⟨rfl,hs⟩ | ⟨k,s,id,o,len,hv,hN,rfl⟩⟩:=ht
 ·rcases hs with rfl | ⟨id,o,c,rfl⟩ | ⟨id,o,es,rfl⟩<;>cases lt<;>simp [Ol,D6,trD,M7,o8,hps,hc,hld]
 ·rcases hv with⟨c,rfl⟩ | ⟨es,rfl⟩<;>cases lt<;>simp [Ol,D6,trD,M7,o8,hps,hc,hld,hN,hlay,UK,-Gt,-Gu]
theorem UL {K:Known}{fa fi:Nat}(hfa:K.fns fa=some (Ol fi))(hfi:K.fns fi=some qo)(he:∀f args m,K.eff f args m=none)(N n:Nat):
  ∀tok r off M,AX M r off tok→∀e∈Q8,w9 K N (n+2) (.func fa) [.ptr r off,.str e.2.2.1] M=some [⟨.bool (atB tok e),M⟩]:=by
 intro tok r off M ht e hm
 obtain⟨b,t,h1,h2⟩:=GD hfi (he fi) N n e hm
 rw [Cv hfa rfl (he fa),h1,Qc ht (h2 M)]
 have hk:(bif decide (e.2.1=1) then (1:Int) else 3)=e.2.1:=by
  rcases JB e hm with h | h
  ·rw [h];rfl
  ·rw [h];rfl
 rw [hk]
 unfold atB
 cases tok with
 | none=>rfl
 | some p=>rw [h1]
theorem ME {P:Program}{K:Known}(hK:KOk P K){f fs fl fa fi:Nat}(hf:K.fns f=some (Cq fs fl fa))(hs:K.fns fs=some wR)(hl:K.fns fl=some AZ)(ha:K.fns fa=some (Ol fi))(hi:K.fns fi=some qo)
  (he:∀f args m,K.eff f args m=none) {args:List j3} {m:Mem} {outs:List VM} (h:jw args m=some outs):
  Dm P f∧∀{ι:Inj} {w:World},RM P K.base ι m w.heap→ltL (m.nm ι) args→CallsIn Fence.wide 0 P f (l8 ι args).toArray w (F9 P K.base ι m w outs):=
 Jy hK hf (he f) (N:=14) (n:=2) (Nat.le_refl _) (fun m hok hln=>Jz hs (he fs) 14 1 m hok hln) (JA hl (he fl) 14 1) (UL ha hi he 14 0) h
structure Arr (m:Mem)(id rs:Nat)(l:List (List j3)):Prop where
 pos:0<rs
 len:∀r,r∈l→r.length=rs
 blk:∃c t c',m.get id=some (.cells rs c t)∧l.length≤c∧c≤c'∧T.Ok t c'∧∀i (h:i<l.length),t.get i=some l[i]
structure GH (id:Nat)(m m':Mem):Prop where
 ok:T.Ok m'.t m'.next
 next:m.next≤m'.next
 lim:m'.lim=m.lim
 old:∀i,i<m.next→i≠id→m'.get i=m.get i
theorem GH.refl {id:Nat}{m:Mem}(h:T.Ok m.t m.next):GH id m m:=⟨h,Nat.le_refl _,rfl,fun _ _ _=>rfl⟩
theorem GH.trans {id:Nat}{a b c:Mem}(h:GH id a b)(k:GH id b c):GH id a c:=
 ⟨k.ok,Nat.le_trans h.next k.next,k.lim.trans h.lim,fun i hi hn=>(k.old i (Nat.lt_of_lt_of_le hi h.next) hn).trans (h.old i hi hn)⟩
theorem Arr.same {m m':Mem}{id rs:Nat}{l:List (List j3)}(h:Arr m id rs l)(e:m'.get id=m.get id):Arr m' id rs l:=by
 obtain⟨p,hl,c,t,c',h1,h2⟩:=h
 exact⟨p,hl,c,t,c',e.trans h1,h2⟩
theorem Arr.ext {m m':Mem}{id rs:Nat}{l:List (List j3)}(h:Arr m id rs l)(hid:id<m.next)(e:Ext m m'):Arr m' id rs l:=h.same (e.old id hid)
theorem Arr.take {m:Mem}{id rs:Nat}{l:List (List j3)}(h:Arr m id rs l)(k:Nat):Arr m id rs (l.take k):=by
 obtain⟨p,hl,c,t,c',h1,h2,h0,h3,h4⟩:=h
 refine⟨p,fun r hr=>hl r (List.mem_of_mem_take hr),c,t,c',h1,by simp;omega,h0,h3,fun i hi=>?_⟩
 have hi':i<l.length:=by simp at hi;omega
 rw [h4 i hi',List.getElem_take]
theorem Arr.ldN {m:Mem}{id rs:Nat}{l:List (List j3)}(h:Arr m id rs l){i:Nat}(hi:i<l.length):AM.ldN (m.get id) (i*rs) rs=some (.agg l[i]):=by
 obtain⟨p,hl,c,t,c',h1,h2,h0,h3,h4⟩:=h
 have hr:=hl l[i] (List.getElem_mem hi)
 have hk:=om (rs:=rs) (n:=c) (rows:=t) (i:=i) (j:=0) (k:=rs) p (by omega) (h4 i hi) hr (by omega)
 rw [Nat.add_zero] at hk
 rw [h1]
 show K5 (some (Blk.cells rs c t)) (fun rs' n rows=>ob (eT rs' n rows (i*rs) rs) fun l=>some (j3.agg l))=_
 rw [eO,hk,G5,List.drop_zero,List.take_of_length_le (by omega)]
theorem Arr.ld1 {m:Mem}{id rs:Nat}{l:List (List j3)}(h:Arr m id rs l){i j:Nat}(hi:i<l.length)(hj:j<rs):AM.ld1 (m.get id) (i*rs+j)=l[i][j]?:=by
 obtain⟨p,hl,c,t,c',h1,h2,h0,h3,h4⟩:=h
 rw [h1]
 show K5 (some (Blk.cells rs c t)) (fun rs' n rows=>cell1 rs' n rows (i*rs+j))=_
 rw [eO,mJ hj (by omega) (h4 i hi)]
theorem Arr.store {m:Mem}{id rs:Nat}{l:List (List j3)}(h:Arr m id rs l)(hm:m.Ok)(hid:id<m.next)(hlim:m.lim≤id){i:Nat}(hi:i<l.length){row:List j3}(hr:row.length=rs)(ho:G7 row=true):
  ∃m',(∀{β:Type} (k:Mem→Option β),storeAt m id (i*rs) row k=k m')∧Arr m' id rs (l.set i row)∧GH id m m':=by
 obtain⟨p,hl,c,t,c',h1,h2,h0,h3,h4⟩:=h
 have hq:Nat.div (i*rs) rs=i:=Nat.mul_div_cancel i p
 have hz:Nat.mod (i*rs) rs=0:=Nat.mul_mod_left i rs
 have hold:=h4 i hi
 have hol:=hl l[i] (List.getElem_mem hi)
 have hw:L6 rs c t (i*rs) row=some (t.put i row):=by
  unfold L6
  rw [hq,hz,show Nat.blt i c=true from Nat.blt_eq.mpr (by omega),hold]
  show bi (Nat.ble (Nat.add 0 (len' row)) rs) (some (t.put i (iO 0 row l[i]))) none=_
  rw [C8,show Nat.ble (Nat.add 0 row.length) rs=true from Nat.ble_eq_true_of_le (by show 0+row.length≤rs;omega),eZ _ _ _ (by omega),List.take_zero,Nat.zero_add,
   List.drop_of_length_le (by omega)]
  simp
 refine⟨m.set id (.cells rs c (t.put i row)),fun k=>?_,⟨p,fun r hr'=>?_,c,t.put i row,c',?_,by simpa using h2,h0,T.Ok.put h3 i row (by omega),fun j hj=>?_⟩,?_⟩
 ·rw [dN hlim ho,h1]
  show ob (ob (L6 rs c t (i*rs) row) fun rows'=>some (Blk.cells rs c rows')) _=_
  rw [hw];rfl
 ·rcases List.mem_or_eq_of_mem_set hr' with h | rfl
  ·exact hl r h
  ·exact hr
 ·rw [Mem.K4 hm hid,if_pos rfl]
 ·have hj':j<l.length:=by simpa using hj
  rw [List.getElem_set]
  split
  ·rename_i e;subst e;exact T.N7 h3 _ _ (by omega)
  ·rename_i e;rw [T.O8 h3 _ _ _ (by omega) e];exact h4 j hj'
 ·exact⟨Mem.Ok.set hm hid _,by simp,rfl,fun j hj hn=>by rw [Mem.K4 hm hid,if_neg hn]⟩
theorem pJ {rs n:Nat}{rows:T (List j3)}:∀(a b off:Nat),H7 rs n rows (a+b) off=ob (H7 rs n rows a off) fun x=>ob (H7 rs n rows b (off+a)) fun y=>some (x++y)
 | 0,b,off=>by
  rw [Nat.zero_add,Nat.add_zero]
  show _=ob (H7 rs n rows b off) fun y=>some ([]++y)
  cases H7 rs n rows b off<;>rfl
 | a+1,b,off=>by
  rw [show a+1+b=(a+b)+1 from by omega]
  show ob (cell1 rs n rows off) (fun v=>ob (H7 rs n rows (a+b) (off+1)) fun l=>some (v::l))=ob (ob (cell1 rs n rows off) fun v=>ob (H7 rs n rows a (off+1)) fun l=>some (v::l)) _
  rw [pJ a b (off+1),show off+1+a=off+(a+1) from by omega]
  cases cell1 rs n rows off with
  | none=>rfl
  | some v=>
   simp only [G5]
   cases H7 rs n rows a (off+1) with
   | none=>rfl
   | some x=>
    simp only [G5]
    cases H7 rs n rows b (off+(a+1))<;>rfl
theorem pK {rs n:Nat}{rows:T (List j3)}{i:Nat}{row:List j3}(hi:i<n)(h:rows.get i=some row)(hl:row.length=rs):
  ∀k j,j+k=rs→H7 rs n rows k (i*rs+j)=some (row.drop j):=by
 intro k
 induction k with
 | zero=>intro j hj;rw [List.drop_of_length_le (by omega)];rfl
 | succ k ih=>
  intro j hj
  show ob (cell1 rs n rows (i*rs+j)) (fun v=>ob (H7 rs n rows k (i*rs+j+1)) fun l=>some (v::l))=_
  have hjl:j<row.length:=by omega
  rw [mJ (by omega) hi h,List.getElem?_eq_getElem hjl,G5,show i*rs+j+1=i*rs+(j+1) from by omega,ih (j+1) (by omega),List.drop_eq_getElem_cons hjl]
  rfl
theorem wS {rs n:Nat}{rows:T (List j3)}{l:List (List j3)}(hl:∀r,r∈l→r.length=rs)(h:∀i (h:i<l.length),rows.get i=some l[i])(hn:l.length≤n):
  ∀k i,i+k=l.length→H7 rs n rows (k*rs) (i*rs)=some (l.drop i).flatten:=by
 intro k
 induction k with
 | zero=>intro i hi;rw [List.drop_of_length_le (by omega),Nat.zero_mul];rfl
 | succ k ih=>
  intro i hi
  have hi':i<l.length:=by omega
  have:=pK (n:=n) (i:=i) (by omega) (h i hi') (hl _ (List.getElem_mem hi')) rs 0 (by omega)
  rw [Nat.add_zero,List.drop_zero] at this
  rw [show (k+1)*rs=rs+k*rs from by rw [Nat.add_mul,Nat.one_mul,Nat.add_comm],pJ,this,G5,show i*rs+rs=(i+1)*rs from by rw [Nat.add_mul,Nat.one_mul],ih (i+1) (by omega),G5,List.drop_eq_getElem_cons hi']
  rfl
theorem sJ {rs:Nat}:∀(l:List (List j3)),(∀r,r∈l→r.length=rs)→rowsOf rs l.length l.flatten=some l
 | [],_=>rfl
 | r::l,h=>by
  have hr:=h r (by simp)
  show ob (takeN rs (r++l.flatten)) (fun x=>ob (rowsOf rs l.length (fJ rs (r++l.flatten))) fun rest=>some (x::rest))=_
  rw [aB _ _ (by simp;omega),G5,aJ,List.drop_left' hr,List.take_left' hr,sJ l (fun x hx=>h x (by simp [hx]))]
  rfl
theorem MF {m:Mem}(hm:m.Ok){rs:Nat}(hp:0<rs){l:List (List j3)}(hl:∀r,r∈l→r.length=rs):Arr (m.new (.cells rs l.length (T.ofList l))) m.next rs l:=
 ⟨hp,hl,l.length,T.ofList l,l.length,by rw [Mem.D7 hm,if_pos rfl],Nat.le_refl _,Nat.le_refl _,T.Y9 l,fun i h=>by rw [T.M9,List.getElem?_eq_getElem h]⟩
theorem DX {m:Mem}{rs:Nat}{l:List (List j3)}(hl:∀r,r∈l→r.length=rs):grown m rs l.length l.flatten=some [⟨.sliceU m.next 0 l.length rs,m.new (.cells rs l.length (T.ofList l))⟩]:=by
 show ob (rowsOf rs l.length l.flatten) (fun rows=>one (j3.sliceU m.next 0 l.length rs) (m.new (.cells rs l.length (T.ofList rows))))=_
 rw [sJ l hl];rfl
theorem mQ:∀(a b:List j3),G7 (a++b)=(G7 a&&G7 b)
 | [],_=>rfl
 | v::a,b=>by
  show bi (bM v) (G7 (a++b)) false=(bi (bM v) (G7 a) false&&G7 b)
  rw [mQ a b]
  cases bM v<;>rfl
theorem jA {rs n:Nat}(hp:0<rs):∀(vs:List j3) (t:T (List j3)) (off k n':Nat),n≤n'→T.Ok t n'→k*rs≤off→off+vs.length≤n*rs→
  ∃t',aF rs n vs t off=some t'∧T.Ok t' n'∧∀i,i<k→t'.get i=t.get i
 | [],t,off,k,n',_,h,_,_=>⟨t,rfl,h,fun _ _=>rfl⟩
 | v::vs,t,off,k,n',hnn,h,hk,hn=>by
  have hlt:off<n*rs:=by simp at hn;omega
  have hd:off / rs<n:=Nat.div_lt_of_lt_mul (by rw [Nat.mul_comm];exact hlt)
  obtain⟨row,hrow⟩:=(h.get _).2 (Nat.lt_of_lt_of_le hd hnn)
  have hmod:off%rs<rs:=Nat.mod_lt _ hp
  have hkd:k≤off / rs:=(Nat.le_div_iff_mul_le hp).2 hk
  have hw:L6 rs n t off [v]=some (t.put (off / rs) (iO (off%rs) [v] row)):=by
   show bi (Nat.blt (off / rs) n) (ob (t.get (off / rs)) fun row=>bi (Nat.ble (off%rs+1) rs) (some (t.put (off / rs) (iO (off%rs) [v] row))) none) none=_
   rw [show Nat.blt (off / rs) n=true from Nat.blt_eq.mpr hd,hrow,H9,G5,show Nat.ble (off%rs+1) rs=true from Nat.ble_eq_true_of_le hmod];rfl
  obtain⟨t',h1,h2,h3⟩:=jA hp vs (t.put (off / rs) (iO (off%rs) [v] row)) (off+1) k n' hnn (T.Ok.put h _ _ (Nat.lt_of_lt_of_le hd hnn)) (by omega) (by simp at hn;omega)
  refine⟨t',?_,h2,fun i hi=>?_⟩
  ·show ob (L6 rs n t off [v]) (fun rows'=>aF rs n vs rows' (off+1))=_
   rw [hw];exact h1
  ·rw [h3 i hi,T.O8 h _ _ _ (by omega) (by omega)]
theorem Arr.clear {m:Mem}{id rs:Nat}{l:List (List j3)}(h:Arr m id rs l)(hm:m.Ok)(hid:id<m.next)(hlim:m.lim≤id){k:Nat}(hk:k≤l.length){vs:List j3}(hv:k*rs+vs.length≤l.length*rs)(ho:G7 vs=true):
  ∃m',(∀{β:Type} (f:Mem→Option β),bN m id (k*rs) vs f=f m')∧Arr m' id rs (l.take k)∧GH id m m':=by
 have ht:=h.take k
 obtain⟨p,hl,c,t,c',h1,h2,h0,h3,h4⟩:=h
 cases vs with
 | nil=>exact⟨m,fun f=>rfl,ht,GH.refl hm⟩
 | cons v vs=>
  obtain⟨t',w1,w2,w3⟩:=jA p (v::vs) t (k*rs) k c' h0 h3 (Nat.le_refl _) (Nat.le_trans hv (Nat.mul_le_mul_right _ h2))
  refine⟨m.set id (.cells rs c t'),fun {β} f=>?_,⟨p,ht.len,c,t',c',by rw [Mem.K4 hm hid,if_pos rfl],by simp;omega,h0,w2,fun i hi=>?_⟩,Mem.Ok.set hm hid _,by simp,rfl,fun j hj hn=>by rw [Mem.K4 hm hid,if_neg hn]⟩
  ·show bi (Nat.blt id m.lim) none (bi (G7 (v::vs)) (K5 (m.get id) fun rs' n rows=>ob (aF rs' n (v::vs) rows (k*rs)) fun rows'=>f (m.set id (.cells rs' n rows'))) none)=f (m.set id (.cells rs c t'))
   rw [show Nat.blt id m.lim=false from Bool.eq_false_iff.2 fun e=>absurd (Nat.blt_eq.mp e) (Nat.not_lt.2 hlim),ho,h1,J8,H9,eO,w1];rfl
  ·have hi':i<k∧i<l.length:=by simp at hi;omega
   rw [w3 i hi'.1,h4 i hi'.2,List.getElem_take]
def nk (m:Mem)(v:j3)(xs:List j3):Prop:=
 (v=.nilSlice∧xs=[])∨∃id off,((∃c,v=.slice id off xs.length c∧xs.length≤c)∨v=.sliceU id off xs.length 1)∧id<m.next∧
  (xs=[]∨∃n rows,m.get id=some (.cells 1 n rows)∧off+xs.length≤n∧∀i (h:i<xs.length),rows.get (off+i)=some [xs[i]])
def GI (m:Mem)(v:j3)(xs:List j3):Prop:=
 ∃id off c,v=.slice id off xs.length c∧xs.length≤c∧id<m.next∧
  (xs=[]∨∃n rows,m.get id=some (.cells 1 n rows)∧off+xs.length≤n∧∀i (h:i<xs.length),rows.get (off+i)=some [xs[i]])
theorem GI.vs {m:Mem}{v:j3}{xs:List j3}(h:GI m v xs):nk m v xs:=by
 obtain⟨id,off,c,h1,h2,h3,h4⟩:=h
 exact .inr ⟨id,off,.inl ⟨c,h1,h2⟩,h3,h4⟩
theorem nk.keep {m m':Mem}{v:j3}{xs:List j3}(hv:nk m v xs)(hn:m.next≤m'.next)(h:∀id n rows,id<m.next→m.get id=some (.cells 1 n rows)→(∃o l c,v=.slice id o l c)∨(∃o l e,v=.sliceU id o l e)→m'.get id=m.get id):nk m' v xs:=by
 rcases hv with hv | ⟨id,off,h1,h2,h3⟩
 ·exact .inl hv
 ·refine .inr ⟨id,off,h1,Nat.lt_of_lt_of_le h2 hn,?_⟩
  rcases h3 with h3 | ⟨n,rows,h4,h5,h6⟩
  ·exact .inl h3
  ·refine .inr ⟨n,rows,(h id n rows h2 h4 ?_).trans h4,h5,h6⟩
   rcases h1 with⟨c,rfl,_⟩ | rfl
   ·exact .inl ⟨_,_,_,rfl⟩
   ·exact .inr ⟨_,_,_,rfl⟩
theorem nk.ext {m m':Mem}(h:Ext m m'){v:j3}{xs:List j3}(hv:nk m v xs):nk m' v xs:=hv.keep h.next fun id _ _ hi _ _=>h.old id hi
theorem GI.keep {m m':Mem}{v:j3}{xs:List j3}(hv:GI m v xs)(hn:m.next≤m'.next)(h:∀id n rows,id<m.next→m.get id=some (.cells 1 n rows)→(∃o l c,v=.slice id o l c)→m'.get id=m.get id):GI m' v xs:=by
 obtain⟨id,off,c,rfl,h1,h2,h3⟩:=hv
 refine⟨id,off,c,rfl,h1,Nat.lt_of_lt_of_le h2 hn,?_⟩
 rcases h3 with h3 | ⟨n,rows,h4,h5,h6⟩
 ·exact .inl h3
 ·exact .inr ⟨n,rows,(h id n rows h2 h4 ⟨_,_,_,rfl⟩).trans h4,h5,h6⟩
theorem GI.ext {m m':Mem}(h:Ext m m'){v:j3}{xs:List j3}(hv:GI m v xs):GI m' v xs:=hv.keep h.next fun id _ _ hi _ _=>h.old id hi
theorem nk.cells {m:Mem}{v:j3}{xs:List j3}(h:nk m v xs):v.cells=[v]:=by
 rcases h with⟨rfl,rfl⟩ | ⟨id,off,⟨c,rfl,_⟩ | rfl,_⟩<;>rfl
theorem nk.pan {m:Mem}{v:j3}{xs:List j3}(h:nk m v xs){β:Type}(p:j3→β)(q:β):fM v p q=q:=by
 rcases h with⟨rfl,rfl⟩ | ⟨id,off,⟨c,rfl,_⟩ | rfl,_⟩<;>rfl
theorem nk.bM {m:Mem}{v:j3}{xs:List j3}(h:nk m v xs):Go.AM.bM v=true:=by
 rcases h with⟨rfl,rfl⟩ | ⟨id,off,⟨c,rfl,_⟩ | rfl,_⟩<;>rfl
theorem nk.len {m:Mem}{v:j3}{xs:List j3}(h:nk m v xs):vSl v (some (j3.int .i64 0)) (fun _ _ n _=>some (.int .i64 n)) (fun _ _ n _=>some (.int .i64 n))=some (.int .i64 xs.length):=by
 rcases h with⟨rfl,rfl⟩ | ⟨id,off,⟨c,rfl,_⟩ | rfl,_⟩<;>rfl
theorem nk.lenOf {m:Mem}{v:j3}{xs:List j3}(h:nk m v xs):Go.AM.lenOf v=some xs.length:=by
 rcases h with⟨rfl,rfl⟩ | ⟨id,off,⟨c,rfl,_⟩ | rfl,_⟩<;>rfl
theorem nk.at {m:Mem}{v:j3}{xs:List j3}(h:nk m v xs){i:Nat}(hi:i<xs.length):
  ∃id o,vSl v none (fun id off len _=>idx len (.int .i64 i) fun k=>some (j3.ptr id (off+k))) (fun id off len _=>idx len (.int .i64 i) fun k=>some (j3.ptr id (off+k)))=some (.ptr id o)∧id<m.next∧ld1 (m.get id) o=some xs[i]:=by
 rcases h with⟨_,rfl⟩ | ⟨id,off,h1,h2,h3⟩
 ·simp at hi
 ·rcases h3 with rfl | ⟨n,rows,h4,h5,h6⟩
  ·simp at hi
  ·refine⟨id,off+i,?_,h2,by rw [h4];exact Gr (by omega) (h6 i hi)⟩
   rcases h1 with⟨c,rfl,_⟩ | rfl
   ·simp only [sj]
    rw [oh _ _ _ hi]
   ·simp only [nZ]
    rw [oh _ _ _ hi]
theorem GI.tail {m:Mem}{v x:j3}{xs:List j3}(h:GI m v (x::xs)):∃v',GI m v' xs∧(∀(y a:OF) (ls:List j3) (env:T j3) (nid:Nat),y ls env=v→a ls env=.int .i64 1→lSl 1 y (some a) none ls env nid=some (v',none))∧∀i o l c,v'=.slice i o l c→∃o2 l2 c2,v=.slice i o2 l2 c2:=by
 obtain⟨id,off,c,rfl,h1,h2,h3⟩:=h
 have hc:xs.length+1≤c:=by simpa using h1
 refine⟨.slice id (bi (Nat.beq 1 c) off (Nat.add off (Nat.mul 1 1))) xs.length (c-1),⟨id,_,c-1,rfl,by omega,h2,?_⟩,fun y a ls env nid hy ha=>?_,fun i o l c' h=>by cases h;exact⟨_,_,_,rfl⟩⟩
 ·by_cases hx:xs=[]
  ·exact .inl hx
  ·have hl:=List.length_pos_iff.2 hx
   rcases h3 with h3 | ⟨n,rows,h4,h5,h6⟩
   ·cases h3
   ·refine .inr ⟨n,rows,h4,?_⟩
    rw [jv,if_neg (by omega)]
    have e:Nat.add off (Nat.mul 1 1)=off+1:=rfl
    rw [e]
    refine⟨by simp at h5;omega,fun i hi=>?_⟩
    have:=h6 (i+1) (by simp;omega)
    rw [show off+1+i=off+(i+1) from by omega,this];rfl
 ·show kU (a ls env) (fun l=>F3 nid 1 (y ls env) l none)=_
  rw [ha,hy]
  show F3 nid 1 (.slice id off (xs.length+1) c) 1 none=_
  show bi (Nat.ble 1 (xs.length+1)) (bi (Nat.ble (xs.length+1) c) (some (j3.slice id (bi (Nat.beq 1 c) off (Nat.add off (Nat.mul 1 1))) (Nat.sub (xs.length+1) 1) (Nat.sub c 1),none)) none) none=_
  rw [show Nat.ble 1 (xs.length+1)=true from Nat.ble_eq_true_of_le (by omega),show Nat.ble (xs.length+1) c=true from Nat.ble_eq_true_of_le hc]
  rfl
structure Fr (lo p:Nat)(m m':Mem):Prop where
 ok:T.Ok m'.t m'.next
 next:m.next≤m'.next
 lim:m'.lim=m.lim
 old:∀i,i<lo→i≠p→m'.get i=m.get i
theorem Fr.refl {lo p:Nat}{m:Mem}(h:T.Ok m.t m.next):Fr lo p m m:=⟨h,Nat.le_refl _,rfl,fun _ _ _=>rfl⟩
theorem Fr.trans {lo p:Nat}{a b c:Mem}(h:Fr lo p a b)(k:Fr lo p b c):Fr lo p a c:=
 ⟨k.ok,Nat.le_trans h.next k.next,k.lim.trans h.lim,fun i hi hp=>(k.old i hi hp).trans (h.old i hi hp)⟩
theorem Ext.fr {lo p:Nat}{m m':Mem}(h:Ext m m')(hlo:lo≤m.next):Fr lo p m m':=⟨h.ok,h.next,h.lim,fun i hi _=>h.old i (by omega)⟩
theorem GH.fr {lo p:Nat}{m m':Mem}(h:GH p m m')(hlo:lo≤m.next):Fr lo p m m':=⟨h.ok,h.next,h.lim,fun i hi hp=>h.old i (by omega) hp⟩
theorem Fr.ext {lo p:Nat}{m m':Mem}(h:Fr lo p m m')(hlo:m.next≤lo)(hp:lo≤p):Ext m m':=⟨h.ok,h.next,h.lim,fun i hi=>h.old i (by omega) (by omega)⟩
theorem Fr.mono {lo p q:Nat}{m m':Mem}(h:Fr lo p m m')(hp:lo≤p):Fr lo q m m':=⟨h.ok,h.next,h.lim,fun i hi _=>h.old i hi (by omega)⟩
theorem Fr.down {lo lo' p:Nat}{m m':Mem}(h:Fr lo p m m')(hl:lo'≤lo):Fr lo' p m m':=⟨h.ok,h.next,h.lim,fun i hi hp=>h.old i (by omega) hp⟩
def Ep (lo:Nat)(m:Mem)(v:j3)(l:List j3):Prop:=
 (v=.nilSlice∧l=[])∨∃id,lo≤id∧id<m.next∧G7 l=true∧Arr m id 1 (l.map ([·]))∧(v=.slice id 0 l.length l.length∨v=.sliceU id 0 l.length 1)
theorem Ep.nil (lo:Nat)(m:Mem):Ep lo m .nilSlice []:=.inl ⟨rfl,rfl⟩
theorem Ep.keep {lo:Nat}{m m':Mem}{v:j3}{l:List j3}(h:Ep lo m v l)(hn:m.next≤m'.next)(ho:∀i,lo≤i→i<m.next→m'.get i=m.get i):Ep lo m' v l:=by
 rcases h with h | ⟨id,h1,h2,h3,h4,h5⟩
 ·exact .inl h
 ·exact .inr ⟨id,h1,Nat.lt_of_lt_of_le h2 hn,h3,h4.same (ho id h1 h2),h5⟩
theorem Ep.ext {lo:Nat}{m m':Mem}{v:j3}{l:List j3}(h:Ep lo m v l)(e:Ext m m'):Ep lo m' v l:=h.keep e.next fun i _ hi=>e.old i hi
theorem Ep.vs {lo:Nat}{m:Mem}{v:j3}{l:List j3}(h:Ep lo m v l):nk m v l:=by
 rcases h with h | ⟨id,h1,h2,h3,h4,h5⟩
 ·exact .inl h
 ·obtain⟨p,hl,c,t,c',q1,q2,q0,q3,q4⟩:=h4
  refine .inr ⟨id,0,?_,h2,.inr ⟨c,t,q1,by simpa using q2,fun i hi=>?_⟩⟩
  ·rcases h5 with h5 | h5
   ·exact .inl ⟨_,h5,Nat.le_refl _⟩
   ·exact .inr h5
  ·rw [Nat.zero_add,q4 i (by simpa using hi)];simp
theorem Ep.sl {lo:Nat}{m:Mem}{v:j3}{xs:List Int}(h:Ep lo m v (ints xs)):zK m v xs:=by
 have hlen:(ints xs).length=xs.length:=by simp [ints]
 rcases h with⟨h,h'⟩ | ⟨id,h1,h2,h3,h4,h5⟩
 ·exact .inl ⟨h,by simpa [ints] using h'⟩
 ·obtain⟨p,hl,c,t,c',q1,q2,q0,q3,q4⟩:=h4
  rw [hlen] at h5
  refine .inr ⟨(id,0),?_,h2,.inr ⟨c,t,q1,by simpa [ints] using q2,fun i hi=>?_⟩⟩
  ·rcases h5 with h5 | h5
   ·exact .inl ⟨_,h5⟩
   ·exact .inr ⟨_,h5⟩
  ·rw [Nat.zero_add,q4 i (by simpa [ints] using hi)];simp [ints]
theorem Fr.new {lo:Nat}{m:Mem}(hm:m.Ok)(hlo:lo≤m.next)(b:Blk):Fr lo lo m (m.new b):=((Ext.refl hm).new b).fr hlo
theorem mR:∀a b:List UInt8,strEq a b=decide (a=b)
 | [],[]=>rfl
 | [],_ :: _=>rfl
 | _ :: _,[]=>rfl
 | x::a,y::b=>by
  show bi (Nat.beq x.toNat y.toNat) (strEq a b) false=_
  rw [jv,mR a b]
  by_cases h:x=y
  ·subst h;rw [if_pos rfl];simp
  ·rw [if_neg (fun e=>h (UInt8.toNat_inj.1 e))];simp [h]
@[simp] theorem adE (a b:List UInt8):sEq a b=some (.bool (decide (a=b))):=by rw [← mR];rfl
@[simp] theorem adF (a b:List UInt8):sNe a b=some (.bool (!decide (a=b))):=by rw [← mR];rfl
@[simp] theorem SX (a b:List UInt8):eqStr (.str a) (.str b)=some (decide (a=b)):=by rw [← mR];rfl
section
variable {x lo hi:OF}{ls:List j3}{env:T j3}{s:List UInt8}{l h:Nat}
theorem mU (hx:x ls env=.str s)(hl:lo ls env=.int .i64 (l:Int))(hh:hi ls env=.int .i64 (h:Int))(h1:l≤h)(h2:h≤s.length):aW x (some lo) (some hi) ls env=some (.str ((s.drop l).take (h-l))):=by
 show pO (x ls env) (fun s=>kU (lo ls env) fun l=>kU (hi ls env) fun h=>bi (Nat.ble l h) (bi (Nat.ble h (len' s)) (ob (takeN (Nat.sub h l) (fJ l s)) fun r=>some (j3.str r)) none) none)=_
 rw [hx,wL,hl,su,mH,hh,su,mH,show Nat.ble l h=true from Nat.ble_eq_true_of_le h1,C8,show Nat.ble h s.length=true from Nat.ble_eq_true_of_le h2,H9,H9,aJ,
  show Nat.sub h l=h-l from rfl,aB _ _ (by simp;omega)];rfl
theorem qp (hx:x ls env=.str s)(hh:hi ls env=.int .i64 (h:Int))(h2:h≤s.length):aW x none (some hi) ls env=some (.str (s.take h)):=by
 show pO (x ls env) (fun s=>kU (hi ls env) fun h=>bi (Nat.ble 0 h) (bi (Nat.ble h (len' s)) (ob (takeN (Nat.sub h 0) (fJ 0 s)) fun r=>some (j3.str r)) none) none)=_
 rw [hx,wL,hh,su,mH,show Nat.ble 0 h=true from Nat.ble_eq_true_of_le (Nat.zero_le _),C8,show Nat.ble h s.length=true from Nat.ble_eq_true_of_le h2,H9,H9,aJ,
  show Nat.sub h 0=h from rfl,List.drop_zero,aB _ _ h2];rfl
theorem JC (hx:x ls env=.str s)(hl:lo ls env=.int .i64 (l:Int))(h1:l≤s.length):aW x (some lo) none ls env=some (.str (s.drop l)):=by
 show pO (x ls env) (fun s=>kU (lo ls env) fun l=>bi (Nat.ble l (len' s)) (bi (Nat.ble (len' s) (len' s)) (ob (takeN (Nat.sub (len' s) l) (fJ l s)) fun r=>some (j3.str r)) none) none)=_
 rw [hx,wL,hl,su,mH,C8,show Nat.ble l s.length=true from Nat.ble_eq_true_of_le h1,show Nat.ble s.length s.length=true from Nat.ble_eq_true_of_le (Nat.le_refl _),H9,H9,aJ,
  show Nat.sub s.length l=s.length-l from rfl,aB _ _ (by simp),List.take_of_length_le (by simp)];rfl
theorem Z7 (hx:x ls env=.str s)(hl:lo ls env=.int .i64 (l:Int))(h1:l<s.length):nC x lo ls env=some (.int .u8 (s[l].toNat:Nat)):=by
 show pO (x ls env) (fun s=>kU (lo ls env) fun k=>ob (sW k s) fun b=>some (j3.int .u8 b.toNat))=_
 rw [hx,wL,hl,su,mH,cZ,List.getElem?_eq_getElem h1];rfl
theorem MG {b:UInt8}{t:List UInt8}(hx:x ls env=.str (b::t))(hl:lo ls env=.int .i64 0):nC x lo ls env=some (.int .u8 (b.toNat:Nat)):=by
 have:=Z7 (l:=0) hx (by simpa using hl) (by simp)
 simpa using this
end
def strs (l:List (List UInt8)):List j3:=l.map j3.str
theorem jU (l:List (List UInt8)):(strs l).length=l.length:=by simp [strs]
def mV (m:Mem)(rs:Nat)(v:j3)(l:List (List j3)):Prop:=
 (v=.nilSlice∧l=[])∨∃id o,((∃c,v=.slice id (o*rs) l.length c∧l.length≤c)∨v=.sliceU id (o*rs) l.length rs)∧id<m.next∧
  (l=[]∨∃n rows,m.get id=some (.cells rs n rows)∧o+l.length≤n∧(∀r,r∈l→r.length=rs)∧∀i (h:i<l.length),rows.get (o+i)=some l[i])
section
variable {m m':Mem}{rs:Nat}{v:j3}{l:List (List j3)}
theorem mV.keep (hv:mV m rs v l)(hn:m.next≤m'.next)(h:∀id n rows,id<m.next→m.get id=some (.cells rs n rows)→(∃o l c,v=.slice id o l c)∨(∃o l e,v=.sliceU id o l e)→m'.get id=m.get id):mV m' rs v l:=by
 rcases hv with hv | ⟨id,o,h1,h2,h3⟩
 ·exact .inl hv
 ·refine .inr ⟨id,o,h1,Nat.lt_of_lt_of_le h2 hn,?_⟩
  rcases h3 with h3 | ⟨n,rows,h4,h5⟩
  ·exact .inl h3
  ·refine .inr ⟨n,rows,(h id n rows h2 h4 ?_).trans h4,h5⟩
   rcases h1 with⟨c,rfl,_⟩ | rfl
   ·exact .inl ⟨_,_,_,rfl⟩
   ·exact .inr ⟨_,_,_,rfl⟩
theorem mV.ext (h:Ext m m')(hv:mV m rs v l):mV m' rs v l:=hv.keep h.next fun id _ _ hi _ _=>h.old id hi
theorem mV.cells (h:mV m rs v l):v.cells=[v]:=by
 rcases h with⟨rfl,rfl⟩ | ⟨id,off,⟨c,rfl,_⟩ | rfl,_⟩<;>rfl
theorem mV.pan (h:mV m rs v l){β:Type}(p:j3→β)(q:β):fM v p q=q:=by
 rcases h with⟨rfl,rfl⟩ | ⟨id,off,⟨c,rfl,_⟩ | rfl,_⟩<;>rfl
theorem mV.bM (h:mV m rs v l):Go.AM.bM v=true:=by
 rcases h with⟨rfl,rfl⟩ | ⟨id,off,⟨c,rfl,_⟩ | rfl,_⟩<;>rfl
theorem mV.len (h:mV m rs v l):vSl v (some (j3.int .i64 0)) (fun _ _ n _=>some (.int .i64 n)) (fun _ _ n _=>some (.int .i64 n))=some (.int .i64 l.length):=by
 rcases h with⟨rfl,rfl⟩ | ⟨id,off,⟨c,rfl,_⟩ | rfl,_⟩<;>rfl
theorem mV.lenOf (h:mV m rs v l):Go.AM.lenOf v=some l.length:=by
 rcases h with⟨rfl,rfl⟩ | ⟨id,off,⟨c,rfl,_⟩ | rfl,_⟩<;>rfl
theorem GJ {n i rs:Nat}{rows:T (List j3)}{r:List j3}(hi:i<n)(h:rows.get i=some r)(hl:r.length=rs){j k:Nat}(hj:j<rs)(hk:j+k≤rs):ldN (some (.cells rs n rows)) (i*rs+j) k=some (.agg ((r.drop j).take k)):=by
 show K5 (some (Blk.cells rs n rows)) (fun rs' n rows=>ob (eT rs' n rows (i*rs+j) k) fun l=>some (j3.agg l))=_
 rw [eO,om hj hi h hl hk,G5]
theorem mV.at (h:mV m rs v l){i:Nat}(hi:i<l.length):
  ∃id o,vSl v none (fun id off len _=>idx len (.int .i64 i) fun k=>some (j3.ptr id (off+k*rs))) (fun id off len _=>idx len (.int .i64 i) fun k=>some (j3.ptr id (off+k*rs)))=some (.ptr id o)∧id<m.next∧
   (l[i]).length=rs∧(∀j k,j<rs→j+k≤rs→ldN (m.get id) (o+j) k=some (.agg (((l[i]).drop j).take k)))∧∀j,j<rs→ld1 (m.get id) (o+j)=(l[i])[j]?:=by
 rcases h with⟨_,rfl⟩ | ⟨id,off,h1,h2,h3⟩
 ·simp at hi
 ·rcases h3 with rfl | ⟨n,rows,h4,h5,h7,h6⟩
  ·simp at hi
  ·have hlen:=h7 l[i] (List.getElem_mem hi)
   refine⟨id,off*rs+i*rs,?_,h2,hlen,fun j k hj hk=>?_,fun j hj=>?_⟩
   ·rcases h1 with⟨c,rfl,_⟩ | rfl
    ·simp only [sj]
     rw [oh _ _ _ hi]
    ·simp only [nZ]
     rw [oh _ _ _ hi]
   ·rw [← Nat.add_mul,h4];exact GJ (by omega) (h6 i hi) hlen hj hk
   ·rw [← Nat.add_mul,h4]
    show K5 (some (Blk.cells rs n rows)) (fun rs' n rows=>cell1 rs' n rows ((off+i)*rs+j))=_
    rw [eO,mJ hj (by omega) (h6 i hi)]
end
def mW (lo rs:Nat)(m:Mem)(v:j3)(l:List (List j3)):Prop:=
 (v=.nilSlice∧l=[])∨∃id,lo≤id∧id<m.next∧G7 l.flatten=true∧Arr m id rs l∧l≠[]∧(v=.slice id 0 l.length l.length∨v=.sliceU id 0 l.length rs)
section
variable {m m':Mem}{lo rs:Nat}{v:j3}{l:List (List j3)}
theorem mW.nil (lo rs:Nat)(m:Mem):mW lo rs m .nilSlice []:=.inl ⟨rfl,rfl⟩
theorem mW.keep (h:mW lo rs m v l)(hn:m.next≤m'.next)(ho:∀i,lo≤i→i<m.next→m'.get i=m.get i):mW lo rs m' v l:=by
 rcases h with h | ⟨id,h1,h2,h3,h4,h5⟩
 ·exact .inl h
 ·exact .inr ⟨id,h1,Nat.lt_of_lt_of_le h2 hn,h3,h4.same (ho id h1 h2),h5⟩
theorem mW.ext (h:mW lo rs m v l)(e:Ext m m'):mW lo rs m' v l:=h.keep e.next fun i _ hi=>e.old i hi
theorem mW.lt (h:mW lo rs m v l){i o n e:Nat}(hv:v=.sliceU i o n e):lo≤i∧i<m.next:=by
 rcases h with⟨rfl,_⟩ | ⟨id,h1,h2,_,_,_,rfl | rfl⟩
 ·cases hv
 ·cases hv
 ·cases hv;exact⟨h1,h2⟩
theorem mW.down {lo':Nat}(h:mW lo rs m v l)(hl:lo'≤lo):mW lo' rs m v l:=by
 rcases h with h | ⟨id,h1,h2⟩
 ·exact .inl h
 ·exact .inr ⟨id,Nat.le_trans hl h1,h2⟩
theorem mW.slice (h:mW lo rs m v l):mV m rs v l:=by
 rcases h with h | ⟨id,h1,h2,h3,h4,_,h5⟩
 ·exact .inl h
 ·obtain⟨p,hl,c,t,c',q1,q2,q0,q3,q4⟩:=h4
  refine .inr ⟨id,0,?_,h2,.inr ⟨c,t,q1,by simpa using q2,hl,fun i hi=>?_⟩⟩
  ·rw [Nat.zero_mul]
   rcases h5 with h5 | h5
   ·exact .inl ⟨_,h5,Nat.le_refl _⟩
   ·exact .inr h5
  ·simp only [Nat.zero_add];exact q4 i hi
theorem MH {n bytes es:Nat}(h:n≤100000)(hb:1≤bytes∧bytes≤1000)(he:1≤es):big n bytes es=true:=by
 show bi (Nat.ble ((2*n+2048)*bytes) 281474976710656) (bi (Nat.ble 1 es) (Nat.ble 1 bytes) false) false=true
 rw [show Nat.ble ((2*n+2048)*bytes) 281474976710656=true from Nat.ble_eq_true_of_le (Nat.le_trans (Nat.mul_le_mul (show 2*n+2048≤202048 by omega) hb.2) (by decide)),show Nat.ble 1 bytes=true from Nat.ble_eq_true_of_le hb.1,show Nat.ble 1 es=true from Nat.ble_eq_true_of_le he];rfl
theorem Cw (hm:m.Ok)(hlo:lo≤m.next)(hp:0<rs)(hl:∀r,r∈l→r.length=rs)(h1:G7 l.flatten=true)(hne:l≠[]):grown m rs l.length l.flatten=some [⟨.sliceU m.next 0 l.length rs,m.new (.cells rs l.length (T.ofList l))⟩]∧mW lo rs (m.new (.cells rs l.length (T.ofList l))) (.sliceU m.next 0 l.length rs) l:=
 ⟨DX (m:=m) hl,.inr ⟨m.next,hlo,by simp,h1,MF hm hp hl,hne,.inr rfl⟩⟩
theorem MI {bytes:Nat}{r:List j3}(hm:m.Ok)(hlim:m.lim≤lo)(hlo:lo≤m.next)(hp:0<rs)(h:mW lo rs m v l)(hr:r.length=rs)(h1:G7 r=true)(hb:l.length+1≤100000)(hby:1≤bytes∧bytes≤1000):
  ∃v' m',CS m rs bytes 1 r v=some [⟨v',m'⟩]∧mW lo rs m' v' (l ++ [r])∧Fr lo lo m m'∧(∀i,i<m.next→(∀o n e,v≠.sliceU i o n e)→m'.get i=m.get i):=by
 have old:∀b,∀i,i<m.next→(∀o n e,v≠.sliceU i o n e)→(m.new b).get i=m.get i:=fun b i hi _=>by rw [Mem.D7 hm,if_neg (by omega)]
 have hfl:[r].flatten=r:=by simp
 rcases h with⟨rfl,rfl⟩ | ⟨id,i1,i2,i3,ha,hne,hv⟩
 ·obtain⟨g,o⟩:=Cw (lo:=lo) (rs:=rs) (l:=[r]) hm hlo hp (by simpa using hr) (by rw [hfl];exact h1) (by simp)
  refine⟨_,_,?_,by rw [List.nil_append];exact o,Fr.new hm hlo _,old _⟩
  rw [← g,hfl]
  show bi (big 1 bytes rs) _ none=_
  rw [MH (by simp) hby hp];rfl
 ·have hl1:G7 (l ++ [r]).flatten=true:=by rw [List.flatten_append,hfl,mQ,i3,h1];rfl
  have hlr:∀x,x∈l ++ [r]→x.length=rs:=fun x hx=>by
   rcases List.mem_append.1 hx with h | h
   ·exact ha.len x h
   ·rw [List.mem_singleton.1 h];exact hr
  obtain⟨p,hl,c,t,c',q1,q2,q0,q3,q4⟩:=ha
  have hne':0<l.length:=List.length_pos_iff.2 hne
  have hrd:H7 rs c t (l.length*rs) 0=some l.flatten:=by
   have:=wS (rs:=rs) (n:=c) (rows:=t) hl q4 q2 l.length 0 (by simp)
   rwa [Nat.zero_mul,List.drop_zero] at this
  rcases hv with rfl | rfl
  ·obtain⟨g,o⟩:=Cw (lo:=lo) (rs:=rs) (l:=l ++ [r]) hm hlo hp hlr hl1 (by simp)
   refine⟨_,_,?_,o,Fr.new hm hlo _,old _⟩
   rw [← g]
   show vG m rs bytes 1 r id 0 l.length l.length=_
   unfold vG
   have e1:Nat.ble (Nat.add l.length 1) l.length=false:=by
    rw [Bool.eq_false_iff]
    intro e
    have:l.length+1≤l.length:=Nat.le_of_ble_eq_true e
    omega
   have e2:I7 m id 0 (Nat.mul l.length rs)=some l.flatten:=by
    have e:Nat.mul l.length rs=l.length*rs:=rfl
    rw [e]
    obtain⟨j,hj⟩:∃j,l.length*rs=j+1:=⟨l.length*rs-1,by have:=Nat.mul_pos hne' hp;omega⟩
    rw [hj]
    show K5 (m.get id) (fun rs' k' rows=>H7 rs' k' rows (j+1) 0)=_
    rw [q1,eO,← hj,hrd]
   rw [e1,J8,show Nat.add l.length 1=(l ++ [r]).length from by simp,MH (by simpa using hb) hby hp,H9,e2,G5,L9]
   simp
  ·have hset:(m.set id .dead).Ok:=Mem.Ok.set hm i2 _
   have hfr:∀b,Fr lo lo m ((m.set id .dead).new b):=fun b=>⟨Mem.Ok.new hset _,by simp,by simp,fun i hi _=>by
    rw [Mem.D7 hset,if_neg (by simp;omega),Mem.K4 hm i2,if_neg (by omega)]⟩
   have hl1':Nat.ble m.lim id=true:=Nat.ble_eq_true_of_le (by omega)
   have hput:∃c'',l.length+1≤c''∧T.Ok (t.put l.length r) c'':=by
    by_cases hc:l.length<c'
    ·exact⟨c',hc,T.Ok.put q3 _ _ hc⟩
    ·obtain rfl:c'=l.length:=by omega
     exact⟨l.length+1,Nat.le_refl _,T.Ok.push q3 _⟩
   obtain⟨c'',r1,r2⟩:=hput
   refine⟨.sliceU m.next 0 (l.length+1) rs,(m.set id .dead).new (.cells rs (l.length+1) (t.put l.length r)),?_,.inr ⟨m.next,hlo,by simp,hl1,⟨hp,hlr,l.length+1,t.put l.length r,c'',?_,by simp,r1,r2,fun i hi=>?_⟩,by simp,.inr (by simp)⟩,hfr _,fun i hi hv=>?_⟩
   ·show JZ m rs bytes 1 r id 0 l.length rs=_
    show bi (Nat.beq rs rs) (bi (big (l.length+1) bytes rs) (bi (Nat.ble m.lim id) (bi (G7 r) (EC (m.get id) _ _) none) none) none) none=_
    rw [MH (by simpa using hb) hby hp,hl1',h1,q1,show Nat.beq rs rs=true from Nat.beq_refl rs]
    show bi (bi (Nat.beq rs rs) (bi (Nat.beq 0 0) (bi (Nat.ble l.length c) (bi (Nat.beq 1 1) (bi (Nat.beq (len' r) rs) (Nat.blt 0 l.length) false) false) false) false) false) _ _=_
    rw [show Nat.ble l.length c=true from Nat.ble_eq_true_of_le q2,show Nat.blt 0 l.length=true from Eq.mpr Nat.blt_eq hne',C8,hr,show Nat.beq rs rs=true from Nat.beq_refl rs]
    rfl
   ·rw [Mem.D7 hset];simp
   ·by_cases hil:i=l.length
    ·subst hil
     rw [T.N7 q3 _ _ (by omega)]
     simp
    ·have hil':i<l.length:=by simp at hi;omega
     rw [T.O8 q3 _ _ _ (by omega) (Ne.symm hil),q4 i hil']
     simp [List.getElem_append_left,hil']
   ·have hid:i≠id:=by
     rintro rfl
     exact hv _ _ _ rfl
    rw [Mem.D7 hset,if_neg (by simp;omega),Mem.K4 hm i2,if_neg hid]
theorem KF {bytes:Nat}{x:j3}{r:List j3}(hm:m.Ok)(hlim:m.lim≤lo)(hlo:lo≤m.next)(hp:0<rs)(h:mW lo rs m v l)(hx:mV m rs x [r])(hr:r.length=rs)(h1:G7 r=true)(hb:l.length+1≤100000)(hby:1≤bytes∧bytes≤1000):
  ∃v' m',(∀(s y:OF) (cf:y8) (ls:List j3) (env:T j3),s ls env=v→y ls env=x→tX rs bytes s y cf ls env m=some [⟨v',m'⟩])∧mW lo rs m' v' (l ++ [r])∧Fr lo lo m m'∧(∀i,i<m.next→(∀o n e,v≠.sliceU i o n e)→m'.get i=m.get i):=by
 obtain⟨v',m',g1,g2,g3,g4⟩:=MI hm hlim hlo hp h hr h1 hb hby
 refine⟨v',m',fun s y cf ls env hs hy=>?_,g2,g3,g4⟩
 have hrd:cK m rs 1 x=some r:=by
  rcases hx with⟨_,h⟩ | ⟨id,o,q1,q2,q3⟩
  ·cases h
  ·rcases q3 with h | ⟨n,rows,e1,e2,e3,e4⟩
   ·cases h
   ·have key:I7 m id (o*rs) (Nat.mul 1 rs)=some r:=by
     have e:Nat.mul 1 rs=1*rs:=rfl
     have hl':=pK (rs:=rs) (n:=n) (rows:=rows) (i:=o) (by simp at e2;omega) (by simpa using e4 0 (by simp)) hr
     obtain⟨j,hj⟩:∃j,1*rs=j+1:=⟨rs-1,by omega⟩
     have hj':rs=j+1:=by omega
     rw [e,hj]
     show K5 (m.get id) (fun rs' k' rows=>H7 rs' k' rows (j+1) (o*rs))=_
     rw [e1,eO,← hj']
     have:=hl' rs 0 (by omega)
     rwa [Nat.add_zero,List.drop_zero] at this
    rcases q1 with⟨c,rfl,_⟩ | rfl<;>exact key
 show ob (AM.lenOf (y ls env)) (fun n=>ob (cK m rs n (y ls env)) fun new=>CS m rs bytes n new (s ls env))=_
 rw [hy,hs,hx.lenOf,G5]
 show ob (cK m rs 1 x) _=_
 rw [hrd,G5]
 exact g1
theorem KG (hm:m.Ok)(r:List j3)(hp:0<r.length):mV (m.new (Q9 r)) r.length (.slice m.next 0 1 1) [r]:=
 .inr ⟨m.next,0,.inl ⟨1,by simp,by simp⟩,by simp,.inr ⟨1,T.ofList [r],by rw [Mem.D7 hm,if_pos rfl];simp [Q9];rfl,by simp,by simp,fun i hi=>by
  obtain rfl:i=0:=by simpa using hi
  rw [T.M9];rfl⟩⟩
end
open Go Go.RowKit
section
variable {P:Program}{G:Mem}{ι:Inj}{m:Mem}{w w':World}
theorem ou (h:RM P G ι m w.heap)(hb:Below w.heap.size w w'):Step P G ι m w ι m w':=by
 refine⟨⟨h.ok,fun i x hx=>?_,fun i x hi hx hl=>?_,h.glim,h.limn,h.gle,h.base,h.ghas,h.glob,h.spot,h.EX fun k hk _=>hb.block k hk⟩,fun _ _=>rfl,fun _ h=>h,Nat.le_refl _,rfl,fun _ _=>rfl,hb.size,fun b hb' _=>hb.block b hb',fun _ h=>.inl h,hb.os,hb.output,hb.tape⟩
 ·exact (h.blk i x hx).mono (n:=m.nm ι) (fun _ _=>rfl) (Mem.O6 (fun _ h=>h) fun _ _=>rfl) fun hl=>hb.block _ (R9 (h.blk i x hx) hl)
 ·have ho:=h.own i x hi hx hl
  refine⟨ho.alone,fun c e fz hc=>?_⟩
  rw [hb.block _ (R9 (h.blk i x hx) hl)] at hc
  exact ho.free c e fz hc
theorem JD (h:RM P G ι m w.heap)(hb:Below w.heap.size w w')(b:Blk)(l:Loc)(hv:ah b=false)(hA:w.heap.size≤l.b)
  (hblk:Z9 P (ι.upd m.next l) ((m.new b).nm (ι.upd m.next l)) w'.heap l b)
  (hfree:K8 b=true→∀c e fz,w'.heap[l.b]?=some (.cells c e fz)→∀k,k<c.size→¬ (fz.1≤k∧k<fz.2)) (hspot:K8 b=true→l.spot=none):
  Step P G ι m w (ι.upd m.next l) (m.new b) w':=by
 have s1:=ou h hb
 have s2:=s1.trans (wF s1.rm)
 have hget:=Mem.D7 h.ok .void
 have hvoid:(m.new .void).get m.next=some .void:=by rw [hget,if_pos rfl]
 have s3:=s2.rename (ι2:=ι.upd m.next l) fun i ⟨x,hx,hxv⟩=>ι.upd_ne l fun e=>by
  subst e
  rw [hvoid] at hx;cases hx;cases hxv
 have e:(m.new .void).set m.next b=m.new b:=Mem.wM h.ok .void b
 have s4:=s3.add (id:=m.next) (b:=b) hvoid h.limn ⟨by rw [e,ι.G6];exact hblk,hv,fun hl j y hj hy hly=>?_,fun hl c e' fz hc=>?_,fun hl=>by rw [ι.G6];exact hspot hl⟩ (fun _=>by rw [ι.G6];exact hA)
 ·rw [e] at s4;exact s4
 ·rw [hget,if_neg hj] at hy
  rw [ι.G6,ι.upd_ne l hj]
  have:=R9 (h.blk j y hy) hly
  omega
 ·rw [ι.G6] at hc
  exact hfree hl c e' fz hc
end
section
variable {P:Program}{G:Mem}
theorem jB {f:FuncId}{args:List j3}{v:j3}(hans:tu (layAll [] G).next ⟨v,F8 G []⟩=some ⟨v,[]⟩)(hlt:∀n:Nm,v.lt n)(hcv:∀ι ι',l6 ι v=l6 ι' v)
  (hc:∀(ι:Inj) (w:World),RM P G ι (F8 G []) w.heap→Calls P f (l8 ι args).toArray w fun e w'=>e=.returned (l6 ι v)∧Below w.heap.size w w'):gG P G f args [] ⟨v,[]⟩:=by
 intro ι w hm hargs
 refine callsIn_wide.2 ((hc ι w hm).mono ?_)
 rintro e w' ⟨rfl,hb⟩
 exact⟨ι,⟨v,F8 G []⟩,ou hm hb,hlt _,rfl,hans⟩
theorem GK {f:FuncId}{args:List j3}{v:j3}{nb:NB}(hans:tu (layAll [] G).next ⟨v,(F8 G []).new (aU nb)⟩=some ⟨v,[nb]⟩)
  (hc:∀(ι:Inj) (w:World),RM P G ι (F8 G []) w.heap→Calls P f (l8 ι args).toArray w fun e w'=>∃l:Loc,e=.returned (l6 (ι.upd G.next l) v)∧Below w.heap.size w w'∧w.heap.size≤l.b∧
   v.lt (((F8 G []).new (aU nb)).nm (ι.upd G.next l))∧Z9 P (ι.upd G.next l) (((F8 G []).new (aU nb)).nm (ι.upd G.next l)) w'.heap l (aU nb)∧
   (K8 (aU nb)=true→(∀c e fz,w'.heap[l.b]?=some (.cells c e fz)→∀k,k<c.size→¬ (fz.1≤k∧k<fz.2))∧l.spot=none)):gG P G f args [] ⟨v,[nb]⟩:=by
 intro ι w hm hargs
 refine callsIn_wide.2 ((hc ι w hm).mono ?_)
 rintro e w' ⟨l,rfl,hb,hA,hlt,hblk,hfs⟩
 have hn:(F8 G []).next=G.next:=rfl
 exact⟨ι.upd G.next l,⟨v,(F8 G []).new (aU nb)⟩,JD hm hb (aU nb) l (nW nb) hA hblk (fun hl=>(hfs hl).1) (fun hl=>(hfs hl).2),hlt,rfl,hans⟩
end
end
end Go.AM
namespace Go.AM
open Go Go.RowKit
noncomputable section
theorem uZ (m:Mem)(lo n:Nat)(seen:List (Nat×NB)):reach m lo (n+1) [] seen=some seen.reverse:=rfl
theorem GL {m:Mem}{lo i:Nat}{b:Blk}{nb:NB}(h:m.get i=some b)(hb:BD b=some nb)(hi:Nz lo nb=[])(n:Nat):reach m lo (n+2) [i] []=some [(i,nb)]:=by
 show bi (CV i []) (reach m lo (n+1) [] []) (ob (m.get i) fun b=>ob (BD b) fun nb=>reach m lo (n+1) (Nz lo nb ++ []) [(i,nb)])=_
 rw [h,G5,hb,G5,hi];rfl
theorem GN (lo:Nat):zP lo [lo] lo=some lo:=by
 show bi (Nat.ble lo lo) (bi (Nat.beq lo lo) (some lo) none) _=_
 rw [show Nat.ble lo lo=true from Nat.ble_eq_true_of_le (Nat.le_refl _),show Nat.beq lo lo=true from Nat.beq_refl lo];rfl
section
variable {G:Mem}
theorem Cx (hG:T.Ok G.t G.next)(k:Int)(t:TypeId):tu (layAll [] G).next ⟨.tuple [.int .i64 k,.iface t (.ptr G.next 0)],(F8 G []).new .dead⟩=some ⟨.tuple [.int .i64 k,.iface t (.ptr G.next 0)],[.dead]⟩:=by
 have hg:((F8 G []).new .dead).get G.next=some .dead:=by
  rw [Mem.D7 (m:=F8 G []) hG];exact if_pos rfl
 have hr:=GL (lo:=G.next) hg (nb:=.dead) rfl rfl 99998
 have hi:xD G.next [j3.tuple [.int .i64 k,.iface t (.ptr G.next 0)]]=[G.next]:=by
  show ([]++(bi (Nat.ble G.next G.next) [G.next] [] ++ [])) ++ []=_
  rw [show Nat.ble G.next G.next=true from Nat.ble_eq_true_of_le (Nat.le_refl _)];rfl
 have hc:cO G.next [j3.tuple [.int .i64 k,.iface t (.ptr G.next 0)]] ((F8 G []).new .dead)=some ⟨[G.next],[.tuple [.int .i64 k,.iface t (.ptr G.next 0)]],[.dead]⟩:=by
  show ob (reach _ G.next (99998+2) (xD G.next _) []) _=_
  rw [hi,hr]
  show ob (ob (ob (ob (some (j3.int .i64 k)) fun x=>ob (ob (ob (ob (zP G.next [G.next] G.next) fun j=>some (j3.ptr j 0)) fun x=>some (j3.iface t x)) fun x=>ob (some []) fun y=>some (x::y)) fun y=>some (x::y)) fun x=>some (j3.tuple x)) fun x=>ob (some []) fun y=>some (x::y)) (fun xs=>ob (some [NB.dead]) fun bs=>some (⟨[G.next],xs,bs⟩:CO))=_
  rw [GN];rfl
 show ob (cO G.next _ _) _=_
 rw [hc];rfl
end
theorem vg {lo:Nat}{v:j3}(m:Mem)(h1:xD lo [v]=[])(h2:∀r,nD r [v]=some [v]):cO lo [v] m=some ⟨[],[v],[]⟩:=by
 show ob (reach m lo (99999+1) (xD lo [v]) []) _=_
 rw [h1,uZ]
 show ob (nD (zP lo []) [v]) (fun xs=>ob (some []) fun bs=>some (⟨[],xs,bs⟩:CO))=_
 rw [h2];rfl
theorem Ba {K:Known}{cf:y8}{fuel:Nat}{f:FuncId}{sf:SFn}{args:List j3}{m:Mem}{c:CO}{a:Ans}(hc:cO K.base.next args m=some c)(ha:K.sum f c.vs c.bs=some a):
  bH K cf fuel f sf args m=ob (fP (aX K.base.next c.ids m.next) a.v) fun v=>ob (pV (aX K.base.next c.ids m.next) a.bs) fun bs=>one v (layAll bs m):=by
 show ob (cO K.base.next args m) (fun c=>ob (xE K cf fuel f sf c.vs c.bs) fun a=>ob (fP (aX K.base.next c.ids m.next) a.v) fun v=>ob (pV (aX K.base.next c.ids m.next) a.bs) fun bs=>one v (layAll bs m))=_
 rw [hc,G5]
 have e:xE K cf fuel f sf c.vs c.bs=some a:=by unfold xE;rw [ha]
 rw [e,G5]
theorem DY (g next:Nat):aX g [] next g=some next:=by
 show bi (Nat.blt g g) (some g) (bi (Nat.blt (g-g) 0) (sW (g-g) []) (some (next+(g-g-0))))=_
 rw [show Nat.blt g g=false from Bool.eq_false_iff.2 fun e=>absurd (Nat.blt_eq.mp e) (Nat.lt_irrefl _),Nat.sub_self];rfl
open Go
section
variable (cf:y8)(fu:Nat)(ls:List j3)(env:T j3)(m:Mem)(k:List Mk)
@[simp] theorem Qd (x:OF):Bv x cf ls env m=Rw (x ls env) m:=id rfl
@[simp] theorem Om (t:TypeId)(v:j3):Rw (.iface t v) m=some [⟨.pan (.iface t v),m⟩]:=id rfl
@[simp] theorem Oo (x:j3):bQ k ⟨env,m,some x,[]⟩=some [⟨.ret,env,m,k,some x⟩]:=id rfl
@[simp] theorem Oq (x:Mk):bQ k ⟨env,m,none,[x]⟩=some [⟨.normal,env,m,x::k,none⟩]:=id rfl
@[simp] theorem Qe (dcf:fO)(rs:List sV)(x:j3):leave dcf rs ⟨.ret,env,m,[],some x⟩=some [⟨.pan x,m⟩]:=id rfl
@[simp] theorem MJ:cB .nilIface .nilIface=some true:=id rfl
@[simp] theorem KH (t:TypeId)(v:j3):cB (.iface t v) .nilIface=some false:=id rfl
@[simp] theorem Qf (r:RC):BA r cf fu none env m k=bnd (r cf [] env m) (bQ k):=id rfl
@[simp] theorem SY (g:OF)(args:List OF):EG g args cf ls env m=JU (g ls env) fun fn a b=>some [⟨env,m,none,[.d (.func fn a b) (evs args ls env)]⟩]:=id rfl
def behind (rs:List sV)(env:T j3)(r:Mem×Option j3):iR:=qD rs env r.2 r.1
@[simp] theorem Qg (rs:List sV):behind rs env (m,none)=ob (results rs env m) fun l=>some [⟨result l,m⟩]:=id rfl
def UM (b:M6)(r:Ke):Option (List Ke):=match r.o.x with
 | .normal=>match r.o.marks with
  | []=>dEv b cf fu r.o.env r.o.m r.md
  | _=>none
 | _=>some [r]
variable (md:Option j3)
def UN (r:EM×Option j3):Option (List Ke):=some [⟨⟨.normal,r.1.env,r.1.m,[],none⟩,r.2⟩]
def aej (md:Option j3)(o:Out):Option (List Ke):=some [⟨o,md⟩]
@[simp] theorem Ta (b:M6):UM cf fu b ⟨⟨.normal,env,m,[],none⟩,md⟩=dEv b cf fu env m md:=id rfl
@[simp] theorem UO (o:Out):aej md o=some [⟨o,md⟩]:=id rfl
@[simp] theorem Tc (e:EM):UN (e,md)=some [⟨⟨.normal,e.env,e.m,[],none⟩,md⟩]:=id rfl
end
theorem sK (b c:UInt8):Nat.beq b.toNat c.toNat=decide (b=c):=by
 by_cases h:b=c
 ·subst h;rw [decide_eq_true rfl];exact Nat.beq_refl _
 ·rw [decide_eq_false h]
  cases hb:Nat.beq b.toNat c.toNat with
  | false=>rfl
  | true=>exact absurd (UInt8.toNat_inj.1 (Nat.eq_of_beq_eq_true hb)) h
theorem vk (c:UInt8):∀s:List UInt8,Jt c s=decide (0≤Lib.indexByte s c)
 | []=>rfl
 | b::l=>by
  show bi (Nat.beq b.toNat c.toNat) true (Jt c l)=_
  rw [sK,vk c l]
  have hg:=Lib.indexByte_ge l c
  rw [show Lib.indexByte (b::l) c=if b==c then 0 else if Lib.indexByte l c == -1 then -1 else Lib.indexByte l c+1 from rfl]
  by_cases h:b=c
  ·rw [decide_eq_true h,if_pos (beq_iff_eq.2 h)];rfl
  ·rw [decide_eq_false h,if_neg (by simpa using h)]
   show decide _=_
   by_cases h2:Lib.indexByte l c=-1
   ·rw [if_pos (beq_iff_eq.2 h2),h2]
   ·rw [if_neg (by simpa using h2)]
    exact decide_eq_decide.2 (by omega)
section
variable {P:Program}{G:Mem}
theorem JE (n:Nat)(b:Bool)(m:Mem):tu n ⟨.bool b,m⟩=some ⟨.bool b,[]⟩:=rfl
theorem MK (n:Nat)(s:List UInt8)(m:Mem):tu n ⟨.str s,m⟩=some ⟨.str s,[]⟩:=rfl
theorem zl {f:FuncId}(hc:∀(s:ByteArray)(c:UInt8)(w:World),Calls P f #[.string s,.string ⟨#[c]⟩] w fun e w'=>e=.returned (.bool (decide (0≤Lib.indexByte s.data.toList c)))∧w'=w)
  (s:List UInt8) (c:UInt8):gG P G f [.str s,.str [c]] [] ⟨.bool (Jt c s),[]⟩:=
 jB (JE _ _ _) (fun _=>trivial) (fun _ _=>by simp [l6]) fun ι w _=>by
  refine Calls.mono (hc ⟨s.toArray⟩ c w) ?_
  rintro e w' ⟨rfl,rfl⟩
  exact⟨by simp [l6,vk],Below.refl _ _⟩
theorem zm (c:UInt8):∀s:List UInt8,yZ c s=Lib.indexByte s c
 | []=>rfl
 | b::l=>by
  show bi (Nat.beq b.toNat c.toNat) 0 (bi (aG (yZ c l) (Int.negSucc 0)) (Int.negSucc 0) (yZ c l+1))=_
  rw [sK,zm c l,bI]
  rw [show Lib.indexByte (b::l) c=if b==c then 0 else if Lib.indexByte l c == -1 then -1 else Lib.indexByte l c+1 from rfl]
  by_cases h:b=c
  ·rw [decide_eq_true h,if_pos (beq_iff_eq.2 h)];rfl
  ·rw [decide_eq_false h,if_neg (by simpa using h)]
   show bi (Lib.indexByte l c == -1) (-1) (Lib.indexByte l c+1)=_
   cases Lib.indexByte l c == -1<;>rfl
theorem zn (c:UInt8):∀s:List UInt8,za c s=Lib.countByte s c
 | []=>rfl
 | b::l=>by
  show bi (Nat.beq b.toNat c.toNat) (Nat.succ (za c l)) (za c l)=_
  rw [sK,zn c l]
  unfold Lib.countByte
  rw [List.count_cons]
  by_cases h:b=c
  ·rw [decide_eq_true h,if_pos (by simpa using h)];rfl
  ·rw [decide_eq_false h,if_neg (by simpa using h)];rfl
theorem GQ {f:FuncId}(hc:∀(s:ByteArray)(c:UInt8)(w:World),Calls P f #[.string s,.string ⟨#[c]⟩] w fun e w'=>e=.returned (.int .i64 (Lib.indexByte s.data.toList c))∧w'=w)
  (s:List UInt8) (c:UInt8):gG P G f [.str s,.str [c]] [] ⟨.int .i64 (yZ c s),[]⟩:=
 jB rfl (fun _=>trivial) (fun _ _=>by simp [l6]) fun ι w _=>by
  refine Calls.mono (hc ⟨s.toArray⟩ c w) ?_
  rintro e w' ⟨rfl,rfl⟩
  exact⟨by simp [l6,zm],Below.refl _ _⟩
theorem GR {f:FuncId}(hc:∀(s:ByteArray)(c:UInt8)(w:World),Calls P f #[.string s,.string ⟨#[c]⟩] w fun e w'=>e=.returned (.int .i64 (Lib.countByte s.data.toList c))∧w'=w)
  (s:List UInt8) (c:UInt8):gG P G f [.str s,.str [c]] [] ⟨.int .i64 (.ofNat (za c s)),[]⟩:=
 jB rfl (fun _=>trivial) (fun _ _=>by simp [l6]) fun ι w _=>by
  refine Calls.mono (hc ⟨s.toArray⟩ c w) ?_
  rintro e w' ⟨rfl,rfl⟩
  exact⟨by simp [l6,zn],Below.refl _ _⟩
theorem wT (sep:List UInt8):∀ws,jY sep ws=Lib.join ws sep
 | []=>rfl
 | [x]=>(Lib.join_one x sep).symm
 | x::y::r=>by
  have ih:=wT sep (y::r)
  have e:jY sep (x::y::r)=dz x (dz sep (jY sep (y::r))):=rfl
  rw [e,ih,L9,L9,Lib.join_cons,Lib.join_cons]
  simp [Lib.joinTail]
theorem sM:∀{l:List (List j3)} {ws:List (List UInt8)},uU l=some ws→l=ws.map fun w=>[j3.str w]
 | [],ws,h=>by
  have h:some ([]:List (List UInt8))=some ws:=h
  cases h;rfl
 | r::l,ws,h=>by
  match r,h with
  | [.str s],h=>
   have h:ob (uU l) (fun t=>some (s::t))=some ws:=h
   obtain⟨t,h1,h2⟩:=r9 h
   cases h2
   rw [sM h1];rfl
theorem DZ {α:Type}(n:Nat):∀(l:List α) {r:List α},takeN n l=some r→r=l.take n∧n≤l.length:=by
 intro l r h
 by_cases hn:n≤l.length
 ·rw [aB n l hn] at h
  cases h
  exact⟨rfl,hn⟩
 ·exfalso
  revert l r
  induction n with
  | zero=>intro l r _ hn;exact hn (Nat.zero_le _)
  | succ n ih=>
   intro l r h hn
   cases l with
   | nil=>cases h
   | cons x l=>
    have h:ob (takeN n l) (fun t=>some (x::t))=some r:=h
    obtain⟨t,h1,_⟩:=r9 h
    exact ih l h1 (by simp at hn;omega)
theorem JF {f:FuncId}(hG:T.Ok G.t G.next)
  (c0:∀(a:Option Addr) (c:Nat) (sep:ByteArray) (w:World),Calls P f #[.slice a 0 c,.string sep] w fun e w'=>e=.returned (.string ⟨#[]⟩)∧w'=w)
  (c1:∀(bk o c:Nat) (x sep:ByteArray) (w:World),w.cell? ⟨bk,o,none⟩=some (.string x)→Calls P f #[.slice (some ⟨bk,o,none⟩) 1 c,.string sep] w fun e w'=>e=.returned (.string x)∧w'=w)
  (c2:∀(bk o c:Nat) (xs:List ByteArray) (sep:ByteArray) (w:World),(∀(j:Nat) x,xs[j]?=some x→w.cell? ⟨bk,o+j,none⟩=some (.string x))→bk<w.heap.size→2≤xs.length→xs.length≤140737488355328→xs.length≤c→
   (Lib.join (xs.map (·.data.toList)) sep.data.toList).length≤140737488355328→Calls P f #[.slice (some ⟨bk,o,none⟩) xs.length c,.string sep] w fun e w'=>e=.returned (.string ⟨(Lib.join (xs.map (·.data.toList)) sep.data.toList).toArray⟩)∧Below w.heap.size w w')
  {v:j3} {off n:Nat} (hv:(∃c,v=.slice G.next off n c∧n≤c)∨∃es,v=.sliceU G.next off n es) {rows l:List (List j3)} {ws:List (List UInt8)} {sep:List UInt8} (hn:n<1000000)
  (hl:takeN n (fJ off rows)=some l) (hw:uU l=some ws) (hlen:(jY sep ws).length<1000000):gG P G f [v,.str sep] [.cells 1 rows] ⟨.str (jY sep ws),[]⟩:=by
 intro ι w hm hargs
 rw [aJ] at hl
 obtain⟨hl1,hl2⟩:=DZ n _ hl
 have hlw:=sM hw
 have hwl:ws.length=n:=by
  have:=congrArg List.length hlw
  rw [hl1,List.length_take,List.length_map] at this
  omega
 have hg:(F8 G [.cells 1 rows]).get G.next=some (.cells 1 (len' rows) (T.ofList rows)):=by
  show (G.new (aU (.cells 1 rows))).get G.next=_
  rw [Mem.D7 (m:=G) hG];exact if_pos rfl
 have hspot:=hm.spot G.next _ hg rfl
 obtain⟨c,e,fz,hc,h1,_,hr⟩:=hm.blk G.next _ hg
 have hcell:∀j (x:List UInt8),ws[j]?=some x→w.cell? ⟨(ι G.next).b,(ι G.next).base+off+j,none⟩=some (.string ⟨x.toArray⟩):=fun j x hx=>by
  have hj:j<n:=by rw [← hwl];exact (List.getElem?_eq_some_iff.1 hx).1
  have hrow:rows[off+j]?=some [j3.str x]:=by
   have h2:l[j]?=some [j3.str x]:=by rw [hlw,List.getElem?_map,hx];rfl
   rw [hl1,List.getElem?_take,if_pos hj,List.getElem?_drop] at h2
   exact h2
  obtain⟨row,q1,q2,q3,q4⟩:=hr (off+j) (by rw [C8];exact (List.getElem?_eq_some_iff.1 hrow).1)
  rw [T.M9,hrow] at q1
  cases q1
  have:=q4 0 (by omega)
  rw [Nat.mul_one,Nat.add_zero] at this
  have h3:c[(ι G.next).base+off+j]?=some (.string ⟨x.toArray⟩):=by rw [Nat.add_assoc,this];simp [l6]
  simp [World.cell?,hc,h3]
 have hblt:(ι G.next).b<w.heap.size:=(Array.getElem?_eq_some_iff.1 hc).1
 have fin:∀(x:ByteArray) (w':World),x=⟨(jY sep ws).toArray⟩→Below w.heap.size w w'→∃ι' r,Step P G ι (F8 G [.cells 1 rows]) w ι' r.m w'∧r.v.lt (r.m.nm ι')∧Ending.returned (.string x)=.returned (l6 ι' r.v)∧
   tu (layAll [.cells 1 rows] G).next r=some ⟨.str (jY sep ws),[]⟩:=fun x w' hx hb=>
  ⟨ι,⟨.str (jY sep ws),F8 G [.cells 1 rows]⟩,ou hm hb,trivial,by rw [hx];simp [l6],rfl⟩
 have hca:∃cap,n≤cap∧l6 ι v=.slice (some ⟨(ι G.next).b,(ι G.next).base+off,none⟩) n cap:=by
  rcases hv with⟨cap,rfl,hcap⟩ | ⟨es,rfl⟩
  ·exact⟨cap,hcap,by simp [l6,Inj.qH hspot]⟩
  ·have hlt:j3.lt ((F8 G [.cells 1 rows]).nm ι) (.sliceU G.next off n es):=hargs.1
   obtain⟨_,h2,h3⟩:=hlt
   refine⟨((ι G.next).cap-off) / es,?_,by simp [l6,Inj.qH hspot]⟩
   have h3:off+n*es≤(ι G.next).cap:=h3
   exact (Nat.le_div_iff_mul_le h2).2 (by omega)
 obtain⟨cap,hcap,hcv⟩:=hca
 have hargs2:(l8 ι [v,.str sep]).toArray=#[.slice (some ⟨(ι G.next).b,(ι G.next).base+off,none⟩) n cap,.string ⟨sep.toArray⟩]:=by
  simp [l8,hcv,l6]
 rw [hargs2]
 refine callsIn_wide.2 ?_
 match ws,hwl,hcell,hlen,fin with
 | [],hwl,_,_,fin=>
  obtain rfl:n=0:=hwl.symm
  refine Calls.mono (c0 _ cap ⟨sep.toArray⟩ w) ?_
  rintro e w' ⟨rfl,rfl⟩
  exact fin _ _ rfl (Below.refl _ _)
 | [x],hwl,hcell,_,fin=>
  obtain rfl:n=1:=hwl.symm
  refine Calls.mono (c1 _ _ cap ⟨x.toArray⟩ ⟨sep.toArray⟩ w (hcell 0 x rfl)) ?_
  rintro e w' ⟨rfl,rfl⟩
  exact fin _ _ rfl (Below.refl _ _)
 | x::y::t,hwl,hcell,hlen,fin=>
  have hd:((x::y::t).map fun z:List UInt8=>(⟨z.toArray⟩:ByteArray)).map (fun b:ByteArray=>b.data.toList)=x::y::t:=by
   rw [List.map_map];exact List.map_id'' (fun _=>rfl) _
  have:=c2 (ι G.next).b ((ι G.next).base+off) cap ((x::y::t).map fun z:List UInt8=>(⟨z.toArray⟩:ByteArray)) ⟨sep.toArray⟩ w (fun j z hz=>by
   rw [List.getElem?_map] at hz
   obtain⟨u,hu,rfl⟩:=Option.map_eq_some_iff.1 hz
   exact hcell j u hu) hblt (by simp) (by rw [List.length_map,hwl];omega) (by rw [List.length_map,hwl];exact hcap) (by
    rw [hd]
    show (Lib.join (x::y::t) sep).length≤_
    rw [← wT];omega)
  rw [hd,List.length_map,hwl] at this
  refine Calls.mono this ?_
  rintro e w' ⟨rfl,hb⟩
  refine fin _ _ ?_ hb
  rw [wT]
end
end
end Go.AM
