/- A part of an evaluator for the model, proved sound: what it answers holds of the model; it speaks of every program, no condition. -/
import Derived.Test.YteecnooaopfkeaaGreatDoorPA4
import Derived.Deep.Slices
import Derived.Below
import Derived.Lib.SplitLaws
import Derived.Lib.Join
import Derived.Lib.SmallJoins
set_option linter.all false
namespace Go.AM
open Go
noncomputable section
def JR (P:Program):List Field->Nat->Nat->Bool
 | [],o,n=>Nat.beq o n
 | f::fs,o,n=>Nat.beq f.offset o&&JR P fs (o+P.cellsOf f.type) n
def Ez (P:Program):Nat->TypeId->Bool
 | 0,_=>false
 | n+1,t=>match P.underlying t with
  | some .bool=>true
  | some (.int _)=>true
  | some .string=>true
  | some (.slice e)=>Ez P n e&&Nat.blt 0 (P.cellsOf e)
  | some (.struct fs)=>fs.toList.all (λf=>Ez P n f.type)&&JR P fs.toList 0 (P.cellsOf t)
  | _=>false
def MQ (S:TypeId->List j3->Prop):List Field->List j3->Prop
 | [],vs=>vs=[]
 | f::fs,vs=>∃a b,vs=a++b∧S f.type a∧MQ S fs b
def HV (P:Program)(m:Mem):Nat->TypeId->List j3->Prop
 | 0,_,_=>False
 | n+1,t,vs=>match P.underlying t with
  | some .bool=>∃b,vs=[.bool b]
  | some (.int k)=>∃i,vs=[.int k i]∧(Lit.int k i).wf=true
  | some .string=>∃s:List UInt8,vs=[.str s]∧s.length<=maxLen
  | some (.slice e)=>vs=[.nilSlice]∨∃id len cap,vs=[.slice id 0 len cap]∧len<=cap∧cap<=maxLen∧
    ((cap=0∧m.get id=some .dead)∨∃rows,0<cap∧m.get id=some (.cells (P.cellsOf e) cap rows)∧∀i,i<cap->∃row,rows.get i=some row∧row.length=P.cellsOf e∧HV P m n e row)
  | some (.struct fs)=>MQ (HV P m n) fs.toList vs
  | _=>False
theorem EC {S S':TypeId->List j3->Prop}(h:∀t vs,S t vs->S' t vs):∀fs vs,MQ S fs vs->MQ S' fs vs
 | [],_,hv=>hv
 | _::fs,_,⟨a,b,e,h1,h2⟩=>⟨a,b,e,h _ _ h1,EC h fs b h2⟩
theorem ED {P:Program}{m m':Mem}(h:∀i b,m.get i=some b->m'.get i=some b):∀n t vs,HV P m n t vs->HV P m' n t vs:=by
 intro n;induction n with
 | zero=>intro t vs hv;exact hv
 | succ n ih=>
  intro t vs hv;unfold HV at hv ⊢;split at hv;exact hv;exact hv;exact hv;rcases hv with hv | ⟨id,len,cap,h1,h2,h3,h4⟩;exact .inl hv;refine .inr ⟨id,len,cap,h1,h2,h3,?_⟩;rcases h4 with⟨h4,h5⟩ | ⟨rows,h4,h5,h6⟩;exact .inl ⟨h4,h _ _ h5⟩;exact .inr ⟨rows,h4,h _ _ h5,λi hi=>by
   obtain⟨row,g1,g2,g3⟩:=h6 i hi;exact⟨row,g1,g2,ih _ _ g3⟩⟩
  exact EC (λt vs=>ih t vs) _ _ hv;exact hv
section
variable {P:Program}{G:Mem}{hp:Array Obj}
theorem Mem.uT (m:Mem)(i:Nat):m.shut.get i=m.get i:=rfl
theorem RM.push {ι:K4}{m:Mem}(h:RM P G ι m hp)(hl:m.lim=m.nx){b:O9}{l:Loc}(hv:bQ b=false)(hs:U2 b=true->l.spot=none)
  (hb:bP P (ι.upd m.nx l) ((m.new b).nm (ι.upd m.nx l)) hp l b):RM P G (ι.upd m.nx l) (m.new b).shut hp:=by
 have hget:∀i,(m.new b).shut.get i=if i=m.nx then some b else m.get i:=λi=>Mem.N7 h.ok b i
 have hne:∀i x,m.get i=some x->i≠m.nx:=λi x hx e=>by have:=Mem.I8 h.ok hx;omega
 have hext:∀j,m.has j->ι.upd m.nx l j=ι j:=λj ⟨x,hx,_⟩=>ι.upd_ne l (hne j x hx);have hhas:∀i,m.has i->(m.new b).shut.has i:=λi ⟨x,hx,hv⟩=>⟨x,by rw [hget,if_neg (hne i x hx)];exact hx,hv⟩;have hG:G.nx<=m.nx:=Xl h.glim h.limn;refine⟨h.ok.push b,λi x hx=>?_,λi x hi hx _=>?_,?_,J2 _,h.gle,λi hi=>?_,λi hi=>hhas i (h.ghas i hi),λi hi=>?_,λi x hx hlx=>?_,h.gsz⟩;rw [hget] at hx;split at hx;rename_i e;subst e;cases hx;rw [ι.Q8];exact hb;rename_i e;rw [ι.upd_ne l e];exact (h.blk i x hx).mono (n:=m.nm ι) hext (Mem.ah hhas hext) λ_=>rfl;have h1:=Mem.I8 (m:=(m.new b).shut) (h.ok.push b) hx;have hi:(m.new b).shut.nx<=i:=hi;omega;show G.nx<=m.nx+1;omega;rw [hget,if_neg (by omega)];exact h.base i hi;rw [hext i (h.ghas i hi)];exact h.glob i hi;rw [hget] at hx;split at hx;rename_i e;subst e;cases hx;rw [ι.Q8];exact hs hlx;rename_i e;rw [ι.upd_ne l e];exact h.spot i x hx hlx
structure Lifts (P:Program)(G:Mem)(hp:Array Obj)(ι:K4)(m:Mem)(ι':K4)(m':Mem):Prop where
 rm:RM P G ι' m' hp
 lim:m'.lim=m'.nx
 get:∀i b,m.get i=some b->m'.get i=some b
 ext:∀i,m.has i->ι' i=ι i
theorem Lifts.refl {ι:K4}{m:Mem}(h:RM P G ι m hp)(hl:m.lim=m.nx):Lifts P G hp ι m ι m:=⟨h,hl,λ_ _ h=>h,λ_ _=>rfl⟩
theorem Lifts.has {ι ι':K4}{m m':Mem}(h:Lifts P G hp ι m ι' m')(i:Nat)(hi:m.has i):m'.has i:=by obtain⟨x,h1,h2⟩:=hi;exact⟨x,h.get i x h1,h2⟩
theorem Lifts.trans {ι1 ι2 ι3:K4}{m1 m2 m3:Mem}(h:Lifts P G hp ι1 m1 ι2 m2)(k:Lifts P G hp ι2 m2 ι3 m3):Lifts P G hp ι1 m1 ι3 m3:=
 ⟨k.rm,k.lim,λi b hb=>k.get i b (h.get i b hb),λi hi=>(k.ext i (h.has i hi)).trans (h.ext i hi)⟩
theorem Lifts.o8 {ι ι':K4}{m m':Mem}(h:Lifts P G hp ι m ι' m'){vs:List j3}(hv:aS (m.nm ι) vs):y7 ι' vs=y7 ι vs:=eT (n:=m.nm ι) h.ext vs hv
theorem Lifts.lt {ι ι':K4}{m m':Mem}(h:Lifts P G hp ι m ι' m'){vs:List j3}(hv:aS (m.nm ι) vs):aS (m'.nm ι') vs:=dB (Mem.ah h.has h.ext) vs hv
theorem Lifts.push {ι:K4}{m:Mem}(h:RM P G ι m hp)(hl:m.lim=m.nx){b:O9}{l:Loc}(hv:bQ b=false)(hs:U2 b=true->l.spot=none)
  (hb:bP P (ι.upd m.nx l) ((m.new b).nm (ι.upd m.nx l)) hp l b):Lifts P G hp ι m (ι.upd m.nx l) (m.new b).shut:=by
 have hne:∀i x,m.get i=some x->i≠m.nx:=λi x hx e=>by have:=Mem.I8 h.ok hx;omega
 exact⟨h.push hl hv hs hb,rfl,λi x hx=>by rw [Mem.uT,Mem.N7 h.ok,if_neg (hne i x hx)];exact hx,λj ⟨x,hx,_⟩=>ι.upd_ne l (hne j x hx)⟩
def Gets (P:Program)(G:Mem)(hp:Array Obj)(ι:K4)(m:Mem)(cs:List Value)(S:Mem->List j3->Prop):Prop:=
 ∃ι' m' vs,Lifts P G hp ι m ι' m'∧y7 ι' vs=cs∧aS (m'.nm ι') vs∧S m' vs
variable {H:Type}{enc:TypeId×Value->H}{w:World}{held:Bool}
theorem MR {cs:List Value}{S:Mem->TypeId->List j3->Prop}(hS:∀m m' t vs,(∀i b,m.get i=some b->m'.get i=some b)->S m t vs->S m' t vs):
  ∀(fs:List Field) (o:Nat),(∀f∈fs,∀ι m,RM P G ι m hp->m.lim=m.nx->Gets P G hp ι m ((cs.drop f.offset).take (P.cellsOf f.type)) (λm' vs=>S m' f.type vs))->JR P fs o cs.length=true->
   ∀ι m,RM P G ι m hp->m.lim=m.nx->Gets P G hp ι m (cs.drop o) (λm' vs=>MQ (S m') fs vs):=by
 intro fs;induction fs with
 | nil=>intro o _ ho ι m hm hl;have:o=cs.length:=J4 ho;exact⟨ι,m,[],Lifts.refl hm hl,by rw [this];simp [y7],trivial,rfl⟩
 | cons f fs ih=>intro o hf ho ι m hm hl;simp only [JR,U9] at ho;have h1:f.offset=o:=J4 ho.1;obtain⟨ι1,m1,a,g1,g2,g3,g4⟩:=hf f (by simp) ι m hm hl;obtain⟨ι2,m2,b,k1,k2,k3,k4⟩:=ih (o+P.cellsOf f.type) (λf' hf'=>hf f' (by simp [hf'])) ho.2 ι1 m1 g1.rm g1.lim;refine⟨ι2,m2,a++b,g1.trans k1,?_,jg (k1.lt g3) k3,a,b,rfl,hS _ _ _ _ k1.get g4,k4⟩;rw [jP,k1.o8 g3,g2,k2,h1,← Z6,List.take_append_drop]
theorem SF {n ce:Nat}{row:Nat->List Value}{S:Mem->List j3->Prop}(hS:∀m m' vs,(∀i b,m.get i=some b->m'.get i=some b)->S m vs->S m' vs)
  (h:∀i,i<n->∀ι m,RM P G ι m hp->m.lim=m.nx->Gets P G hp ι m (row i) S):∀c,c<=n->∀ι m,RM P G ι m hp->m.lim=m.nx->
   ∃(ι':K4) (m':Mem) (rl:List (List j3)),Lifts P G hp ι m ι' m'∧rl.length=c∧∀i r,rl[i]?=some r->y7 ι' r=row i∧aS (m'.nm ι') r∧S m' r:=by
 intro c;induction c with
 | zero=>intro _ ι m hm hl;exact⟨ι,m,[],Lifts.refl hm hl,rfl,λi r hr=>by simp at hr⟩
 | succ c ih=>
  intro hc ι m hm hl;obtain⟨ι1,m1,rl,g1,g2,g3⟩:=ih (by omega) ι m hm hl;obtain⟨ι2,m2,r,k1,k2,k3,k4⟩:=h c (by omega) ι1 m1 g1.rm g1.lim;refine⟨ι2,m2,rl ++ [r],g1.trans k1,by simp [g2],λi r' hr=>?_⟩;by_cases hi:i<rl.length;rw [aau hi] at hr;obtain⟨q1,q2,q3⟩:=g3 i r' hr;exact⟨by rw [k1.o8 q2,q1],k1.lt q2,hS _ _ _ k1.get q3⟩;rw [abV (by omega)] at hr;have:i-rl.length=0:=by have:=(J5.1 hr).1;simp at this;omega
  rw [this] at hr;simp at hr;subst hr;rw [show i=c from by omega];exact⟨k2,k3,k4⟩
theorem lift (k:Nat):∀(n:Nat) (t:TypeId) (cs:List Value) (x:DataW H×List MemPlace),DataW.trod enc P w 0 (λ_=>true) held n t cs=some x->Ez P k t=true->
  ∀ι m,RM P G ι m w.heap->m.lim=m.nx->Gets P G w.heap ι m cs (λm' vs=>HV P m' k t vs):=by
 induction k with
 | zero=>intro n t cs x _ h;cases h
 | succ k ih=>
  intro n t cs x hx hp ι m hm hl;unfold Ez at hp;have self:∀vs:List j3,y7 ι vs=cs->aS (m.nm ι) vs->HV P m (k+1) t vs->Gets P G w.heap ι m cs (λm' vs=>HV P m' (k+1) t vs):=λvs h1 h2 h3=>⟨ι,m,vs,Lifts.refl hm hl,h1,h2,h3⟩;split at hp;rename_i ht;obtain⟨b,rfl,_⟩:=DataW.trod_bool ht hx;exact self [.bool b] rfl ⟨trivial,trivial⟩ (by unfold HV;rw [ht];exact⟨b,rfl⟩);rename_i ik ht;obtain⟨i,rfl,_,hw⟩:=DataW.trod_int ht hx;exact self [.int ik i] rfl ⟨trivial,trivial⟩ (by unfold HV;rw [ht];exact⟨i,rfl,hw⟩);rename_i ht;obtain⟨s,rfl,_,hw⟩:=DataW.trod_string ht hx;have hw':s.data.toList.length<=maxLen:=by simpa using hw
  exact self [.str s.data.toList] (by simp [y7,o8]) ⟨trivial,trivial⟩ (by unfold HV;rw [ht];exact⟨s.data.toList,rfl,hw'⟩);rename_i e ht;simp only [U9] at hp;have hce:0<P.cellsOf e:=Y8.mp hp.2;rcases Deep.open_slice ht hx with⟨rfl,_⟩ | ⟨a,len,cap,mm,n',D,Pl,rfl,_,hlen,hcap,hmm,_,hel⟩;exact self [.nilSlice] rfl ⟨trivial,trivial⟩ (by unfold HV;rw [ht];exact .inl rfl);have hmm:mm=cap:=by simpa using hmm
  subst hmm;by_cases h0:mm=0;subst h0;have hlen:len=0:=by omega
  subst hlen;have L:=Lifts.push (b:=.dead) (l:=⟨a.block,a.off,0,a.spot⟩) hm hl rfl (by intro h;cases h) trivial;refine⟨_,_,[.slice m.nx 0 0 0],L,?_,⟨⟨.dead,by rw [Mem.uT,Mem.N7 hm.ok,if_pos rfl],rfl⟩,trivial⟩,?_⟩;simp [y7,o8,K4.at];unfold HV;rw [ht];exact .inr ⟨m.nx,0,0,rfl,J2 _,hcap,.inl ⟨rfl,by rw [Mem.uT,Mem.N7 hm.ok,if_pos rfl]⟩⟩;obtain⟨row,hrow⟩:=Deep.choose_lt hel;obtain⟨ι1,m1,rl,g1,g2,g3⟩:=SF (n:=mm) (ce:=P.cellsOf e) (row:=row) (S:=λm' vs=>HV P m' k e vs) (λm m' vs h hs=>ED h k e vs hs)
   (λi hi ι m hm hl=>ih n' e (row i) _ (hrow i hi).2 hp.1 ι m hm hl) mm (J2 _) ι m hm hl
  have cell:∀i j,i<mm->j<P.cellsOf e->w.cell? ((a.add (i*P.cellsOf e)).add j)=(row i)[j]?∧(row i).length=P.cellsOf e:=λi j hi hj=>by obtain⟨_,q2,q3⟩:=World.cells?_some (hrow i hi).1;exact⟨q3 j hj,q2⟩
  have hsome:∀i j,i<mm->j<P.cellsOf e->∃v,(row i)[j]?=some v:=λi j hi hj=>⟨_,J7 (by rw [(cell i j hi hj).2];exact hj)⟩;have hspot:a.spot=none:=by
   obtain⟨v,hv⟩:=hsome 0 0 (by omega) hce;have:=(cell 0 0 (by omega) hce).1;rw [hv] at this;unfold World.cell? at this;split at this;split at this;cases this;rename_i hn;simp only [afo,Addr.add,if_true] at hn;cases hs:a.spot with
   | none=>rfl
   | some s=>rw [hs] at hn;simp at hn
   cases this
  obtain⟨c,et,fz,hc⟩:∃c et fz,w.heap[a.block]?=some (.cells c et fz):=by obtain⟨v,hv⟩:=hsome 0 0 (by omega) hce;have:=(cell 0 0 (by omega) hce).1;rw [hv] at this;unfold World.cell? at this;split at this;rename_i c et fz hh;simp only [afo,Addr.add,if_true] at hh;exact⟨c,et,fz,hh⟩;cases this
  have hadd:∀i j,(a.add (i*P.cellsOf e)).add j=⟨a.block,a.off+(i*P.cellsOf e+j),none⟩:=λi j=>by rw [Deep.add_add];unfold Addr.add;split;rename_i h;rw [h,aay,← hspot];rfl
  have hcc:∀i j,i<mm->j<P.cellsOf e->c[a.off+(i*P.cellsOf e+j)]?=(row i)[j]?:=λi j hi hj=>by have:=(cell i j hi hj).1;rw [hadd] at this;simpa [World.cell?,hc] using this
  have hbound:a.off+mm*P.cellsOf e<=c.size:=by
   obtain⟨v,hv⟩:=hsome (mm-1) (P.cellsOf e-1) (by omega) (by omega);have:=hcc (mm-1) (P.cellsOf e-1) (by omega) (by omega);rw [hv] at this;have h1:=(K9.1 this).1;have h2:(mm-1)*P.cellsOf e+P.cellsOf e=mm*P.cellsOf e:=by rw [← adX];congr 1;omega
   omega
  have hrl:∀i,i<mm->∃r,rl[i]?=some r∧y7 ι1 r=row i∧aS (m1.nm ι1) r∧HV P m1 k e r∧r.length=P.cellsOf e:=λi hi=>by have hh:rl[i]?=some rl[i]:=J7 (by omega);obtain⟨q1,q2,q3⟩:=g3 i _ hh;refine⟨_,hh,q1,q2,q3,?_⟩;have:=congrArg List.length q1;rw [V6] at this;rw [this,(cell i 0 hi hce).2]
  have hne:∀i x,m1.get i=some x->i≠m1.nx:=λi x hx e=>by have:=Mem.I8 g1.rm.ok hx;omega
  have hext:∀j,m1.has j->(ι1.upd m1.nx ⟨a.block,a.off,mm*P.cellsOf e,none⟩) j=ι1 j:=λj ⟨x,hx,_⟩=>ι1.upd_ne _ (hne j x hx);have hhas:∀i,m1.has i->(m1.new (.cells (P.cellsOf e) mm (T.ofList rl))).has i:=λi ⟨x,hx,hv⟩=>⟨x,by rw [Mem.N7 g1.rm.ok,if_neg (hne i x hx)];exact hx,hv⟩;have L:=Lifts.push (b:=.cells (P.cellsOf e) mm (T.ofList rl)) (l:=⟨a.block,a.off,mm*P.cellsOf e,none⟩) g1.rm g1.lim rfl (λ_=>rfl)
   ⟨c,et,fz,hc,hbound,⟨J2 _,rl.length,by omega,T.fP rl,xA λh1=>by
    rw [T.aG];exact afu (by omega)⟩,λi hi=>by
    obtain⟨r,q1,q2,q3,q4,q5⟩:=hrl i hi;refine⟨r,by rw [T.aG];exact q1,q5,dB (Mem.ah hhas hext) r q3,λj hj=>?_⟩;show c[a.off+(i*P.cellsOf e+j)]?=_;rw [hcc i j hi hj,← q2,aJ];cases hr:r[j]? with
    | none=>rfl
    | some v=>simp [Q0 (n:=m1.nm ι1) hext v (bT.1 q3 v (Y5 hr))]⟩
  refine⟨_,_,[.slice m1.nx 0 len mm],g1.trans L,?_,⟨⟨_,by rw [Mem.uT,Mem.N7 g1.rm.ok,if_pos rfl],rfl⟩,trivial⟩,?_⟩;simp only [y7,o8];rw [K4.yE (by rw [K4.Q8]),K4.Q8];simp only [aay];rw [← hspot];unfold HV;rw [ht];refine .inr ⟨m1.nx,len,mm,rfl,hlen,hcap,.inr ⟨T.ofList rl,by omega,by rw [Mem.uT,Mem.N7 g1.rm.ok,if_pos rfl],λi hi=>?_⟩⟩;obtain⟨r,q1,q2,q3,q4,q5⟩:=hrl i hi;exact⟨r,by rw [T.aG];exact q1,q5,ED L.get k e r q4⟩;rename_i fs ht;simp only [U9,ace] at hp;obtain⟨xs,n',rfl,_,hcl,hxl,hf⟩:=DataW.trod_struct ht hx;have:=MR (P:=P) (G:=G) (hp:=w.heap) (cs:=cs) (S:=λm' t vs=>HV P m' k t vs) (λm m' t vs h hs=>ED h k t vs hs) fs.toList 0
   (λf hfm ι m hm hl=>by
    obtain⟨i,hi⟩:=aaS hfm;have hi':fs[i]?=some f:=(by simpa using hi);have h1:=hf i f hi';have hlt:i<xs.length:=(by rw [hxl];exact (K9.1 hi').1);rw [J7 hlt] at h1;exact ih n' f.type _ _ h1 (hp.1 f hfm) ι m hm hl) (by rw [hcl];exact hp.2) ι m hm hl
  obtain⟨ι',m',vs,q1,q2,q3,q4⟩:=this;refine⟨ι',m',vs,q1,by simpa using q2,q3,?_⟩;unfold HV;rw [ht];exact q4;cases hp
end
def JU (P:Program)(slots:List Nat)(ops:Array Oper):Option U6:=
 match jH P slots ops [] (canon (Dm ops) (masks ops.toList) ops.size) with
 | none=>none
 | some insts=>some (.dreg (Jj insts) (numbered (masks ops.toList) ((canon (Dm ops) (masks ops.toList) ops.size).zip insts) [] 0))
theorem HY {P:Program}{slots:List Nat}{ops:Array Oper}{c:U6}(h:yC P slots ops=some c):JU P slots ops=some c:=by unfold yC at h;unfold JU;split at h;cases h;rename_i insts hi;rw [hi];split at h;exact h;cases h
def JV (P:Program)(slots:List Nat)(ops:Array Oper):Option U6:=
 match JU P slots (ops.extract 0 (ops.size-3)) with
 | some (.dreg n l)=>Ck (pz P slots [] ops (ops.size-3)) (pz P slots [(ops[ops.size-3]?).bind (·.dst)] ops (ops.size-2)) (pz P slots [] ops (ops.size-1)) n l
 | _=>none
theorem Ph {P:Program}{slots:List Nat}{ops:Array Oper}{c:U6}(h:Dn P slots ops=some c):JV P slots ops=some c:=by unfold Dn at h;unfold JV;split at h;rename_i n l hd;rw [HY hd];split at h;exact h;cases h;cases h
def iH (P:Program)(slots:List Nat):Code->Option U6
 | .skip=>some .skip
 | .region _ ops false=>match jH P slots ops [] (List.range ops.size) with
  | some l=>some (.reg l)
  | none=>none
 | .region _ ops true=>if splits ops then JV P slots ops else JU P slots ops
 | .seq a b=>match iH P slots a,iH P slots b with
  | some x,some y=>some (.seq x y)
  | _,_=>none
 | .cond c a b=>match N9 P slots [] c,iH P slots a,iH P slots b with
  | some z,some x,some y=>some (.cond z x y)
  | _,_,_=>none
 | .block id a=>match iH P slots a with
  | some x=>some (.block id x)
  | none=>none
 | .loop a=>match iH P slots a with
  | some x=>some (.loop x)
  | none=>none
 | .exit id=>some (.exit id)
 | .ret=>some .ret
 | .rangeFunc f ps a b=>match N9 P slots [] f,iH P slots a,iH P slots b with
  | some z,some x,some y=>some (.rangeFunc z (ps.toList.map λt=>idxOf t slots 0) x y)
  | _,_,_=>none
 | .refuse _=>some (.reg [⟨.e .bad,none,none⟩])
 | _=>none
theorem iB {P:Program}{slots:List Nat}:∀(k:Code) {c:U6},Q7 P slots k=some c->iH P slots k=some c
 | .skip,_,h=>h
 | .region _ _ false,_,h=>h
 | .region _ ops true,_,h=>by unfold Q7 at h;unfold iH;split at h;rename_i hs;rw [if_pos hs];exact Ph h;rename_i hs;rw [if_neg hs];exact HY h
 | .seq a b,c,h=>by unfold Q7 at h;split at h;rename_i x y hx hy;unfold iH;rw [iB a hx,iB b hy];exact h;cases h
 | .cond z a b,c,h=>by unfold Q7 at h;split at h;rename_i w x y hw hx hy;unfold iH;rw [hw,iB a hx,iB b hy];exact h;cases h
 | .block _ a,c,h=>by unfold Q7 at h;split at h;rename_i x hx;unfold iH;rw [iB a hx];exact h;cases h
 | .loop a,c,h=>by unfold Q7 at h;split at h;rename_i x hx;unfold iH;rw [iB a hx];exact h;cases h
 | .rangeFunc z _ a b,c,h=>by unfold Q7 at h;split at h;rename_i w x y hw hx hy;unfold iH;rw [hw,iB a hx,iB b hy];exact h;cases h
 | .exit _,_,h=>h
 | .ret,_,h=>h
 | .scope _,_,h=>by cases h
 | .label _,_,h=>by cases h
 | .goto _,_,h=>by cases h
 | .refuse _,_,h=>h
def abI (P:Program)(slots:List Nat)(f:FuncId):Option AFn:=
 match P.funcs[f]? with
 | none=>none
 | some fn=>match fn.body with
  | none=>none
  | some c=>match iH P slots c,BU P slots fn.results.toList with
   | some b,some r=>some ⟨fn.params.size+fn.nfree,(List.range (fn.params.size+fn.nfree)).map λt=>idxOf t slots 0,slots.length,r,b⟩
   | _,_=>none
theorem Yj {P:Program}{slots:List Nat}{f:FuncId}{a:AFn}(h:Oo P slots f=some a):abI P slots f=some a:=by unfold Oo at h;unfold abI;split at h;cases h;rename_i fn hf;rw [hf];split at h;cases h;rename_i c hc;simp only [hc];split at h;rename_i b r hb hr;rw [iB _ hb,hr];split at h;exact h;cases h;cases h
def cT (P:Program)(slots:List Nat)(pure rc:Bool)(f:FuncId):aT:=Sn pure rc ((abI P slots f).getD ⟨0,[],0,[],.skip⟩)
theorem iC {P:Program}{slots:List Nat}{f:FuncId}{pure rc:Bool}(h:(Oo P slots f).isSome=true):oU P f (cT P slots pure rc f):=by
 obtain⟨a,ha⟩:=aiV.1 h;have:cT P slots pure rc f=Sn pure rc a:=by unfold cT;rw [Yj ha];rfl
 rw [this];exact Qt ha pure rc
def Qz (ops:Array Oper)(done:List (Option Nat))(i:Nat):List Nat:=
 match ops[i]? with
 | none=>[]
 | some o=>o.op.operands.toList.filterMap fun
  | .tmp t=>match iG t done 0 with
   | none=>some t
   | some _=>none
  | _=>none
def Vt (ops:Array Oper):List Nat->List (Option Nat)->List Nat
 | [],_=>[]
 | i::l,done=>Qz ops done i++Vt ops l (((ops[i]?).bind (·.dst))::done)
def afd:Operand->List Nat
 | .tmp t=>[t]
 | _=>[]
def zw:Code->List Nat
 | .region _ ops false=>Vt ops (List.range ops.size) []
 | .region _ ops true=>Vt ops (canon (Dm ops) (masks ops.toList) ops.size) []++(if splits ops then Qz ops [] (ops.size-3)++(Qz ops [(ops[ops.size-3]?).bind (·.dst)] (ops.size-2)++Qz ops [] (ops.size-1)) else [])
 | .seq a b=>zw a++zw b
 | .cond c a b=>afd c++(zw a++zw b)
 | .block _ b=>zw b
 | .loop b=>zw b
 | .rangeFunc f _ a b=>afd f++(zw a++zw b)
 | _=>[]
def afe (x:Nat):List Nat->Bool
 | []=>false
 | y::l=>bif Nat.beq x y then true else afe x l
def abJ:List Nat->List Nat->List Nat
 | [],acc=>acc.reverse
 | x::l,acc=>bif afe x acc then abJ l acc else abJ l (x::acc)
def abK:List ResultVar->List Nat
 | []=>[]
 | .tmp t::l=>t::abK l
 | .cell t _::l=>t::abK l
def uU (P:Program)(f:FuncId):List Nat:=match P.funcs[f]? with
 | none=>[]
 | some fn=>match fn.body with
  | none=>[]
  | some c=>abJ (zw c++abK fn.results.toList) []
def fnQ (P:Program)(M PM RM:Nat)(f:FuncId):Option aT:=bif Nat.testBit M f then some (cT P (uU P f) (Nat.testBit PM f) (Nat.testBit RM f) f) else none
def MS (P:Program)(M a n:Nat):Bool:=Nat.rec true (λi ih=>bif bif Nat.testBit M (a+i) then (Oo P (uU P (a+i)) (a+i)).isSome else true then ih else false) n
theorem vV {P:Program}{M a:Nat}:∀{n:Nat},MS P M a n=true->∀i,i<n->Nat.testBit M (a+i)=true->(Oo P (uU P (a+i)) (a+i)).isSome=true:=by
 intro n;induction n with
 | zero=>intro _ i hi;omega
 | succ n ih=>
  intro h i hi hb;have h:(bif (bif Nat.testBit M (a+n) then (Oo P (uU P (a+n)) (a+n)).isSome else true) then MS P M a n else false)=true:=h;cases h1:(bif Nat.testBit M (a+n) then (Oo P (uU P (a+n)) (a+n)).isSome else true) with
  | false=>rw [h1] at h;cases h
  | true=>rw [h1] at h;by_cases hn:i=n;subst hn;rw [hb] at h1;exact h1;exact ih h i (by omega) hb
def orQ (o:Option (Option aT))(q:Option aT):Option aT:=Option.rec q (λx=>Option.rec q (λy=>some y) x) o
theorem abL {P:Program}{t:T (Option aT)}{M PM RM:Nat}(ht:TOk P (λi=>i) t)(hM:∀f,Nat.testBit M f=true->(Oo P (uU P f) f).isSome=true):∀f sf,orQ (t.get f) (fnQ P M PM RM f)=some sf->oU P f sf:=by
 intro f sf h;have hq:fnQ P M PM RM f=some sf->oU P f sf:=λh=>by
  unfold fnQ at h;cases hb:Nat.testBit M f with
  | false=>rw [hb] at h;cases h
  | true=>rw [hb] at h;cases h;exact iC (hM f hb)
 cases ho:t.get f with
 | none=>rw [ho] at h;exact hq h
 | some x=>
  rw [ho] at h;cases x with
  | none=>exact hq h
  | some y=>cases h;exact ht f _ ho
structure Weak (m1 m2:Mem):Prop where
 nx:m2.nx=m1.nx
 lim:m2.lim=m1.lim
 ok:T.Ok m2.t m2.nx
 old:∀i,i<m1.lim->m2.get i=m1.get i
 blk:∀i b,m2.get i=some b->∃b1,m1.get i=some b1∧(b=b1∨(b=.dead∧bQ b1=false)∨
  ∃es es1,(b1=.map es1∨b1=.mapU es1)∧b=.mapU es∧es.Perm es1∧(∀e∈es,∃s,e.1=.str s)∧(es.map (·.1)).Nodup)
theorem Weak.void {m1 m2:Mem}(h:Weak m1 m2){i:Nat}{b b1:O9}(h2:m2.get i=some b)(h1:m1.get i=some b1):bQ b=bQ b1:=by obtain⟨b1',g1,g2⟩:=h.blk i b h2;rw [h1] at g1;cases g1;rcases g2 with rfl | ⟨rfl,g⟩ | ⟨es,es1,rfl | rfl,rfl,_⟩;rfl;rw [g];rfl;rfl;rfl
theorem Weak.live {m1 m2:Mem}(h:Weak m1 m2){i:Nat}{b:O9}(h2:m2.get i=some b)(hl:U2 b=true):∃b1,m1.get i=some b1∧U2 b1=true:=by obtain⟨b1,g1,g2⟩:=h.blk i b h2;refine⟨b1,g1,?_⟩;rcases g2 with rfl | ⟨rfl,g⟩ | ⟨es,es1,rfl | rfl,rfl,_⟩;exact hl;cases hl;rfl;rfl
theorem Weak.get {m1 m2:Mem}(h:Weak m1 m2)(hok:T.Ok m1.t m1.nx){i:Nat}{b1:O9}(h1:m1.get i=some b1):∃b,m2.get i=some b:=
 (h.ok.get i).2 (by rw [h.nx];exact (hok.get i).1 ⟨b1,h1⟩)
theorem Weak.has {m1 m2:Mem}(h:Weak m1 m2)(hok:T.Ok m1.t m1.nx)(i:Nat):m2.has i↔m1.has i:=by constructor;rintro⟨b,h2,hv⟩;obtain⟨b1,g1,_⟩:=h.blk i b h2;exact⟨b1,g1,by rw [← h.void h2 g1];exact hv⟩;rintro⟨b1,h1,hv⟩;obtain⟨b,h2⟩:=h.get hok h1;exact⟨b,h2,by rw [h.void h2 h1];exact hv⟩
theorem Weak.nm {m1 m2:Mem}(h:Weak m1 m2)(hok:T.Ok m1.t m1.nx)(ι:K4):m2.nm ι=m1.nm ι:=by unfold Mem.nm;congr 1;funext i;exact propext (h.has hok i)
theorem wV (ι:K4):∀(es:List (j3×j3)) (i:Nat),(I5 ι es i).map (λx=>(x.key,x.val))=es.map λe=>(o8 ι e.1,o8 ι e.2)
 | [],_=>rfl
 | e::es,i=>by simp [I5,wV ι es (i+1)]
section
variable {P:Program}{G:Mem}{ι:K4}
theorem Weak.rm {m1 m2:Mem}{h:Array Obj}(k:Weak m1 m2)(hm:RM P G ι m1 h):RM P G ι m2 h where
 ok:=k.ok
 blk i b hb:=by rw [k.nm hm.ok];obtain⟨b1,g1,g2⟩:=k.blk i b hb;have h1:=hm.blk i b1 g1;rcases g2 with rfl | ⟨rfl,_⟩ | ⟨es,es1,hb1,rfl,hp,hs,hn⟩;exact h1;trivial;have hpm:(es1.map λe=>(o8 ι e.1,o8 ι e.2)).Perm (es.map λe=>(o8 ι e.1,o8 ι e.2)):=(hp.map _).symm;rcases hb1 with rfl | rfl;exact⟨I5 ι es1 0,es1.length,h1.1,⟨by rw [wV];exact hpm,hs,hn⟩,λe he=>h1.2 e (hp.subset he)⟩;obtain⟨L,ck,a1,a2,a3⟩:=h1;exact⟨L,ck,a1,⟨a2.1.trans hpm,hs,hn⟩,λe he=>a3 e (hp.subset he)⟩
 own i b hi hb hl:=by
  obtain⟨b1,g1,g2⟩:=k.live hb hl;obtain⟨o1,o2⟩:=hm.own i b1 (by rw [← k.lim];exact hi) g1 g2;exact⟨λj b' hne hb' hl'=>by
   obtain⟨b1',g1',g2'⟩:=k.live hb' hl';exact o1 j b1' hne g1' g2',o2⟩
 glim:=by rw [k.lim];exact hm.glim
 limn:=by rw [k.lim,k.nx];exact hm.limn
 gle:=hm.gle
 base i hi:=(k.old i (Xb hi hm.glim)).trans (hm.base i hi)
 ghas i hi:=(k.has hm.ok i).2 (hm.ghas i hi)
 glob:=hm.glob
 spot i b hb hl:=by obtain⟨b1,g1,g2⟩:=k.live hb hl;exact hm.spot i b1 g1 g2
 gsz:=hm.gsz
theorem Step.weak {ι':K4}{m m1 m2:Mem}{w w':World}(h:Step P G ι m w ι' m1 w')(k:Weak m1 m2):Step P G ι m w ι' m2 w' where
 rm:=k.rm h.rm
 ext:=h.ext
 has i hi:=(k.has h.rm.ok i).2 (h.has i hi)
 nx:=by rw [k.nx];exact h.nx
 lim:=k.lim.trans h.lim
 old i hi:=(k.old i (by rw [h.lim];exact hi)).trans (h.old i hi)
 size:=h.size
 frame:=h.frame
 own b:=by rintro⟨i,x,h1,h2,h3,h4⟩;obtain⟨b1,g1,g2⟩:=k.live h2 h3;exact h.own b ⟨i,b1,by rw [← k.lim];exact h1,g1,g2,h4⟩
 os:=h.os
 out:=h.out
 tape:=h.tape
theorem P8.weak {m:Mem}{w w':World}{outs1 outs2:List VM}{e:Ending}(h:P8 P G ι m w outs1 e w')(k:∀o∈outs1,∃o'∈outs2,o'.v=o.v∧Weak o.m o'.m):P8 P G ι m w outs2 e w':=by rcases h with⟨v,he,r,hr,ι',hst,hlt,hv⟩ | ⟨r,hr,x,ι',hx,hst,hlt,he⟩;obtain⟨o',h1,h2,h3⟩:=k r hr;exact .inl ⟨v,he,o',h1,ι',hst.weak h3,by rw [h2,h3.nm hst.rm.ok];exact hlt,by rw [h2];exact hv⟩;obtain⟨o',h1,h2,h3⟩:=k r hr;exact .inr ⟨o',h1,x,ι',h2.trans hx,hst.weak h3,by rw [h3.nm hst.rm.ok];exact hlt,he⟩
theorem Pj {K:Known}(hK:Vk P K){fuel n:Nat}{f:FuncId}{args:List j3}{m:Mem}{outs1 outs2:List VM}(h:o9 K fuel n (.func f) args m=some outs1)
  (k:∀o∈outs1,∃o'∈outs2,o'.v=o.v∧Weak o.m o'.m):
  Aj P f∧∀{ι:K4} {w:World},RM P K.base ι m w.heap->aS (m.nm ι) args->CallsIn Fence.wide 0 P f (y7 ι args).toArray w (P8 P K.base ι m w outs2):=by
 obtain⟨h1,h2⟩:=(Av hK fuel n).func h;exact⟨h1,λhm hargs=>(h2 hm hargs).mono λe w' he=>he.weak k⟩
theorem uV {K:Known}(hK:Vk P K){f:FuncId}{sf:aT}(hf:K.fns f=some sf){args:List j3}{m:Mem}{outs2:List VM}
  (h:T.Ok m.t m.nx->m.lim<=m.nx->∃fuel n outs1,o9 K fuel n (.func f) args m=some outs1∧∀o∈outs1,∃o'∈outs2,o'.v=o.v∧Weak o.m o'.m):
  Aj P f∧∀{ι:K4} {w:World},RM P K.base ι m w.heap->aS (m.nm ι) args->CallsIn Fence.wide 0 P f (y7 ι args).toArray w (P8 P K.base ι m w outs2):=by
 refine⟨(hK.fns f sf hf).ok,λ{ι w} hm hargs=>?_⟩;obtain⟨fuel,n,outs1,h1,h2⟩:=h hm.ok hm.limn;exact (Pj hK h1 h2).2 hm hargs
end
theorem MU {α β:Type}{f:α->Option (List β)}{g:β->Prop}:∀{l:List α},(∀r∈l,∃os,f r=some os∧∀o∈os,g o)->∃outs,Dh f l=some outs∧∀o∈outs,g o
 | [],_=>⟨[],rfl,λo ho=>by cases ho⟩
 | a::l,h=>by obtain⟨os,h1,h2⟩:=h a (ad3 ..);obtain⟨outs,h3,h4⟩:=MU (l:=l) λr hr=>h r (Z9 _ hr);refine⟨os++outs,by rw [xH,h1,h3];rfl,λo ho=>?_⟩;rcases aaF.1 ho with ho | ho;exact h2 o ho;exact h4 o ho
theorem abM {α β:Type}{l:List α}{f:α->Option (List β)}{g:β->Prop}(h:∀r∈l,∃os,f r=some os∧∀o∈os,g o):∃outs,bnd (some l) f=some outs∧∀o∈outs,g o:=by
 match l,h with
 | [],_=>exact⟨[],rfl,λo ho=>by cases ho⟩
 | [a],h=>exact h a (J3.2 rfl)
 | a::b::t,h=>exact MU (l:=a::b::t) h
theorem bR {α β:Type}{x:Option (List α)}{f:α->Option (List β)}{g1:α->Prop}{g:β->Prop}(hx:∃l,x=some l∧∀r∈l,g1 r)(h:∀r,g1 r->∃os,f r=some os∧∀o∈os,g o):∃outs,bnd x f=some outs∧∀o∈outs,g o:=by obtain⟨l,rfl,hl⟩:=hx;exact abM λr hr=>h r (hl r hr)
def U5 (n:Nat)(m:Mem):Mem:=Nat.rec (λm=>m) (λ_ ih m=>ih (m.new .dead)) n m
def JW (k:j3)(l:List (j3×j3)):Bool:=match k with
 | .str s=>List.rec true (λe _ ih=>match e.1 with
  | .str t=>bi (strEq s t) false ih
  | _=>false) l
 | _=>false
def strKeys (l:List (j3×j3)):Bool:=List.rec true (λe t ih=>bi (JW e.1 t) ih false) l
def Yk (l:List (j3×j3)):Bool:=List.rec true (λe _ ih=>match e.2 with
 | .agg [a,b]=>bi (K5 a) (bi (K5 b) ih false) false
 | _=>false) l
def JX (args:List j3)(m:Mem):bX:=match args with
 | [.map d,.map s]=>bi (Nat.blt d m.lim) none (bi (Nat.beq d s) none (Od (m.get s) λes=>KQ (m.get d) λds=>
   bi (strKeys (aX ds es)) (bi (Yk es) (bi (Nat.blt (len' es) 100000) (one (.tuple []) ((U5 (Nat.succ (len' es)) m).set d (.mapU (aX ds es)))) none) none) none))
 | _=>none
def au:List (Int×Int×List UInt8×Int):=
 [(5,3,[42],6),(5,3,[47],7),(5,3,[37],8),(4,3,[43],9),(4,3,[45],10),(3,3,[60],11),(3,3,[60,61],12),(3,3,[62],13),(3,3,[62,61],14),(3,3,[61,61],15),(3,3,[33,61],16),
  (1,1,[97,110,100],17),(0,1,[111,114],18)]
def ou (lv k:Int)(s:List UInt8):Option Int:=List.rec none (λe _ ih=>bi (aV e.1 lv) (bi (aV e.2.1 k) (bi (strEq e.2.2.1 s) (some e.2.2.2) ih) ih) ih) au
def bB (args:List j3)(m:Mem):bX:=match args with
 | [.ptr r off,.int .i64 lv]=>Q9 (m.get r) λrs n rows=>ob (cell1 rs n rows off) λv=>ob (lenOf v) λlen=>Nat.rec (jV v (one (.int .i64 0) (U5 2 m)) (λ_ _ _ _=>one (.int .i64 0) (U5 2 m)) (λ_ _ _ _=>one (.int .i64 0) (U5 2 m))) (λ_ _=>jV v none (λid o _ _=>tok id o v r off lv) (λid o _ _=>tok id o v r off lv)) len
 | _=>none
where
 tok (id o:Nat) (v:j3) (r off:Nat) (lv:Int):bX:=Q9 (m.get id) λrs n rows=>ob (eU rs n rows o 2) λl=>match l with
  | [.int .i64 k,.str s]=>Option.rec (one (.int .i64 0) (U5 2 m)) (λkd=>ob (L9 (U5 2 m).nx 2 v 1 none) λp=>storeAt (bM (U5 2 m) p.2) r off [p.1] λm'=>one (.int .i64 kd) m') (ou lv k s)
  | _=>none
def mF (sep:List UInt8)(l:List (List UInt8)):List UInt8:=List.rec [] (λs t ih=>List.rec s (λ_ _ _=>aX s (aX sep ih)) t) l
def Ay (l:List (List j3)):Option (List (List UInt8)):=List.rec (some []) (λr _ ih=>match r with
 | [.str s]=>ob ih λt=>some (s::t)
 | _=>none) l
def JY (c:UInt8)(s:List UInt8):Bool:=List.rec false (λb _ ih=>bi (Nat.beq b.toNat c.toNat) true ih) s
def EG (c:UInt8)(s:List UInt8):Int:=List.rec (Int.negSucc 0) (λb _ ih=>bi (Nat.beq b.toNat c.toNat) 0 (bi (aV ih (Int.negSucc 0)) (Int.negSucc 0) (ih+1))) s
def EH (c:UInt8)(s:List UInt8):Nat:=List.rec 0 (λb _ ih=>bi (Nat.beq b.toNat c.toNat) (Nat.succ ih) ih) s
def aff (fi fn fj nx:Nat)(f:FuncId)(args:List j3)(bs:List NB):Option AZ:=
 bi (Nat.beq f fi) (match args,bs with
  | [.str s,.str [c]],[]=>bi (Nat.blt (len' s) 1000000) (some ⟨.int .i64 (EG c s),[]⟩) none
  | _,_=>none)
 (bi (Nat.beq f fn) (match args,bs with
  | [.str s,.str [c]],[]=>bi (Nat.blt (len' s) 1000000) (some ⟨.int .i64 (.ofNat (EH c s)),[]⟩) none
  | _,_=>none)
 (bi (Nat.beq f fj) (match args,bs with
  | [v,.str sep],[.cells 1 rows]=>jV v none
    (λid off n c=>bi (Nat.beq id nx) (bi (Nat.ble n c) (bi (Nat.blt n 1000000) (ob (takeN n (jo off rows)) λl=>ob (Ay l) λws=>bi (Nat.blt (len' (mF sep ws)) 1000000) (some ⟨.str (mF sep ws),[]⟩) none) none) none) none)
    (λid off n _=>bi (Nat.beq id nx) (bi (Nat.blt n 1000000) (ob (takeN n (jo off rows)) λl=>ob (Ay l) λws=>bi (Nat.blt (len' (mF sep ws)) 1000000) (some ⟨.str (mF sep ws),[]⟩) none) none) none)
  | [.nilSlice,.str _],[]=>some ⟨.str [],[]⟩
  | _,_=>none) none))
set_option maxRecDepth 100000
set_option maxHeartbeats 1000000
def left (seen:List Nat):List (j3×j3)->Nat->List (Nat×(j3×j3))
 | [],_=>[]
 | e::es,i=>if rz i seen=true then left seen es (i+1) else (i,e)::left seen es (i+1)
theorem HZ (n x:Nat)(l:List Nat):rz n (x::l)=bi (Nat.beq x n) true (rz n l):=rfl
theorem SG (n:Nat)(l:List Nat):rz n (n::l)=true:=by rw [HZ,ac0];rfl
theorem Cu {n x:Nat}(h:x≠n)(l:List Nat):rz n (x::l)=rz n l:=by
 rw [HZ,show Nat.beq x n=false from by
  cases hb:Nat.beq x n with
  | false=>rfl
  | true=>exact absurd (J4 hb) h];rfl
theorem left_skip (j:Nat)(seen:List Nat):∀(es:List (j3×j3)) (k:Nat),j<k->left (j::seen) es k=left seen es k
 | [],_,_=>rfl
 | e::es,k,h=>by simp only [left];rw [Cu (by omega),left_skip j seen es (k+1) (by omega)]
theorem uW {seen:List Nat}:∀{es:List (j3×j3)} {i:Nat} {p:Nat×(j3×j3)},p∈left seen es i->i<=p.1∧es[p.1-i]?=some p.2∧rz p.1 seen=false
 | e::es,i,p,h=>by
  simp only [left] at h;have next:p∈left seen es (i+1)->i<=p.1∧(e::es)[p.1-i]?=some p.2∧rz p.1 seen=false:=λh=>by obtain⟨h1,h2,h3⟩:=uW h;refine⟨by omega,?_,h3⟩;rw [show p.1-i=(p.1-(i+1))+1 from by omega,ad4];exact h2
  split at h;exact next h;rename_i hs;rcases Z7.1 h with rfl | h;exact⟨J2 _,by simp,by simpa using hs⟩;exact next h
theorem qN {seen:List Nat}:∀{es:List (j3×j3)} {i:Nat} {p:Nat×(j3×j3)},p∈left seen es i->(left seen es i).Perm (p::left (p.1::seen) es i)
 | e::es,i,p,h=>by
  have hm:=uW h;simp only [left] at h ⊢;by_cases hs:rz i seen=true;rw [if_pos hs] at h ⊢;have hne:p.1≠i:=λe=>by rw [e,hs] at hm;cases hm.2.2
  rw [Cu hne,if_pos hs];exact qN h
  ·rw [if_neg hs] at h ⊢;rcases Z7.1 h with rfl | h;rw [SG,if_pos rfl,left_skip _ _ _ _ (aiR _)]
   ·have:=(uW h).1;rw [Cu (by omega),if_neg hs];exact ((qN h).cons _).trans (List.Perm.swap ..)
theorem MV (es:List (j3×j3)):∀i,(left [] es i).map (·.2)=es:=by
 induction es with
 | nil=>intro i;rfl
 | cons e es ih=>intro i;simp [left,ih,rz]
theorem EI (es:List (j3×j3)):∀i,(left [] es i).length=es.length:=λi=>by have:=congrArg List.length (MV es i);simpa using this
theorem EJ (m:Mem)(id mp since:Nat)(seen:List Nat):∀(es:List (j3×j3)) (i:Nat),
  nexts m id mp since seen es i=(left seen es i).map λp=>⟨.tuple [.bool true,p.2.1,p.2.2],m.set id (.iter (some mp) since (p.1::seen))⟩
 | [],_=>rfl
 | e::es,i=>by have h:nexts m id mp since seen (e::es) i=bi (rz i seen) (nexts m id mp since seen es (i+1)) (⟨.tuple [.bool true,e.1,e.2],m.set id (.iter (some mp) since (i::seen))⟩::nexts m id mp since seen es (i+1)):=rfl;rw [h,EJ m id mp since seen es (i+1)];simp only [left];cases rz i seen<;>rfl
theorem MW {it:OF}{cf:F4}{ls:List j3}{env:T j3}{m:Mem}{i s:Nat}{seen:List Nat}{es:List (j3×j3)}(h:it ls env=.ptr i 0)(hl:m.lim<=i)
  (hi:m.get i=some (.iter (some s) es.length seen)) (hs:m.get s=some (.map es)):
  ∃l,AV it cf ls env m=some l∧∀r∈l,(left seen es 0=[]∧r=⟨.tuple [.bool false],m⟩)∨∃p∈left seen es 0,r=⟨.tuple [.bool true,p.2.1,p.2.2],m.set i (.iter (some s) es.length (p.1::seen))⟩:=by
 have e:AV it cf ls env m=some (Jc m (nexts m i s es.length seen es 0)):=by
  show gK (it ls env) _=_;rw [h];show bi (Nat.beq 0 0) (bi (Nat.blt i m.lim) none _) none=_;rw [show Nat.blt i m.lim=false from by
   cases hb:Nat.blt i m.lim with
   | false=>rfl
   | true=>have:=Y8.mp hb;omega]
  show Gr (m.get i) _ _=_;rw [hi];show Od (m.get s) _=_;rw [hs];show bi (Nat.beq (len' es) es.length) _ _=_;rw [I9,ac0];rfl
 refine⟨_,e,λr hr=>?_⟩;rw [EJ] at hr;match hl:left seen es 0 with
 | []=>rw [hl] at hr;exact .inl ⟨rfl,J3.1 hr⟩
 | q::t=>rw [hl] at hr;have hr:r∈(q::t).map λp=>(⟨.tuple [.bool true,p.2.1,p.2.2],m.set i (.iter (some s) es.length (p.1::seen))⟩:VM):=hr;obtain⟨p,h1,h2⟩:=aeg.1 hr;exact .inr ⟨p,h1,h2.symm⟩
theorem Ia {it:OF}{ls:List j3}{env:T j3}{m:Mem}{i s j:Nat}{seen:List Nat}{es:List (j3×j3)}{e:j3×j3}(h:it ls env=.ptr i 0)
  (hi:m.get i=some (.iter (some s) es.length (j::seen))) (hs:m.get s=some (.map es)) (hj:es[j]?=some e):qZ it ls env m=some (.tuple [e.1,e.2]):=by
 show gK (it ls env) _=_;rw [h];show bi (Nat.beq 0 0) (Gr (m.get i) none _) none=_;rw [hi];show Od (m.get s) _=_;rw [hs];show bi (Nat.beq (len' es) es.length) (ob (mK j es) _) _=_;rw [I9,ac0,iY,hj];rfl
theorem BD (k:List UInt8):∀(es:List (j3×j3)) (i:Nat),(∀e∈es,∃s,e.1=.str s∧s≠k)->findKey eqStr (.str k) es i=some none
 | [],_,_=>rfl
 | e::es,i,h=>by obtain⟨s,h1,h2⟩:=h e (ad3 ..);show ob (eqStr (.str k) e.1) _=_;rw [h1];show bi (strEq k s) _ _=_;rw [gT,beq_eq_false_iff_ne.2 (aiA h2)];exact BD k es (i+1) λe he=>h e (Z9 _ he)
theorem JZ (k:List UInt8)(es:List (j3×j3))(h:∀e∈es,∃s,e.1=.str s∧s≠k):W9 eqStr 1 (.str k) es=some none:=by
 cases es with
 | nil=>rw [JQ];rfl
 | cons e es=>rw [Gh];exact BD k (e::es) 0 h
theorem MX {k:j3}{l:List (j3×j3)}(h:JW k l=true):∃s,k=.str s∧∀e∈l,∃t,e.1=.str t∧s≠t:=by
 cases k with
 | str s=>
  refine⟨s,rfl,?_⟩;induction l with
  | nil=>intro e he;cases he
  | cons x l ih=>
   obtain⟨kx,vx⟩:=x;intro e he;cases kx with
   | str t=>have h:bi (strEq s t) false (JW (.str s) l)=true:=h;rw [gT] at h;by_cases hst:s=t;rw [beq_iff_eq.2 hst] at h;cases h;rw [beq_eq_false_iff_ne.2 hst] at h;rcases Z7.1 he with rfl | he;exact⟨t,rfl,hst⟩;exact ih h e he
   | _=>cases h
 | _=>cases h
theorem zx:∀{l:List (j3×j3)},strKeys l=true->(∀e∈l,∃s,e.1=.str s)∧(l.map (·.1)).Nodup
 | [],_=>⟨λe he=>(by cases he),List.nodup_nil⟩
 | x::l,h=>by obtain⟨h1,h2⟩:=cu (show bi (JW x.1 l) (strKeys l) false=true from h);obtain⟨s,hs,hl⟩:=MX h1;obtain⟨g1,g2⟩:=zx h2;refine⟨λe he=>?_,?_⟩;rcases Z7.1 he with rfl | he;exact⟨s,hs⟩;exact g1 e he;rw [aaZ];refine afp.2 ⟨λhm=>?_,g2⟩;obtain⟨e,he,hk⟩:=aeg.1 hm;obtain⟨t,ht,hne⟩:=hl e he;rw [hs] at hk;rw [ht] at hk;cases hk;exact hne rfl
theorem Ib:∀{l:List (j3×j3)},Yk l=true->∀e∈l,∃a b,e.2=.agg [a,b]∧K5 a=true∧K5 b=true
 | (k,.agg [a,b])::l,h,e,he=>by obtain⟨h1,h2⟩:=cu (show bi (K5 a) (bi (K5 b) (Yk l) false) false=true from h);obtain⟨h2,h3⟩:=cu h2;rcases Z7.1 he with rfl | he;exact⟨a,b,rfl,h1,h2⟩;exact Ib h3 e he
def Az:SC:=j5 (j6 (D5 (AV (I7 (gL gH))) (K8 (pExt G6 0) (sR sH) r9))) (j5 (A9 (I7 (gR gH)) D9 (mg 0)) (F7 1 (j5 (j6 (F6 (qZ (I7 (gL gH))) (o7 (pExt G6 0) (o7 (pExt bV 1)
 (fM (eu [(.int .i64 (.ofNat 0)),.nilFunc]) (sL (sR sH)) (K8 (Q5 dw) (sR (sL sH)) (D5 (I6 2 bV dw) r9))))))) (j6 (F6 (aZ 2 (I7 (gL (gR gH)))) (D5 (P9 eqStr 1 (I7 (gL (gL gH))) (I7 (gR (gL gH))) G6) r9))))))
def Vu:aT:=⟨false,[(some 3),(some 0)],6,[],(j5 (j6 (AX (nM (I7 gH)) (sL sH) r9)) (F7 0 (U3 Az))),none⟩
def ow (s it d b k p:j3):T j3:=.nd (.nd (.nd .e d .e) it (.nd .e p .e)) s (.nd (.nd .e k .e) b .e)
def Yl (u:Bool)(l:List (j3×j3)):O9:=match u with
 | false=>.map l
 | true=>.mapU l
structure QA (m0:Mem)(d s it:Nat)(u:Bool)(es:List (j3×j3))(m:Mem)(seen:List Nat)(cur:List (j3×j3)):Prop where
 ok:m.Ok
 lim:m.lim=m0.lim
 dl:m0.lim<=d
 dn:d<m0.nx
 ds:d≠s
 sn:s<m0.nx
 itn:it=m0.nx
 mn:m0.nx<m.nx
 gs:m.get s=some (.map es)
 gi:m.get it=some (.iter (some s) es.length seen)
 gd:m.get d=some (Yl u cur)
 old:∀i,i<m0.nx->i≠d->m.get i=m0.get i
 new:∀i,m0.nx<=i->∀b,m.get i=some b->bQ b=false
 len:m.nx+(left seen es 0).length=m0.nx+1+es.length
structure Vv (m0:Mem)(d:Nat)(u:Bool)(all:List (j3×j3))(n:Nat)(m:Mem):Prop where
 ok:m.Ok
 lim:m.lim=m0.lim
 nx:m.nx=m0.nx+1+n
 gd:∃l,m.get d=some (Yl u l)∧all.Perm l
 old:∀i,i<m0.nx->i≠d->m.get i=m0.get i
 new:∀i,m0.nx<=i->∀b,m.get i=some b->bQ b=false
theorem Vw {a b:Nat}(h:b<=a):Nat.blt a b=false:=by
 cases hb:Nat.blt a b with
 | false=>rfl
 | true=>have:=Y8.mp hb;omega
theorem MZ {m0:Mem}{d s it:Nat}{u:Bool}{es:List (j3×j3)}{m:Mem}{seen:List Nat}{cur:List (j3×j3)}(h:QA m0 d s it u es m seen cur)(hm0:m0.lim<=m0.nx)(h2:∀e∈es,∃a b,e.2=.agg [a,b]∧K5 a=true∧K5 b=true)
  (hk:(∀e∈cur++(left seen es 0).map (·.2),∃t,e.1=.str t)∧((cur++(left seen es 0).map (·.2)).map (·.1)).Nodup) (cf:F4) (fu:Nat) (b k p:j3):
  ∃outs,Az cf fu none (ow (.map s) (.ptr it 0) (.map d) b k p) m []=some outs∧∀o∈outs,
   (left seen es 0=[]∧∃env,o=⟨.exit 0,env,m,[],none⟩)∨
   ∃q∈left seen es 0,∃m' b' k' p',o=⟨.normal,ow (.map s) (.ptr it 0) (.map d) b' k' p',m',[],none⟩∧QA m0 d s it u es m' (q.1::seen) (cur ++ [q.2]):=by
 unfold Az;rw [uS,zo];refine bR (g1:=λo:Out=>(left seen es 0=[]∧o=⟨.normal,ow (.map s) (.ptr it 0) (.map d) (.bool false) k p,m,[],none⟩)∨
  ∃q∈left seen es 0,o=⟨.normal,ow (.map s) (.ptr it 0) (.map d) (.bool true) k p,m.set it (.iter (some s) es.length (q.1::seen)),[],none⟩) ?_ ?_
 refine bR (g1:=λe:EM=>(left seen es 0=[]∧e=⟨ow (.map s) (.ptr it 0) (.map d) (.bool false) k p,m,none,[]⟩)∨
  ∃q∈left seen es 0,e=⟨ow (.map s) (.ptr it 0) (.map d) (.bool true) k p,m.set it (.iter (some s) es.length (q.1::seen)),none,[]⟩) ?_ ?_
 rw [JN];refine bR (MW (it:=I7 (gL gH)) (env:=ow (.map s) (.ptr it 0) (.map d) b k p) rfl (by rw [h.lim,h.itn];exact hm0) h.gi h.gs) ?_;rintro r (⟨h1,rfl⟩ | ⟨q,h1,rfl⟩);exact⟨_,rfl,λo ho=>.inl ⟨h1,J3.1 ho⟩⟩;exact⟨_,rfl,λo ho=>.inr ⟨q,h1,J3.1 ho⟩⟩;rintro e (⟨h1,rfl⟩ | ⟨q,h1,rfl⟩);exact⟨_,rfl,λo ho=>.inl ⟨h1,J3.1 ho⟩⟩;exact⟨_,rfl,λo ho=>.inr ⟨q,h1,J3.1 ho⟩⟩;rintro o (⟨h1,rfl⟩ | ⟨q,h1,rfl⟩);exact⟨_,rfl,λo ho=>.inl ⟨h1,_,J3.1 ho⟩⟩;obtain⟨_,hq2,hq3⟩:=uW h1;rw [aiO] at hq2;have hqe:q.2∈es:=Y5 hq2;obtain⟨x,y,hxy,hx1,hy1⟩:=h2 q.2 hqe;have hp:=qN h1;have hpm:(cur++(left seen es 0).map (·.2)).Perm (cur++q.2::(left (q.1::seen) es 0).map (·.2)):=(hp.map _).append_left _;have hmem:q.2∈cur++(left seen es 0).map (·.2):=aef _ (afQ h1);obtain⟨t,ht⟩:=hk.1 q.2 hmem;have hfind:W9 eqStr 1 (.str t) cur=some none:=JZ t cur λe he=>by obtain⟨t',ht'⟩:=hk.1 e (ad6 _ he);refine⟨t',ht',λe'=>?_⟩;have hn:((cur++q.2::(left (q.1::seen) es 0).map (·.2)).map (·.1)).Nodup:=(hpm.map _).nodup hk.2;rw [ae1,List.nodup_append] at hn;exact hn.2.2 _ (afQ he) _ (by rw [aaZ];exact ad3 ..) (by rw [ht',ht,e'])
 have hit:it<m.nx:=by rw [h.itn];exact h.mn
 have hsi:s≠it:=by rw [h.itn];exact air h.sn
 have hdi:d≠it:=by rw [h.itn];exact air h.dn
 have hsn:s<m.nx:=Nat.lt_trans h.sn h.mn;have hdn:d<m.nx:=Nat.lt_trans h.dn h.mn;generalize hM:m.set it (.iter (some s) es.length (q.1::seen))=M;have Mok:M.Ok:=by rw [← hM];exact Mem.Ok.set h.ok hit _
 have Mn:M.nx=m.nx:=by rw [← hM];rfl
 have Ml:M.lim=m0.lim:=by rw [← hM];exact h.lim
 have Mg:∀i,M.get i=if i=it then some (.iter (some s) es.length (q.1::seen)) else m.get i:=λi=>by rw [← hM,Mem.Z0 h.ok hit]
 have Ms:M.get s=some (.map es):=by rw [Mg,if_neg hsi];exact h.gs
 have Mi:M.get it=some (.iter (some s) es.length (q.1::seen)):=by rw [Mg,if_pos rfl]
 have Md:M.get d=some (Yl u cur):=by rw [Mg,if_neg hdi];exact h.gd
 have hent:∀(env:T j3),gL gH env=.ptr it 0->qZ (I7 (gL gH)) [] env M=some (.tuple [q.2.1,q.2.2]):=λenv he=>Ia (it:=I7 (gL gH)) he Mi Ms hq2;have Mlim:M.lim<=M.nx:=by rw [Ml,Mn];exact Xl hm0 (afz h.mn)
 have g1:(M.new (j4 [x,y])).get d=some (Yl u cur):=by rw [Mem.N7 Mok,if_neg (by rw [Mn];exact air hdn)];exact Md
 have hput:∀(env:T j3) (ls:List j3),env=ow (.map s) (.ptr it 0) (.map d) (.bool true) (.str t) (.ptr M.nx 0)->ls=[.agg [x,y]]->
   P9 eqStr 1 (I7 (gL (gL gH))) (I7 (gR (gL gH))) G6 cf ls env (M.new (j4 [x,y]))=some [⟨.undef,(M.new (j4 [x,y])).set d (Yl u (cur ++ [(.str t,.agg [x,y])]))⟩]:=by
  rintro env ls rfl rfl;rw [Ey];show bi (Nat.blt d M.lim) none (ob (msB ((M.new (j4 [x,y])).get d) eqStr 1 (.str t) (.agg [x,y])) _)=_;rw [Vw (by rw [Ml];exact h.dl),g1];cases u with
  | false=>show ob (ob (W9 eqStr 1 (.str t) cur) _) _=_;rw [hfind];rfl
  | true=>show ob (ob (W9 eqStr 1 (.str t) cur) _) _=_;rw [hfind];rfl
 refine⟨[⟨.normal,ow (.map s) (.ptr it 0) (.map d) (.bool true) (.str t) (.ptr M.nx 0),(M.new (j4 [x,y])).set d (Yl u (cur ++ [(.str t,.agg [x,y])])),[],none⟩],?_,λo ho=>.inr ⟨q,h1,_,_,_,_,J3.1 ho,?_⟩⟩;have hst:∀(env:T j3) (c:j3),I6 2 bV dw cf [.str t,.ptr M.nx 0,.agg [x,y],.str t,.tuple [.str t,.agg [x,y]]] env (M.new (j4 [c,.nilFunc]))=some [⟨.undef,M.new (j4 [x,y])⟩]:=λenv c=>by show storeAt (M.new (j4 [c,.nilFunc])) M.nx 0 [x,y] (λm'=>one .undef m')=_;rw [kU (m:=M.new (j4 [c,.nilFunc])) Mlim (by show bi (K5 x) (bi (K5 y) true false) false=true;rw [hx1,hy1];rfl),Mem.N7 Mok,if_pos rfl,jT (by simp) (by simp),P5,Mem.Ct Mok];rfl
 have hent':=hent (ow (.map s) (.ptr it 0) (.map d) (.bool true) k p) rfl;have hput':=hput _ _ rfl rfl;have hld:Hy ((M.new (j4 [x,y])).get M.nx) 0 2=some (.agg [x,y]):=by rw [Mem.N7 Mok,if_pos rfl,jS (by simp) (by simp)];rfl
 rw [ht,hxy] at hent';simp only [ow] at hent' hput' ⊢;simp [hent',hst,hput',hld,eu];have hq:q.2=(.str t,.agg [x,y]):=by rw [← ht,← hxy]
 rw [← hq];have Nok:(M.new (j4 [x,y])).Ok:=Mem.Ok.new Mok _;have hdn':d<(M.new (j4 [x,y])).nx:=by show d<M.nx+1;rw [Mn];exact Nat.lt_succ_of_lt hdn
 have gg:∀i,((M.new (j4 [x,y])).set d (Yl u (cur ++ [q.2]))).get i=if i=d then some (Yl u (cur ++ [q.2])) else if i=M.nx then some (j4 [x,y]) else if i=it then some (.iter (some s) es.length (q.1::seen)) else m.get i:=λi=>by rw [Mem.Z0 Nok hdn',Mem.N7 Mok,Mg]
 exact {
  ok:=Mem.Ok.set Nok hdn' _
  lim:=Ml
  dl:=h.dl
  dn:=h.dn
  ds:=h.ds
  sn:=h.sn
  itn:=h.itn
  mn:=by show m0.nx<M.nx+1;rw [Mn];exact Nat.lt_succ_of_lt h.mn
  gs:=by rw [gg,if_neg (aiA h.ds),if_neg (by rw [Mn];exact air hsn),if_neg hsi];exact h.gs
  gi:=by rw [gg,if_neg (aiA hdi),if_neg (by rw [Mn];exact air hit),if_pos rfl]
  gd:=by rw [gg,if_pos rfl]
  old:=λi hi hid=>by rw [gg,if_neg hid,if_neg (by rw [Mn];have:=h.mn;omega),if_neg (by rw [h.itn];omega)];exact h.old i hi hid
  new:=λi hi b' hb=>by
   rw [gg] at hb;split at hb;cases hb;cases u<;>rfl
   split at hb;cases hb;rfl;split at hb;cases hb;rfl;exact h.new i hi b' hb
  len:=by
   have:=h.len;have hl:=hp.length_eq;rw [abW] at hl;show M.nx+1 + _=_;rw [Mn];omega}
theorem Ym {m0:Mem}{d s it:Nat}{u:Bool}{es:List (j3×j3)}(hm0:m0.lim<=m0.nx)(h2:∀e∈es,∃a b,e.2=.agg [a,b]∧K5 a=true∧K5 b=true)(cf:F4)(fu:Nat){all:List (j3×j3)}
  (hk:(∀e∈all,∃t,e.1=.str t)∧(all.map (·.1)).Nodup):
  ∀(n:Nat) (m:Mem) (seen:List Nat) (cur:List (j3×j3)) (b k p:j3),QA m0 d s it u es m seen cur->(left seen es 0).length=n->all.Perm (cur++(left seen es 0).map (·.2))->∀N,n<N->
   ∃outs,I4 (λenv m k=>Az cf fu none env m k) N (ow (.map s) (.ptr it 0) (.map d) b k p) m []=some outs∧∀o∈outs,∃env m',o=⟨.exit 0,env,m',[],none⟩∧Vv m0 d u all es.length m':=by
 intro n;induction n with
 | zero=>intro m seen cur b k p h hl hp N hN;obtain⟨N,rfl⟩:∃N',N=N'+1:=⟨N-1,by omega⟩;have hnil:left seen es 0=[]:=abZ.1 hl;rw [w9];refine bR (MZ h hm0 h2 ⟨λe he=>hk.1 e (hp.symm.subset he),(hp.map _).nodup hk.2⟩ cf fu b k p) ?_;rintro o (⟨_,env,rfl⟩ | ⟨q,hq,_⟩);refine⟨_,rfl,λo ho=>?_⟩;obtain rfl:=J3.1 ho;refine⟨env,m,rfl,h.ok,h.lim,?_,⟨cur,h.gd,by rw [hnil] at hp;simpa using hp⟩,h.old,h.new⟩;have:=h.len;rw [hl] at this;exact this;rw [hnil] at hq;cases hq
 | succ n ih=>intro m seen cur b k p h hl hp N hN;obtain⟨N,rfl⟩:∃N',N=N'+1:=⟨N-1,by omega⟩;rw [w9];refine bR (MZ h hm0 h2 ⟨λe he=>hk.1 e (hp.symm.subset he),(hp.map _).nodup hk.2⟩ cf fu b k p) ?_;rintro o (⟨hnil,_⟩ | ⟨q,hq,m',b',k',p',rfl,h'⟩);rw [hnil] at hl;cases hl;rw [zq];have hpk:=qN hq;refine ih m' (q.1::seen) (cur ++ [q.2]) b' k' p' h' ?_ ?_ N (by omega);have:=hpk.length_eq;rw [hl,abW] at this;omega;refine hp.trans (((hpk.map _).append_left cur).trans ?_);rw [List.append_assoc];exact List.Perm.refl _
theorem xU (n:Nat)(m:Mem):(U5 n m).nx=m.nx+n∧(U5 n m).lim=m.lim:=by
 induction n generalizing m with
 | zero=>exact⟨rfl,rfl⟩
 | succ n ih=>have:U5 (n+1) m=U5 n (m.new .dead):=rfl;rw [this];obtain⟨h1,h2⟩:=ih (m.new .dead);exact⟨by rw [h1];show m.nx+1+n=_;omega,h2⟩
theorem AA (n:Nat){m:Mem}(hm:m.Ok):(U5 n m).Ok∧∀i,(U5 n m).get i=if m.nx<=i∧i<m.nx+n then some .dead else m.get i:=by
 induction n generalizing m with
 | zero=>exact⟨hm,λi=>by rw [if_neg (by omega)];rfl⟩
 | succ n ih=>have:U5 (n+1) m=U5 n (m.new .dead):=rfl;rw [this];obtain⟨h1,h2⟩:=ih (Mem.Ok.new hm .dead);refine⟨h1,λi=>?_⟩;rw [h2,Mem.N7 hm];show (if m.nx+1<=i∧i<m.nx+1+n then _ else if i=m.nx then some O9.dead else m.get i)=_;by_cases h:i=m.nx;rw [if_neg (by omega),if_pos h,if_pos (by omega)];by_cases h':m.nx+1<=i∧i<m.nx+1+n;rw [if_pos h',if_pos (by omega)];rw [if_neg h',if_neg h,if_neg (by omega)]
theorem Vx {P:Program}{K:Known}(hK:Vk P K){f:FuncId}(hf:K.fns f=some Vu)(he:∀args m,K.eff f args m=none){args:List j3}{m:Mem}{outs:List VM}(h:JX args m=some outs):
  Aj P f∧∀{ι:K4} {w:World},RM P K.base ι m w.heap->aS (m.nm ι) args->CallsIn Fence.wide 0 P f (y7 ι args).toArray w (P8 P K.base ι m w outs):=by
 obtain⟨d,s,rfl⟩:∃d s,args=[.map d,.map s]:=by unfold JX at h;split at h;exact⟨_,_,rfl⟩;cases h
 have h:bi (Nat.blt d m.lim) none (bi (Nat.beq d s) none (Od (m.get s) λes=>KQ (m.get d) λds=>bi (strKeys (aX ds es)) (bi (Yk es) (bi (Nat.blt (len' es) 100000) (one (.tuple []) ((U5 (Nat.succ (len' es)) m).set d (.mapU (aX ds es)))) none) none) none))=some outs:=h;obtain⟨c1,h⟩:=jI h;obtain⟨c2,h⟩:=jI h;obtain⟨es,c3,h⟩:=Ac h;obtain⟨ds,c4,h⟩:=Cn h;obtain⟨c5,h⟩:=D7 h;obtain⟨c6,h⟩:=D7 h;obtain⟨_,h⟩:=D7 h;cases h;rw [V5] at c5 ⊢;rw [I9];have hk:=zx c5;have h2:=Ib c6;have hds:d≠s:=λe=>by rw [e,ac0] at c2;cases c2
 have hdl:m.lim<=d:=ae7 λhh=>by rw [show Nat.blt d m.lim=true from Y8▸hh] at c1;cases c1
 obtain⟨u,hu⟩:∃u,m.get d=some (Yl u ds):=by rcases c4 with c4 | c4;exact⟨false,c4⟩;exact⟨true,c4⟩
 refine uV hK hf λhok hln=>?_;have hok:m.Ok:=hok;have hsn:=Mem.I8 hok c3;have hdn:=Mem.I8 hok hu;have g1:∀i,(m.new (.iter (some s) es.length [])).get i=if i=m.nx then some (.iter (some s) es.length []) else m.get i:=λi=>Mem.N7 hok _ i
 have inv:QA m d s m.nx u es (m.new (.iter (some s) es.length [])) [] ds:={
  ok:=Mem.Ok.new hok _
  lim:=rfl
  dl:=hdl
  dn:=hdn
  ds:=hds
  sn:=hsn
  itn:=rfl
  mn:=aiR _
  gs:=by rw [g1,if_neg (by omega)];exact c3
  gi:=by rw [g1,if_pos rfl]
  gd:=by rw [g1,if_neg (by omega)];exact hu
  old:=λi hi _=>by rw [g1,if_neg (by omega)]
  new:=λi hi b hb=>by rw [g1] at hb;split at hb;cases hb;rfl;have:=Mem.I8 hok hb;omega
  len:=by show m.nx+1 + _=_;rw [EI]}
 obtain⟨outs,ho1,ho2⟩:=Ym (all:=ds++es) hln h2 (o9 K (es.length+1) 0) (es.length+1) hk es.length _ [] ds .undef .undef .undef inv (EI es 0) (by rw [MV]) (es.length+1) (aiR _);have key:∃l,o9 K (es.length+1) 1 (.func f) [.map d,.map s] m=some l∧∀r∈l,∃m',r=⟨.tuple [],m'⟩∧Vv m d u (ds++es) es.length m':=by
  rw [dI];show ∃l,(Option.rec (ob (K.fns f) λsf=>bi sf.pure (iL K (o9 K (es.length+1) 0) (es.length+1) f sf [.map d,.map s] m) (lN (o9 K (es.length+1) 0) (pq K (o9 K (es.length+1) 0) (es.length+1)) (es.length+1) sf [.map d,.map s] m)) (λl=>some l) (K.eff f [.map d,.map s] m):bX)=some l∧_;rw [he,hf];show ∃l,bnd (j5 (j6 (AX (nM (I7 gH)) (sL sH) r9)) (F7 0 (U3 Az)) (o9 K (es.length+1) 0) (es.length+1) none (ow (.map s) .undef (.map d) .undef .undef .undef) m []) (leave _ [])=some l∧_;refine bR (g1:=λo:Out=>∃env m',o=⟨.normal,env,m',[],none⟩∧Vv m d u (ds++es) es.length m') ?_ ?_;rw [uS,zo,abo];have hr:nM (I7 gH) (o9 K (es.length+1) 0) [] (ow (.map s) .undef (.map d) .undef .undef .undef) m=some [⟨.ptr m.nx 0,m.new (.iter (some s) es.length [])⟩]:=by show Od (m.get s) _=_;rw [c3];show one _ (m.new (.iter (some s) (len' es) []))=_;rw [I9];rfl
  rw [hr];show ∃l,bnd (I4 (λenv m k=>Az (o9 K (es.length+1) 0) (es.length+1) none env m k) (es.length+1) (ow (.map s) (.ptr m.nx 0) (.map d) .undef .undef .undef) (m.new (.iter (some s) es.length [])) []) (Sr 0)=some l∧_;refine bR ⟨outs,ho1,ho2⟩ ?_;rintro o ⟨env,m',rfl,hm'⟩;exact⟨_,rfl,λr hr=>by
   obtain rfl:=J3.1 hr;exact⟨env,m',rfl,hm'⟩⟩
  rintro o ⟨env,m',rfl,hm'⟩;exact⟨_,rfl,λr hr=>by
   obtain rfl:=J3.1 hr;exact⟨m',rfl,hm'⟩⟩
 obtain⟨l,hl1,hl2⟩:=key;refine⟨_,_,l,hl1,λo ho=>?_⟩;obtain⟨m',rfl,hm'⟩:=hl2 o ho;refine⟨_,J3.2 rfl,rfl,?_⟩;obtain⟨d1,d2⟩:=xU (es.length+1) m;obtain⟨d3,d4⟩:=AA (es.length+1) hok;have hdn2:d<(U5 (es.length+1) m).nx:=by rw [d1];omega
 have gg:∀i,((U5 (es.length+1) m).set d (.mapU (ds++es))).get i=if i=d then some (.mapU (ds++es)) else if m.nx<=i∧i<m.nx+(es.length+1) then some .dead else m.get i:=λi=>by rw [Mem.Z0 d3 hdn2,d4]
 exact {
  nx:=by show (U5 (es.length+1) m).nx=m'.nx;rw [d1,hm'.nx];omega
  lim:=by show (U5 (es.length+1) m).lim=m'.lim;rw [d2,hm'.lim]
  ok:=Mem.Ok.set d3 hdn2 _
  old:=λi hi=>by rw [hm'.lim] at hi;rw [gg,if_neg (by omega),if_neg (by omega),hm'.old i (by omega) (by omega)]
  blk:=λi b hb=>by
   rw [gg] at hb;split at hb;rename_i hid;subst hid;cases hb;obtain⟨l',g1,g2⟩:=hm'.gd;refine⟨_,g1,.inr (.inr ⟨ds++es,l',?_,rfl,g2,hk.1,hk.2⟩)⟩;cases u;exact .inl rfl;exact .inr rfl;rename_i hid;split at hb;rename_i hr;cases hb;obtain⟨b1,g1⟩:=(hm'.ok.get i).2 (by rw [hm'.nx];omega);exact⟨b1,g1,.inr (.inl ⟨rfl,hm'.new i hr.1 b1 g1⟩)⟩;have:=Mem.I8 hok hb;exact⟨b,by rw [hm'.old i this hid];exact hb,.inl rfl⟩}
def bD:List (j3×j3):=au.map λe=>(.int .i64 e.2.2.2,.str e.2.2.1)
def SH (tok:Option (Int×List UInt8))(e:Int×Int×List UInt8×Int):Bool:=match tok with
 | some (k,s)=>decide (e.2.1=k)&&(e.2.2.1==s)
 | none=>false
def iI (lv:Int)(tok:Option (Int×List UInt8))(e:Int×Int×List UInt8×Int):Bool:=decide (e.1=lv)&&SH tok e
def AB (fl fa:Nat):SC:=j5 (j6 (D5 (AV (I7 gH)) (K8 (pExt G6 0) (sL sH) r9))) (j5 (A9 (I7 (gL gH)) D9 (mg 0)) (F7 1 (j5 (j6 (F6 (qZ (I7 gH)) (o7 (pExt G6 0) (o7 (pExt bV 1) (K8 (Q5 bV) (sR sH) (K8 (Q5 bV) (sL (sR sH)) r9))))))
 (j5 (j6 (D5 (D6 fl [(I7 (gR gH))]) (o7 (V9 jW jX G6 (I7 (gL (gL gH)))) (o7 (gP G6 true (Q5 (I7 (gR (gL gH))))) (o7 (gP bV true (Q5 (I7 (gL (gR gH))))) (D5 (gE dw true (D6 fa [bV,G6])) (K8 (dZ lK G6 (D8 (.bool false))) (sR (sR sH)) r9)))))))
  (A9 (I7 (gR (gR gH))) (j5 (j6 (o7 (cB (I7 (gR (gL gH)))) (o7 (G9 0 G6) (F6 (qg G6) (bN (ZW 2 G6 (some (D8 (.int .i64 (.ofNat 1)))) none) (o7 (cB (I7 (gR (gL gH)))) (o7 (G9 0 G6) (D5 (I6 1 G6 dw) r9))))))))
   (j5 (j6 (K8 (Q5 (I7 (gR gH))) (sL (sL (sL sH))) r9)) F3)) D9)))))
def Ka (fs fl fa:Nat):aT:=⟨false,[(some 4),(some 3)],8,[.tmp 7],(j5 (j6 (K8 (Q5 (D8 (.int .i64 (.ofNat 0)))) (sL (sL (sL sH))) r9)) (j5 (j5 (j6 (D5 (D6 fs []) (AX (nM G6) sH r9))) (F7 0 (U3 (AB fl fa))))
 (j5 (j6 (K8 (Q5 (D8 (.int .i64 (.ofNat 0)))) (sL (sL (sL sH))) r9)) F3))),none⟩
def dR (it b kd lv r sg cd res:j3):T j3:=.nd (.nd (.nd (.nd .e res .e) lv .e) b (.nd .e sg .e)) it (.nd (.nd .e r .e) kd (.nd .e cd .e))
structure uX (m0 m:Mem)(seen:List Nat):Prop where
 ok:m.Ok
 lim:m.lim=m0.lim
 ll:m0.lim<=m0.nx
 mn:m.nx=m0.nx+2
 gs:m.get m0.nx=some (.map bD)
 gi:m.get (m0.nx+1)=some (.iter (some m0.nx) bD.length seen)
 old:∀i,i<m0.nx->m.get i=m0.get i
theorem Yn {j:Nat}{x:j3×j3}(h:bD[j]?=some x):∃e∈au,au[j]?=some e∧x=(.int .i64 e.2.2.2,.str e.2.2.1):=by unfold bD at h;rw [abY] at h;obtain⟨e,h1,h2⟩:=ac4.1 h;exact⟨e,Y5 h1,h1,h2.symm⟩
theorem Na {m0 m:Mem}{seen:List Nat}(h:uX m0 m seen){r off fl fa:Nat}{lv:Int}{tok:Option (Int×List UInt8)}{cf:F4}{v v':j3}{p:Option O9}{B:O9}
  (Hl:∀e∈au,∀M,cf (.func fl) [.int .i64 e.2.2.2] M=some [⟨.int .i64 e.1,M⟩])
  (Ha:∀e∈au,∀M:Mem,(∀i,i<m0.nx->M.get i=m0.get i)->cf (.func fa) [.ptr r off,.str e.2.2.1] M=some [⟨.bool (SH tok e),M⟩])
  (hld:ld1 (m0.get r) off=some v) (hr:r<m0.nx)
  (hsl:∀e∈au,iI lv tok e=true->L9 (m0.nx+2) 2 v 1 none=some (v',p)∧K5 v'=true∧v'.cells=[v']∧FD (m0.get r) off [v']=some B∧m0.lim<=r) (fu:Nat) (b kd sg cd res:j3):
  ∃outs,AB fl fa cf fu none (dR (.ptr (m0.nx+1) 0) b kd (.int .i64 lv) (.ptr r off) sg cd res) m []=some outs∧∀o∈outs,
   (left seen bD 0=[]∧∃env,o=⟨.exit 0,dR (.ptr (m0.nx+1) 0) (.bool false) kd (.int .i64 lv) (.ptr r off) sg cd res,m,[],none⟩∧env=())∨
   ∃q∈left seen bD 0,∃e∈au,au[q.1]?=some e∧∃M,uX m0 M (q.1::seen)∧
    ((iI lv tok e=false∧∃b' kd' sg' cd',o=⟨.normal,dR (.ptr (m0.nx+1) 0) b' kd' (.int .i64 lv) (.ptr r off) sg' cd' res,M,[],none⟩)∨
     (iI lv tok e=true∧∃b' kd' sg' cd',o=⟨.ret,dR (.ptr (m0.nx+1) 0) b' kd' (.int .i64 lv) (.ptr r off) sg' cd' (.int .i64 e.2.2.2),(bM M p).set r B,[],none⟩)):=by
 unfold AB;rw [uS,zo];refine bR (g1:=λo:Out=>(left seen bD 0=[]∧o=⟨.normal,dR (.ptr (m0.nx+1) 0) (.bool false) kd (.int .i64 lv) (.ptr r off) sg cd res,m,[],none⟩)∨
  ∃q∈left seen bD 0,o=⟨.normal,dR (.ptr (m0.nx+1) 0) (.bool true) kd (.int .i64 lv) (.ptr r off) sg cd res,m.set (m0.nx+1) (.iter (some m0.nx) bD.length (q.1::seen)),[],none⟩) ?_ ?_
 refine bR (g1:=λe:EM=>(left seen bD 0=[]∧e=⟨dR (.ptr (m0.nx+1) 0) (.bool false) kd (.int .i64 lv) (.ptr r off) sg cd res,m,none,[]⟩)∨
  ∃q∈left seen bD 0,e=⟨dR (.ptr (m0.nx+1) 0) (.bool true) kd (.int .i64 lv) (.ptr r off) sg cd res,m.set (m0.nx+1) (.iter (some m0.nx) bD.length (q.1::seen)),none,[]⟩) ?_ ?_
 rw [JN];refine bR (MW (it:=I7 gH) (env:=dR (.ptr (m0.nx+1) 0) b kd (.int .i64 lv) (.ptr r off) sg cd res) rfl (by rw [h.lim];have:=h.ll;omega) h.gi h.gs) ?_;rintro r (⟨h1,rfl⟩ | ⟨q,h1,rfl⟩);exact⟨_,rfl,λo ho=>.inl ⟨h1,J3.1 ho⟩⟩;exact⟨_,rfl,λo ho=>.inr ⟨q,h1,J3.1 ho⟩⟩;rintro e (⟨h1,rfl⟩ | ⟨q,h1,rfl⟩);exact⟨_,rfl,λo ho=>.inl ⟨h1,J3.1 ho⟩⟩;exact⟨_,rfl,λo ho=>.inr ⟨q,h1,J3.1 ho⟩⟩;rintro o (⟨h1,rfl⟩ | ⟨q,h1,rfl⟩);exact⟨_,rfl,λo ho=>.inl ⟨h1,(),J3.1 ho,rfl⟩⟩;obtain⟨_,hq2,hq3⟩:=uW h1;rw [aiO] at hq2;obtain⟨e,he,hej,heq⟩:=Yn hq2;have hit:m0.nx+1<m.nx:=by rw [h.mn];omega
 generalize hM:m.set (m0.nx+1) (.iter (some m0.nx) bD.length (q.1::seen))=M;have Mg:∀i,M.get i=if i=m0.nx+1 then some (.iter (some m0.nx) bD.length (q.1::seen)) else m.get i:=λi=>by rw [← hM,Mem.Z0 h.ok hit]
 have inv:uX m0 M (q.1::seen):={
  ok:=by rw [← hM];exact Mem.Ok.set h.ok hit _
  lim:=by rw [← hM];exact h.lim
  ll:=h.ll
  mn:=by rw [← hM];exact h.mn
  gs:=by rw [Mg,if_neg (by omega)];exact h.gs
  gi:=by rw [Mg,if_pos rfl]
  old:=λi hi=>by rw [Mg,if_neg (by omega)];exact h.old i hi}
 have hent:∀(env:T j3),gH env=.ptr (m0.nx+1) 0->qZ (I7 gH) [] env M=some (.tuple [q.2.1,q.2.2]):=λenv he=>Ia (it:=I7 gH) he inv.gi inv.gs hq2;rw [heq] at hent;have hent':=hent (dR (.ptr (m0.nx+1) 0) (.bool true) kd (.int .i64 lv) (.ptr r off) sg cd res) rfl;have hl:=Hl e he M;have ha:=Ha e he M inv.old;have hMr:M.get r=m0.get r:=inv.old r hr;cases hlv:decide (e.1=lv) with
 | false=>refine⟨[⟨.normal,dR (.ptr (m0.nx+1) 0) (.bool true) (.int .i64 e.2.2.2) (.int .i64 lv) (.ptr r off) (.str e.2.2.1) (.bool false) res,M,[],none⟩],?_,λo ho=>.inr ⟨q,h1,e,he,hej,M,inv,.inl ⟨by simp [iI,hlv],_,_,_,_,J3.1 ho⟩⟩⟩;simp only [dR] at hent' ⊢;simp [hent',D6,hl,ha,hlv]
 | true=>
  cases hat:SH tok e with
  | false=>refine⟨[⟨.normal,dR (.ptr (m0.nx+1) 0) (.bool true) (.int .i64 e.2.2.2) (.int .i64 lv) (.ptr r off) (.str e.2.2.1) (.bool false) res,M,[],none⟩],?_,λo ho=>.inr ⟨q,h1,e,he,hej,M,inv,.inl ⟨by simp [iI,hlv,hat],_,_,_,_,J3.1 ho⟩⟩⟩;rw [hat] at ha;simp only [dR] at hent' ⊢;simp [hent',D6,hl,ha,hlv]
  | true=>
   obtain⟨s1,s2,s3,s4,hrl⟩:=hsl e he (by simp [iI,hlv,hat]);refine⟨[⟨.ret,dR (.ptr (m0.nx+1) 0) (.bool true) (.int .i64 e.2.2.2) (.int .i64 lv) (.ptr r off) (.str e.2.2.1) (.bool true) (.int .i64 e.2.2.2),(bM M p).set r B,[],none⟩],?_,λo ho=>.inr ⟨q,h1,e,he,hej,M,inv,.inr ⟨by simp [iI,hlv,hat],_,_,_,_,J3.1 ho⟩⟩⟩;rw [hat] at ha;simp only [dR] at hent' ⊢;have hMn:M.nx=m0.nx+2:=inv.mn;have hsl':∀(env:T j3) (ls:List j3),ZW 2 G6 (some (D8 (.int .i64 1))) none (v::ls) env M.nx=some (v',p):=λenv ls=>by rw [hMn];exact s1
   have hg:(bM M p).get r=m0.get r:=by
    cases p with
    | none=>exact hMr
    | some x=>show (M.new x).get r=_;rw [Mem.N7 inv.ok,if_neg (by rw [hMn];omega)];exact hMr
   have hnl:(bM M p).lim<=r:=by
    cases p with
    | none=>show M.lim<=r;rw [inv.lim];exact hrl
    | some x=>show M.lim<=r;rw [inv.lim];exact hrl
   have hst:∀(env:T j3) (ls:List j3) (c1:j3),I6 1 G6 dw cf (.ptr r off::c1::v'::ls) env (bM M p)=some [⟨.undef,(bM M p).set r B⟩]:=λenv ls c1=>by show bi (Nat.beq (len' v'.cells) 1) (storeAt (bM M p) r off v'.cells _) none=_;rw [s3];show storeAt (bM M p) r off [v'] _=_;rw [kU hnl (by show bi (K5 v') true false=true;rw [s2];rfl),hg,s4];rfl
   simp [hent',D6,hl,ha,hlv,hMr,hld,hsl',hst]
theorem Nb {seen:List Nat}:∀{es:List (j3×j3)} {i:Nat},left seen es i=[]->∀j,i<=j->j<i+es.length->rz j seen=true
 | [],i,_,j,h1,h2=>by simp at h2;omega
 | e::es,i,h,j,h1,h2=>by simp only [left] at h;split at h;rename_i hs;by_cases hj:j=i;rw [hj];exact hs;exact Nb h j (by omega) (by simp at h2;omega);cases h
theorem Yo {m0:Mem}{r off fl fa:Nat}{lv:Int}{tok:Option (Int×List UInt8)}{cf:F4}{v v':j3}{p:Option O9}{B:O9}
  (Hl:∀e∈au,∀M,cf (.func fl) [.int .i64 e.2.2.2] M=some [⟨.int .i64 e.1,M⟩])
  (Ha:∀e∈au,∀M:Mem,(∀i,i<m0.nx->M.get i=m0.get i)->cf (.func fa) [.ptr r off,.str e.2.2.1] M=some [⟨.bool (SH tok e),M⟩])
  (hld:ld1 (m0.get r) off=some v) (hr:r<m0.nx)
  (hsl:∀e∈au,iI lv tok e=true->L9 (m0.nx+2) 2 v 1 none=some (v',p)∧K5 v'=true∧v'.cells=[v']∧FD (m0.get r) off [v']=some B∧m0.lim<=r) (fu:Nat) (res:j3):
  ∀(n:Nat) (m:Mem) (seen:List Nat) (b kd sg cd:j3),uX m0 m seen->(left seen bD 0).length=n->(∀j e,rz j seen=true->au[j]?=some e->iI lv tok e=false)->∀N,n<N->
   ∃outs,I4 (λenv m k=>AB fl fa cf fu none env m k) N (dR (.ptr (m0.nx+1) 0) b kd (.int .i64 lv) (.ptr r off) sg cd res) m []=some outs∧∀o∈outs,
    ((∀e∈au,iI lv tok e=false)∧∃b' kd' sg' cd' M seen',uX m0 M seen'∧o=⟨.exit 0,dR (.ptr (m0.nx+1) 0) b' kd' (.int .i64 lv) (.ptr r off) sg' cd' res,M,[],none⟩)∨
    ∃e∈au,iI lv tok e=true∧∃b' kd' sg' cd' M seen',uX m0 M seen'∧o=⟨.ret,dR (.ptr (m0.nx+1) 0) b' kd' (.int .i64 lv) (.ptr r off) sg' cd' (.int .i64 e.2.2.2),(bM M p).set r B,[],none⟩:=by
 intro n;induction n with
 | zero=>intro m seen b kd sg cd h hl hs N hN;obtain⟨N,rfl⟩:∃N',N=N'+1:=⟨N-1,by omega⟩;have hnil:left seen bD 0=[]:=abZ.1 hl;rw [w9];refine bR (Na h Hl Ha hld hr hsl fu b kd sg cd res) ?_;rintro o (⟨_,_,rfl,_⟩ | ⟨q,hq,_⟩);refine⟨_,rfl,λo ho=>.inl ⟨λe he=>?_,_,_,_,_,m,seen,h,J3.1 ho⟩⟩;obtain⟨j,hj⟩:=aaS he;refine hs j e (Nb hnil j (by omega) ?_) hj;have:=(J5.1 hj).1;simp [bD];omega;rw [hnil] at hq;cases hq
 | succ n ih=>intro m seen b kd sg cd h hl hs N hN;obtain⟨N,rfl⟩:∃N',N=N'+1:=⟨N-1,by omega⟩;rw [w9];refine bR (Na h Hl Ha hld hr hsl fu b kd sg cd res) ?_;rintro o (⟨hnil,_⟩ | ⟨q,hq,e,he,hej,M,inv,⟨hh,b',kd',sg',cd',rfl⟩ | ⟨hh,b',kd',sg',cd',rfl⟩⟩);rw [hnil] at hl;cases hl;rw [zq];refine ih M (q.1::seen) b' kd' sg' cd' inv ?_ (λj e' hj he'=>?_) N (by omega);have:=(qN hq).length_eq;rw [hl,abW] at this;omega;by_cases hjq:q.1=j;rw [← hjq,hej] at he';cases he';exact hh;rw [Cu hjq] at hj;exact hs j e' hj he';exact⟨_,rfl,λo ho=>.inr ⟨e,he,hh,b',kd',sg',cd',M,_,inv,J3.1 ho⟩⟩
def EK (M:Mem)(r off:Nat)(tok:Option (Int×List UInt8)):Prop:=∃v,ld1 (M.get r) off=some v∧
 ((tok=none∧(v=.nilSlice∨(∃id o c,v=.slice id o 0 c)∨∃id o es,v=.sliceU id o 0 es))∨∃k s id o len,((∃c,v=.slice id o (len+1) c)∨∃es,v=.sliceU id o (len+1) es)∧Hy (M.get id) o 2=some (.agg [.int .i64 k,.str s])∧tok=some (k,s))
theorem EL {lv k:Int}{s:List UInt8}:∀(l:List (Int×Int×List UInt8×Int)),(∀e∈l,∀e'∈l,e.2.2.1=e'.2.2.1->e=e')->
  match (List.rec none (λe _ ih=>bi (aV e.1 lv) (bi (aV e.2.1 k) (bi (strEq e.2.2.1 s) (some e.2.2.2) ih) ih) ih) l:Option Int) with
  | none=>∀e∈l,iI lv (some (k,s)) e=false
  | some kd=>(∃e∈l,iI lv (some (k,s)) e=true)∧∀e∈l,iI lv (some (k,s)) e=true->e.2.2.2=kd
 | [],_=>λe he=>by cases he
 | e::l,hu=>by
  have ih:=EL (lv:=lv) (k:=k) (s:=s) l λa ha b hb=>hu a (Z9 _ ha) b (Z9 _ hb);have hb:iI lv (some (k,s)) e=(aV e.1 lv&&(aV e.2.1 k&&strEq e.2.2.1 s)):=by rw [fF,fF,gT];rfl
  have h0:(List.rec none (λe _ ih=>bi (aV e.1 lv) (bi (aV e.2.1 k) (bi (strEq e.2.2.1 s) (some e.2.2.2) ih) ih) ih) (e::l):Option Int) =
    bi (iI lv (some (k,s)) e) (some e.2.2.2) (List.rec none (λe _ ih=>bi (aV e.1 lv) (bi (aV e.2.1 k) (bi (strEq e.2.2.1 s) (some e.2.2.2) ih) ih) ih) l):=by
   rw [hb];show bi (aV e.1 lv) (bi (aV e.2.1 k) (bi (strEq e.2.2.1 s) _ _) _) _=_;cases aV e.1 lv<;>cases aV e.2.1 k<;>cases strEq e.2.2.1 s<;>rfl
  rw [h0];cases hh:iI lv (some (k,s)) e with
  | true=>
   refine⟨⟨e,ad3 ..,hh⟩,λe' he' h'=>?_⟩;have ht:∀x:Int×Int×List UInt8×Int,iI lv (some (k,s)) x=true->x.2.2.1=s:=λx hx=>by simp only [iI,SH,U9] at hx;simpa using hx.2.2
   rw [hu e' he' e (ad3 ..) (by rw [ht e' h',ht e hh])]
  | false=>
   show match (List.rec none _ l:Option Int) with
    | none=>_
    | some kd=>_
   revert ih;cases (List.rec none (λe _ ih=>bi (aV e.1 lv) (bi (aV e.2.1 k) (bi (strEq e.2.2.1 s) (some e.2.2.2) ih) ih) ih) l:Option Int) with
   | none=>intro ih e' he';rcases Z7.1 he' with rfl | he';exact hh;exact ih e' he'
   | some kd=>rintro⟨⟨x,hx1,hx2⟩,h2⟩;refine⟨⟨x,Z9 _ hx1,hx2⟩,λe' he' h'=>?_⟩;rcases Z7.1 he' with rfl | he';rw [hh] at h';cases h';exact h2 e' he' h'
theorem Nc (lv k:Int)(s:List UInt8):match ou lv k s with
  | none=>∀e∈au,iI lv (some (k,s)) e=false
  | some kd=>(∃e∈au,iI lv (some (k,s)) e=true)∧∀e∈au,iI lv (some (k,s)) e=true->e.2.2.2=kd:=EL au (by decide)
theorem Nf {K:Known}{f fs fl fa:Nat}(hf:K.fns f=some (Ka fs fl fa))(he:∀args m,K.eff f args m=none){N n:Nat}(hN:14<=N)
  (Hs:∀m:Mem,m.Ok->m.lim<=m.nx->o9 K N n (.func fs) [] m=some [⟨.map m.nx,m.new (.map bD)⟩])
  (Hl:∀e∈au,∀M,o9 K N n (.func fl) [.int .i64 e.2.2.2] M=some [⟨.int .i64 e.1,M⟩])
  (Ha:∀tok r off M,EK M r off tok->∀e∈au,o9 K N n (.func fa) [.ptr r off,.str e.2.2.1] M=some [⟨.bool (SH tok e),M⟩])
  {m:Mem} (hok:m.Ok) (hln:m.lim<=m.nx) {r off:Nat} {lv:Int} {tok:Option (Int×List UInt8)} {v v':j3} {p:Option O9} {B:O9} (hr:r<m.nx) (ht:EK m r off tok) (hld:ld1 (m.get r) off=some v)
  (hsl:∀e∈au,iI lv tok e=true->L9 (m.nx+2) 2 v 1 none=some (v',p)∧K5 v'=true∧v'.cells=[v']∧FD (m.get r) off [v']=some B∧m.lim<=r):
  ∃l,o9 K N (n+1) (.func f) [.ptr r off,.int .i64 lv] m=some l∧∀o∈l,∃M seen,uX m M seen∧
   (((∀e∈au,iI lv tok e=false)∧o=⟨.int .i64 0,M⟩)∨∃e∈au,iI lv tok e=true∧o=⟨.int .i64 e.2.2.2,(bM M p).set r B⟩):=by
 have Ha':∀e∈au,∀M:Mem,(∀i,i<m.nx->M.get i=m.get i)->o9 K N n (.func fa) [.ptr r off,.str e.2.2.1] M=some [⟨.bool (SH tok e),M⟩]:=λe hm M hM=>by refine Ha tok r off M ?_ e hm;obtain⟨w,h1,h2⟩:=ht;refine⟨w,by rw [hM r hr];exact h1,?_⟩;rcases h2 with h2 | ⟨k,s,id,o,len,h3,h4,h5⟩;exact .inl h2;obtain⟨_,_,_,hb,_⟩:=cZ h4;have hid:=Mem.I8 hok hb;exact .inr ⟨k,s,id,o,len,h3,by rw [hM id hid];exact h4,h5⟩
 generalize hm2:(m.new (.map bD)).new (.iter (some m.nx) bD.length [])=mI;have ok1:=Mem.Ok.new hok (.map bD);have gI:∀i,mI.get i=if i=m.nx+1 then some (.iter (some m.nx) bD.length []) else if i=m.nx then some (.map bD) else m.get i:=λi=>by rw [← hm2,Mem.N7 ok1,Mem.N7 hok];rfl
 have inv:uX m mI []:={
  ok:=by rw [← hm2];exact Mem.Ok.new ok1 _
  lim:=by rw [← hm2];rfl
  ll:=hln
  mn:=by rw [← hm2];rfl
  gs:=by rw [gI,if_neg (by omega),if_pos rfl]
  gi:=by rw [gI,if_pos rfl]
  old:=λi hi=>by rw [gI,if_neg (by omega),if_neg (by omega)]}
 have hlen:bD.length=13:=by decide
 obtain⟨outs,ho1,ho2⟩:=Yo (fu:=N) Hl Ha' hld hr hsl (.int .i64 0) 13 mI [] .undef .undef .undef .undef inv (by rw [EI,hlen]) (λj e hj=>by cases hj) N (by omega);rw [dI];show ∃l,(Option.rec (ob (K.fns f) λsf=>bi sf.pure (iL K (o9 K N n) N f sf [.ptr r off,.int .i64 lv] m) (lN (o9 K N n) (pq K (o9 K N n) N) N sf [.ptr r off,.int .i64 lv] m)) (λl=>some l) (K.eff f [.ptr r off,.int .i64 lv] m):bX)=some l∧_;rw [he,hf];show ∃l,bnd (j5 (j5 (j6 (D5 (D6 fs []) (AX (nM G6) sH r9))) (F7 0 (U3 (AB fl fa)))) (j5 (j6 (K8 (Q5 (D8 (.int .i64 (.ofNat 0)))) (sL (sL (sL sH))) r9)) F3) (o9 K N n) N none
  (dR .undef .undef .undef (.int .i64 lv) (.ptr r off) .undef .undef (.int .i64 0)) m []) (leave _ [.tmp 7])=some l∧_
 refine bR (g1:=λo:Out=>∃b' kd' sg' cd' M seen',uX m M seen'∧(((∀e∈au,iI lv tok e=false)∧o=⟨.ret,dR (.ptr (m.nx+1) 0) b' kd' (.int .i64 lv) (.ptr r off) sg' cd' (.int .i64 0),M,[],none⟩)∨
  ∃e∈au,iI lv tok e=true∧o=⟨.ret,dR (.ptr (m.nx+1) 0) b' kd' (.int .i64 lv) (.ptr r off) sg' cd' (.int .i64 e.2.2.2),(bM M p).set r B,[],none⟩)) ?_ ?_
 rw [uS];refine bR (g1:=λo:Out=>∃b' kd' sg' cd' M seen',uX m M seen'∧(((∀e∈au,iI lv tok e=false)∧o=⟨.normal,dR (.ptr (m.nx+1) 0) b' kd' (.int .i64 lv) (.ptr r off) sg' cd' (.int .i64 0),M,[],none⟩)∨
  ∃e∈au,iI lv tok e=true∧o=⟨.ret,dR (.ptr (m.nx+1) 0) b' kd' (.int .i64 lv) (.ptr r off) sg' cd' (.int .i64 e.2.2.2),(bM M p).set r B,[],none⟩)) ?_ ?_
 rw [uS,zo,JN];have hcall:D6 fs [] (o9 K N n) [] (dR .undef .undef .undef (.int .i64 lv) (.ptr r off) .undef .undef (.int .i64 0)) m=some [⟨.map m.nx,m.new (.map bD)⟩]:=Hs m hok hln;rw [hcall];have hr2:nM G6 (o9 K N n) [.map m.nx] (dR .undef .undef .undef (.int .i64 lv) (.ptr r off) .undef .undef (.int .i64 0)) (m.new (.map bD))=some [⟨.ptr (m.nx+1) 0,mI⟩]:=by show Od ((m.new (.map bD)).get m.nx) _=_;rw [Mem.N7 hok,if_pos rfl];show one _ ((m.new (.map bD)).new (.iter (some m.nx) (len' bD) []))=_;rw [I9,hm2];rfl
 show ∃l,bnd (bnd (bnd (nM G6 (o9 K N n) [.map m.nx] (dR .undef .undef .undef (.int .i64 lv) (.ptr r off) .undef .undef (.int .i64 0)) (m.new (.map bD))) _) (gM [])) _=some l∧_;rw [hr2];show ∃l,bnd (I4 (λenv m k=>AB fl fa (o9 K N n) N none env m k) N (dR (.ptr (m.nx+1) 0) .undef .undef (.int .i64 lv) (.ptr r off) .undef .undef (.int .i64 0)) mI []) (Sr 0)=some l∧_;refine bR ⟨outs,ho1,ho2⟩ ?_;rintro o (⟨h1,b',kd',sg',cd',M,seen',hi,rfl⟩ | ⟨e,h1,h2,b',kd',sg',cd',M,seen',hi,rfl⟩);exact⟨_,rfl,λo ho=>⟨b',kd',sg',cd',M,seen',hi,.inl ⟨h1,J3.1 ho⟩⟩⟩;exact⟨_,rfl,λo ho=>⟨b',kd',sg',cd',M,seen',hi,.inr ⟨e,h1,h2,J3.1 ho⟩⟩⟩;rintro o ⟨b',kd',sg',cd',M,seen',hi,⟨h1,rfl⟩ | ⟨e,h1,h2,rfl⟩⟩;exact⟨_,rfl,λo ho=>⟨b',kd',sg',cd',M,seen',hi,.inl ⟨h1,J3.1 ho⟩⟩⟩;exact⟨_,rfl,λo ho=>⟨b',kd',sg',cd',M,seen',hi,.inr ⟨e,h1,h2,J3.1 ho⟩⟩⟩;rintro o ⟨b',kd',sg',cd',M,seen',hi,⟨h1,rfl⟩ | ⟨e,h1,h2,rfl⟩⟩;exact⟨_,rfl,λo ho=>⟨M,seen',hi,.inl ⟨h1,J3.1 ho⟩⟩⟩;exact⟨_,rfl,λo ho=>⟨M,seen',hi,.inr ⟨e,h1,h2,J3.1 ho⟩⟩⟩
theorem QB {m M:Mem}{seen:List Nat}(hok:m.Ok)(h:uX m M seen):Weak M (U5 2 m):=by
 obtain⟨d1,d2⟩:=xU 2 m;obtain⟨d3,d4⟩:=AA 2 hok;exact {
  nx:=by rw [d1,h.mn]
  lim:=by rw [d2,h.lim]
  ok:=d3
  old:=λi hi=>by rw [h.lim] at hi;have:=h.ll;rw [d4,if_neg (by omega),h.old i (by omega)]
  blk:=λi b hb=>by
   rw [d4] at hb;split at hb;rename_i hr;cases hb;by_cases hi:i=m.nx;rw [hi];exact⟨_,h.gs,.inr (.inl ⟨rfl,rfl⟩)⟩;rw [show i=m.nx+1 from by omega];exact⟨_,h.gi,.inr (.inl ⟨rfl,rfl⟩)⟩;have:=Mem.I8 hok hb;exact⟨b,by rw [h.old i this];exact hb,.inl rfl⟩}
theorem Weak.bM {m1 m2:Mem}(h:Weak m1 m2)(hok:m1.Ok)(p:Option O9):Weak (bM m1 p) (bM m2 p):=by
 cases p with
 | none=>exact h
 | some x=>
  have ok2:m2.Ok:=h.ok;exact {
   nx:=congrArg Nat.succ h.nx
   lim:=h.lim
   ok:=Mem.Ok.new ok2 x
   old:=λi hi=>by have hi:i<m1.lim:=hi;show (m2.new x).get i=(m1.new x).get i;rw [Mem.N7 ok2,Mem.N7 hok,h.nx,h.old i hi]
   blk:=λi b hb=>by
    have hb:(m2.new x).get i=some b:=hb;show ∃b1,(m1.new x).get i=some b1∧_;rw [Mem.N7 ok2,h.nx] at hb;rw [Mem.N7 hok];split at hb;rename_i hi;rw [if_pos hi];exact⟨b,hb,.inl rfl⟩;rename_i hi;rw [if_neg hi];exact h.blk i b hb}
theorem Weak.set {m1 m2:Mem}(h:Weak m1 m2)(hok:m1.Ok){r:Nat}(hr:r<m1.nx)(hl:m1.lim<=r)(B:O9):Weak (m1.set r B) (m2.set r B):=by
 have ok2:m2.Ok:=h.ok;have hr2:r<m2.nx:=by rw [h.nx];exact hr
 exact {
  nx:=h.nx
  lim:=h.lim
  ok:=Mem.Ok.set ok2 hr2 B
  old:=λi hi=>by have hi:i<m1.lim:=hi;rw [Mem.Z0 ok2 hr2,Mem.Z0 hok hr,h.old i hi]
  blk:=λi b hb=>by
   rw [Mem.Z0 ok2 hr2] at hb;rw [Mem.Z0 hok hr];split at hb;rename_i hi;rw [if_pos hi];exact⟨b,hb,.inl rfl⟩;rename_i hi;rw [if_neg hi];exact h.blk i b hb}
theorem Vy {m:Mem}(hok:m.Ok)(p:Option O9){i:Nat}(hi:i<m.nx):(bM m p).get i=m.get i:=by
 cases p with
 | none=>rfl
 | some x=>show (m.new x).get i=_;rw [Mem.N7 hok,if_neg (by omega)]
theorem Ic (m:Mem)(p:Option O9):m.nx<=(bM m p).nx∧(bM m p).lim=m.lim:=by
 cases p with
 | none=>exact⟨J2 _,rfl⟩
 | some x=>exact⟨aiB _,rfl⟩
theorem Yp {m:Mem}(hok:m.Ok)(p:Option O9):(bM m p).Ok:=by
 cases p with
 | none=>exact hok
 | some x=>exact Mem.Ok.new hok x
theorem Vz {P:Program}{K:Known}(hK:Vk P K){f fs fl fa:Nat}(hf:K.fns f=some (Ka fs fl fa))(he:∀args m,K.eff f args m=none){N n:Nat}(hN:14<=N)
  (Hs:∀m:Mem,m.Ok->m.lim<=m.nx->o9 K N n (.func fs) [] m=some [⟨.map m.nx,m.new (.map bD)⟩])
  (Hl:∀e∈au,∀M,o9 K N n (.func fl) [.int .i64 e.2.2.2] M=some [⟨.int .i64 e.1,M⟩])
  (Ha:∀tok r off M,EK M r off tok->∀e∈au,o9 K N n (.func fa) [.ptr r off,.str e.2.2.1] M=some [⟨.bool (SH tok e),M⟩])
  {args:List j3} {m:Mem} {outs:List VM} (h:bB args m=some outs):
  Aj P f∧∀{ι:K4} {w:World},RM P K.base ι m w.heap->aS (m.nm ι) args->CallsIn Fence.wide 0 P f (y7 ι args).toArray w (P8 P K.base ι m w outs):=by
 obtain⟨r,off,lv,rfl⟩:∃r off lv,args=[.ptr r off,.int .i64 lv]:=by unfold bB at h;split at h;exact⟨_,_,_,rfl⟩;cases h
 have h:(Q9 (m.get r) λrs n rows=>ob (cell1 rs n rows off) λv=>ob (lenOf v) λlen=>
   (Nat.rec (jV v (one (.int .i64 0) (U5 2 m)) (λ_ _ _ _=>one (.int .i64 0) (U5 2 m)) (λ_ _ _ _=>one (.int .i64 0) (U5 2 m))) (λ_ _=>jV v none (λid o _ _=>bB.tok m id o v r off lv) (λid o _ _=>bB.tok m id o v r off lv)) len:bX))=some outs:=h
 obtain⟨rs,nn,rows,hg,h⟩:=cZ h;obtain⟨v,hv,h⟩:=C8 h;obtain⟨len,hlen,h⟩:=C8 h;have hld:ld1 (m.get r) off=some v:=by rw [hg];exact hv
 have none_case:∀tok,EK m r off tok->(∀e∈au,iI lv tok e=false)->outs=[⟨.int .i64 0,U5 2 m⟩]->Aj P f∧∀{ι:K4} {w:World},RM P K.base ι m w.heap->aS (m.nm ι) [.ptr r off,.int .i64 lv]->CallsIn Fence.wide 0 P f (y7 ι [.ptr r off,.int .i64 lv]).toArray w (P8 P K.base ι m w outs):=by intro tok ht hno ho;refine uV hK hf λhok hln=>?_;have hok:m.Ok:=hok;obtain⟨l,hl1,hl2⟩:=Nf (v':=.undef) (p:=none) (B:=.void) hf he hN Hs Hl Ha hok hln (Mem.I8 hok hg) ht hld (lv:=lv) (λe hm hh=>by rw [hno e hm] at hh;cases hh);refine⟨N,n+1,l,hl1,λo ho'=>?_⟩;obtain⟨M,seen,inv,⟨_,rfl⟩ | ⟨e,hm,hh,_⟩⟩:=hl2 o ho';exact⟨⟨.int .i64 0,U5 2 m⟩,by rw [ho];exact J3.2 rfl,rfl,QB hok inv⟩;rw [hno e hm] at hh;cases hh
 cases len with
 | zero=>
  cases v with
  | nilSlice=>have h:one (.int .i64 0) (U5 2 m)=some outs:=h;cases h;exact none_case none ⟨_,hld,.inl ⟨rfl,.inl rfl⟩⟩ (λe _=>by simp [iI,SH]) rfl
  | slice id o l c=>obtain rfl:l=0:=Y7 hlen;have h:one (.int .i64 0) (U5 2 m)=some outs:=h;cases h;exact none_case none ⟨_,hld,.inl ⟨rfl,.inr (.inl ⟨_,_,_,rfl⟩)⟩⟩ (λe _=>by simp [iI,SH]) rfl
  | sliceU id o l c=>obtain rfl:l=0:=Y7 hlen;have h:one (.int .i64 0) (U5 2 m)=some outs:=h;cases h;exact none_case none ⟨_,hld,.inl ⟨rfl,.inr (.inr ⟨_,_,_,rfl⟩)⟩⟩ (λe _=>by simp [iI,SH]) rfl
  | _=>cases h
 | succ len=>
  have key:∀id o,((∃c,v=.slice id o (len+1) c)∨∃es,v=.sliceU id o (len+1) es)->bB.tok m id o v r off lv=some outs->
    Aj P f∧∀{ι:K4} {w:World},RM P K.base ι m w.heap->aS (m.nm ι) [.ptr r off,.int .i64 lv]->CallsIn Fence.wide 0 P f (y7 ι [.ptr r off,.int .i64 lv]).toArray w (P8 P K.base ι m w outs):=by
   intro id o hvs h;unfold bB.tok at h;obtain⟨rs2,n2,rows2,hg2,h⟩:=cZ h;obtain⟨l,hl,h⟩:=C8 h;split at h;rename_i k s;have ht:EK m r off (some (k,s)):=⟨v,hld,.inr ⟨k,s,id,o,len,hvs,by rw [hg2];show ob (eU rs2 n2 rows2 o 2) _=_;rw [hl];rfl,rfl⟩⟩;have hspec:=Nc lv k s;cases hfd:ou lv k s with
   | none=>rw [hfd] at h hspec;have h:one (.int .i64 0) (U5 2 m)=some outs:=h;cases h;exact none_case _ ht hspec rfl
   | some kd=>
    rw [hfd] at h hspec;have h:(ob (L9 (U5 2 m).nx 2 v 1 none) λp=>storeAt (bM (U5 2 m) p.2) r off [p.1] λm'=>one (.int .i64 kd) m')=some outs:=h;obtain⟨⟨v',p⟩,hs,h⟩:=C8 h;have h0:=h;obtain⟨c1,h⟩:=jI h;obtain⟨c2,h⟩:=D7 h;have hlim:(bM (U5 2 m) p).lim<=r:=ae7 λhh=>(by rw [show Nat.blt r (bM (U5 2 m) p).lim=true from Y8▸hh] at c1;cases c1);rw [kU hlim c2] at h0;obtain⟨B,hB,h0⟩:=C8 h0;cases h0;have h1v:K5 v'=true:=(cu c2).1;have hcells:v'.cells=[v']:=by cases v'<;>first | rfl | cases h1v
    refine uV hK hf λhok hln=>?_;have hok:m.Ok:=hok;have hrn:=Mem.I8 hok hg;obtain⟨d1,d2⟩:=xU 2 m;obtain⟨d3,d4⟩:=AA 2 hok;have hrl:m.lim<=r:=(by rw [(Ic _ p).2,d2] at hlim;exact hlim);rw [Vy d3 p (by rw [d1];omega),d4,if_neg (by omega)] at hB;obtain⟨l,hl1,hl2⟩:=Nf (v':=v') (p:=p) (B:=B) hf he hN Hs Hl Ha hok hln hrn ht hld (lv:=lv) (λe hm hh=>⟨by rw [← d1];exact hs,h1v,hcells,hB,hrl⟩);refine⟨N,n+1,l,hl1,λo ho'=>?_⟩;obtain⟨M,seen,inv,⟨hno,_⟩ | ⟨e,hm,hh,rfl⟩⟩:=hl2 o ho';obtain⟨⟨e,hm,hh⟩,_⟩:=hspec;rw [hno e hm] at hh;cases hh;refine⟨_,J3.2 rfl,by rw [hspec.2 e hm hh],?_⟩;have hMn:M.nx<=(bM M p).nx∧(bM M p).lim=M.lim:=Ic M p;exact ((QB hok inv).bM inv.ok p).set (Yp inv.ok p) (by have:=inv.mn;omega) (by rw [hMn.2,inv.lim];exact hrl) B
   cases h
  cases v with
  | slice id o l c=>obtain rfl:l=len+1:=Y7 hlen;exact key id o (.inl ⟨c,rfl⟩) h
  | sliceU id o l c=>obtain rfl:l=len+1:=Y7 hlen;exact key id o (.inr ⟨c,rfl⟩) h
  | _=>cases h
set_option maxHeartbeats 2000000
def Cv:aT:=⟨false,[],1,[.tmp 0],(j5 (j6 (K8 (Q5 (D8 .nilMap)) sH r9)) (j5 (j6 (bN (Dc) (D5 (P9 aF 1 G6 (D8 (.int .i64 (.ofNat 6))) (D8 (.str [42]))) (D5 (P9 aF 1 bV (D8 (.int .i64 (.ofNat 7))) (D8 (.str [47]))) (D5 (P9 aF 1 dw (D8 (.int .i64 (.ofNat 8))) (D8 (.str [37]))) (D5 (P9 aF 1 lK (D8 (.int .i64 (.ofNat 9))) (D8 (.str [43]))) (D5 (P9 aF 1 (bU 4) (D8 (.int .i64 (.ofNat 10))) (D8 (.str [45]))) (D5 (P9 aF 1 (bU 5) (D8 (.int .i64 (.ofNat 11))) (D8 (.str [60]))) (D5 (P9 aF 1 (bU 6) (D8 (.int .i64 (.ofNat 12))) (D8 (.str [60,61]))) (D5 (P9 aF 1 (bU 7) (D8 (.int .i64 (.ofNat 13))) (D8 (.str [62]))) (D5 (P9 aF 1 (bU 8) (D8 (.int .i64 (.ofNat 14))) (D8 (.str [62,61]))) (D5 (P9 aF 1 (bU 9) (D8 (.int .i64 (.ofNat 15))) (D8 (.str [61,61]))) (D5 (P9 aF 1 (bU 10) (D8 (.int .i64 (.ofNat 16))) (D8 (.str [33,61]))) (D5 (P9 aF 1 (bU 11) (D8 (.int .i64 (.ofNat 17))) (D8 (.str [97,110,100]))) (D5 (P9 aF 1 (bU 12) (D8 (.int .i64 (.ofNat 18))) (D8 (.str [111,114]))) (K8 (Q5 (bU 13)) sH r9)))))))))))))))) F3)),none⟩
def Kc:aT:=⟨false,[(some 0)],10,[.tmp 9],(j5 (j6 (K8 (Q5 (D8 (.int .i64 (.ofNat 0)))) (sL (sR (sL sH))) r9)) (j5 (j5 (j6 (K8 (Q5 (I7 gH)) (sL sH) r9)) (F7 0 (j5 (j6 (o7 (V9 jW jX (I7 (gL gH)) (D8 (.int .i64 (.ofNat 18)))) (K8 (Q5 G6) (sR sH) r9))) (A9 (I7 (gR gH)) (j5 (j6 (K8 (Q5 (D8 (.int .i64 (.ofNat 0)))) (sL (sR (sL sH))) r9)) F3) (j5 (j6 (o7 (V9 jW jX (I7 (gL gH)) (D8 (.int .i64 (.ofNat 17)))) (K8 (Q5 G6) (sL (sL sH)) r9))) (A9 (I7 (gL (gL gH))) (j5 (j6 (K8 (Q5 (D8 (.int .i64 (.ofNat 1)))) (sL (sR (sL sH))) r9)) F3) (j5 (j6 (o7 (V9 jW jX (I7 (gL gH)) (D8 (.int .i64 (.ofNat 5)))) (K8 (Q5 G6) (sR (sL sH)) r9))) (A9 (I7 (gR (gL gH))) (j5 (j6 (K8 (Q5 (D8 (.int .i64 (.ofNat 2)))) (sL (sR (sL sH))) r9)) F3) (j5 (j5 (j6 (o7 (V9 jW jX (I7 (gL gH)) (D8 (.int .i64 (.ofNat 11)))) (K8 (Q5 G6) (sL (sR sH)) r9))) (A9 (I7 (gL (gR gH))) D9 (j5 (j6 (o7 (V9 jW jX (I7 (gL gH)) (D8 (.int .i64 (.ofNat 12)))) (K8 (Q5 G6) (sL (sR sH)) r9))) (A9 (I7 (gL (gR gH))) D9 (j5 (j6 (o7 (V9 jW jX (I7 (gL gH)) (D8 (.int .i64 (.ofNat 13)))) (K8 (Q5 G6) (sL (sR sH)) r9))) (A9 (I7 (gL (gR gH))) D9 (j5 (j6 (o7 (V9 jW jX (I7 (gL gH)) (D8 (.int .i64 (.ofNat 14)))) (K8 (Q5 G6) (sL (sR sH)) r9))) (A9 (I7 (gL (gR gH))) D9 (j5 (j6 (o7 (V9 jW jX (I7 (gL gH)) (D8 (.int .i64 (.ofNat 15)))) (K8 (Q5 G6) (sL (sR sH)) r9))) (A9 (I7 (gL (gR gH))) D9 (j6 (o7 (V9 jW jX (I7 (gL gH)) (D8 (.int .i64 (.ofNat 16)))) (K8 (Q5 G6) (sL (sR sH)) r9))))))))))))) (A9 (I7 (gL (gR gH))) (j5 (j6 (K8 (Q5 (D8 (.int .i64 (.ofNat 3)))) (sL (sR (sL sH))) r9)) F3) (j5 (j5 (j6 (o7 (V9 jW jX (I7 (gL gH)) (D8 (.int .i64 (.ofNat 9)))) (K8 (Q5 G6) (sR (sR sH)) r9))) (A9 (I7 (gR (gR gH))) D9 (j6 (o7 (V9 jW jX (I7 (gL gH)) (D8 (.int .i64 (.ofNat 10)))) (K8 (Q5 G6) (sR (sR sH)) r9))))) (A9 (I7 (gR (gR gH))) (j5 (j6 (K8 (Q5 (D8 (.int .i64 (.ofNat 4)))) (sL (sR (sL sH))) r9)) F3) (j5 (j5 (j6 (o7 (V9 jW jX (I7 (gL gH)) (D8 (.int .i64 (.ofNat 6)))) (K8 (Q5 G6) (sL (sL (sL sH))) r9))) (A9 (I7 (gL (gL (gL gH)))) D9 (j5 (j6 (o7 (V9 jW jX (I7 (gL gH)) (D8 (.int .i64 (.ofNat 7)))) (K8 (Q5 G6) (sL (sL (sL sH))) r9))) (A9 (I7 (gL (gL (gL gH)))) D9 (j6 (o7 (V9 jW jX (I7 (gL gH)) (D8 (.int .i64 (.ofNat 8)))) (K8 (Q5 G6) (sL (sL (sL sH))) r9))))))) (A9 (I7 (gL (gL (gL gH)))) (j5 (j6 (K8 (Q5 (D8 (.int .i64 (.ofNat 5)))) (sL (sR (sL sH))) r9)) F3) (j5 (j6 (o7 (V9 jW jX (I7 (gL gH)) (D8 (.int .i64 (.ofNat 4)))) (K8 (Q5 G6) (sR (sL (sL sH))) r9))) (A9 (I7 (gR (gL (gL gH)))) (j5 (j6 (K8 (Q5 (D8 (.int .i64 (.ofNat 6)))) (sL (sR (sL sH))) r9)) F3) D9)))))))))))))))) (j5 (j6 (K8 (Q5 (D8 (.int .i64 (.ofNat 7)))) (sL (sR (sL sH))) r9)) F3))),none⟩
theorem Ke {K:Known}{f:FuncId}{sf:aT}(hf:K.fns f=some sf)(hp:sf.pure=false)(he:∀args m,K.eff f args m=none)(N n:Nat)(args:List j3)(m:Mem):
  o9 K N (n+1) (.func f) args m=lN (o9 K N n) (pq K (o9 K N n) N) N sf args m:=by
 rw [dI];show (Option.rec (ob (K.fns f) λsf=>bi sf.pure (iL K (o9 K N n) N f sf args m) (lN (o9 K N n) (pq K (o9 K N n) N) N sf args m)) (λl=>some l) (K.eff f args m):bX)=_;rw [he,hf];show bi sf.pure _ _=_;rw [hp];rfl
theorem iD {m:Mem}(hok:m.Ok)(hln:m.lim<=m.nx)(cur:List (j3×j3))(k:Int)(s:List UInt8)(h:W9 aF 1 (.int .i64 k) cur=some none){mp:OF}{ls:List j3}{env:T j3}(cf:F4)(hmp:mp ls env=.map m.nx):
  P9 aF 1 mp (D8 (.int .i64 k)) (D8 (.str s)) cf ls env (m.new (.map cur))=some [⟨.undef,m.new (.map (cur ++ [(.int .i64 k,.str s)]))⟩]:=by
 rw [Ey,hmp];show bi (Nat.blt m.nx m.lim) none (ob (msB ((m.new (.map cur)).get m.nx) aF 1 (.int .i64 k) (.str s)) λb=>some [(⟨.undef,(m.new (.map cur)).set m.nx b⟩:VM)])=_;rw [Vw hln,Mem.N7 hok,if_pos rfl];show ob (ob (W9 aF 1 (.int .i64 k) cur) _) _=_;rw [h];show some [(⟨.undef,(m.new (.map cur)).set m.nx (.map (cur ++ [(.int .i64 k,.str s)]))⟩:VM)]=_;rw [Mem.Ct hok]
theorem VA {K:Known}{f:FuncId}(hf:K.fns f=some Cv)(he:∀args m,K.eff f args m=none)(N n:Nat)(m:Mem)(hok:m.Ok)(hln:m.lim<=m.nx):
  o9 K N (n+1) (.func f) [] m=some [⟨.map m.nx,m.new (.map bD)⟩]:=by
 rw [Ke hf rfl he];have q0:=λ(cf:F4) (mp:OF) (ls:List j3) (env:T j3) (h:mp ls env=.map m.nx)=>iD hok hln [] 6 [42] (by rfl) cf h;have q1:=λ(cf:F4) (mp:OF) (ls:List j3) (env:T j3) (h:mp ls env=.map m.nx)=>iD hok hln [(.int .i64 6,.str [42])] 7 [47] (by rfl) cf h;have q2:=λ(cf:F4) (mp:OF) (ls:List j3) (env:T j3) (h:mp ls env=.map m.nx)=>iD hok hln [(.int .i64 6,.str [42]),(.int .i64 7,.str [47])] 8 [37] (by rfl) cf h;have q3:=λ(cf:F4) (mp:OF) (ls:List j3) (env:T j3) (h:mp ls env=.map m.nx)=>iD hok hln [(.int .i64 6,.str [42]),(.int .i64 7,.str [47]),(.int .i64 8,.str [37])] 9 [43] (by rfl) cf h;have q4:=λ(cf:F4) (mp:OF) (ls:List j3) (env:T j3) (h:mp ls env=.map m.nx)=>iD hok hln [(.int .i64 6,.str [42]),(.int .i64 7,.str [47]),(.int .i64 8,.str [37]),(.int .i64 9,.str [43])] 10 [45] (by rfl) cf h;have q5:=λ(cf:F4) (mp:OF) (ls:List j3) (env:T j3) (h:mp ls env=.map m.nx)=>iD hok hln [(.int .i64 6,.str [42]),(.int .i64 7,.str [47]),(.int .i64 8,.str [37]),(.int .i64 9,.str [43]),(.int .i64 10,.str [45])] 11 [60] (by rfl) cf h;have q6:=λ(cf:F4) (mp:OF) (ls:List j3) (env:T j3) (h:mp ls env=.map m.nx)=>iD hok hln [(.int .i64 6,.str [42]),(.int .i64 7,.str [47]),(.int .i64 8,.str [37]),(.int .i64 9,.str [43]),(.int .i64 10,.str [45]),(.int .i64 11,.str [60])] 12 [60,61] (by rfl) cf h;have q7:=λ(cf:F4) (mp:OF) (ls:List j3) (env:T j3) (h:mp ls env=.map m.nx)=>iD hok hln [(.int .i64 6,.str [42]),(.int .i64 7,.str [47]),(.int .i64 8,.str [37]),(.int .i64 9,.str [43]),(.int .i64 10,.str [45]),(.int .i64 11,.str [60]),(.int .i64 12,.str [60,61])] 13 [62] (by rfl) cf h
 have q8:=λ(cf:F4) (mp:OF) (ls:List j3) (env:T j3) (h:mp ls env=.map m.nx)=>iD hok hln [(.int .i64 6,.str [42]),(.int .i64 7,.str [47]),(.int .i64 8,.str [37]),(.int .i64 9,.str [43]),(.int .i64 10,.str [45]),(.int .i64 11,.str [60]),(.int .i64 12,.str [60,61]),(.int .i64 13,.str [62])] 14 [62,61] (by rfl) cf h;have q9:=λ(cf:F4) (mp:OF) (ls:List j3) (env:T j3) (h:mp ls env=.map m.nx)=>iD hok hln [(.int .i64 6,.str [42]),(.int .i64 7,.str [47]),(.int .i64 8,.str [37]),(.int .i64 9,.str [43]),(.int .i64 10,.str [45]),(.int .i64 11,.str [60]),(.int .i64 12,.str [60,61]),(.int .i64 13,.str [62]),(.int .i64 14,.str [62,61])] 15 [61,61] (by rfl) cf h;have q10:=λ(cf:F4) (mp:OF) (ls:List j3) (env:T j3) (h:mp ls env=.map m.nx)=>iD hok hln [(.int .i64 6,.str [42]),(.int .i64 7,.str [47]),(.int .i64 8,.str [37]),(.int .i64 9,.str [43]),(.int .i64 10,.str [45]),(.int .i64 11,.str [60]),(.int .i64 12,.str [60,61]),(.int .i64 13,.str [62]),(.int .i64 14,.str [62,61]),(.int .i64 15,.str [61,61])] 16 [33,61] (by rfl) cf h;have q11:=λ(cf:F4) (mp:OF) (ls:List j3) (env:T j3) (h:mp ls env=.map m.nx)=>iD hok hln [(.int .i64 6,.str [42]),(.int .i64 7,.str [47]),(.int .i64 8,.str [37]),(.int .i64 9,.str [43]),(.int .i64 10,.str [45]),(.int .i64 11,.str [60]),(.int .i64 12,.str [60,61]),(.int .i64 13,.str [62]),(.int .i64 14,.str [62,61]),(.int .i64 15,.str [61,61]),(.int .i64 16,.str [33,61])] 17 [97,110,100] (by rfl) cf h
 have q12:=λ(cf:F4) (mp:OF) (ls:List j3) (env:T j3) (h:mp ls env=.map m.nx)=>iD hok hln [(.int .i64 6,.str [42]),(.int .i64 7,.str [47]),(.int .i64 8,.str [37]),(.int .i64 9,.str [43]),(.int .i64 10,.str [45]),(.int .i64 11,.str [60]),(.int .i64 12,.str [60,61]),(.int .i64 13,.str [62]),(.int .i64 14,.str [62,61]),(.int .i64 15,.str [61,61]),(.int .i64 16,.str [33,61]),(.int .i64 17,.str [97,110,100])] 18 [111,114] (by rfl) cf h;simp only [aec,afK] at q0 q1 q2 q3 q4 q5 q6 q7 q8 q9 q10 q11 q12;have e:bD=[(.int .i64 6,.str [42]),(.int .i64 7,.str [47]),(.int .i64 8,.str [37]),(.int .i64 9,.str [43]),(.int .i64 10,.str [45]),(.int .i64 11,.str [60]),(.int .i64 12,.str [60,61]),(.int .i64 13,.str [62]),(.int .i64 14,.str [62,61]),(.int .i64 15,.str [61,61]),(.int .i64 16,.str [33,61]),(.int .i64 17,.str [97,110,100]),(.int .i64 18,.str [111,114])]:=rfl;rw [e];simp [Cv,lN,bW,tH,Dc,q0,q1,q2,q3,q4,q5,q6,q7,q8,q9,q10,q11,q12]
theorem VB {K:Known}{f:FuncId}(hf:K.fns f=some Kc)(he:∀args m,K.eff f args m=none)(N n:Nat):∀e∈au,∀m:Mem,o9 K N (n+1) (.func f) [.int .i64 e.2.2.2] m=some [⟨.int .i64 e.1,m⟩]:=by intro e hm m;rw [Ke hf rfl he];simp only [au,Z7,afL,or_false] at hm;rcases hm with rfl | rfl | rfl | rfl | rfl | rfl | rfl | rfl | rfl | rfl | rfl | rfl | rfl<;>rfl
def zy:aT:=⟨false,[(some 0)],2,[.tmp 1],(j5 (j6 (K8 (Q5 (D8 (.bool false))) (sL sH) r9)) (j5 (j6 (o7 (V9 Xm sGe (I7 gH) (D8 (.int .u8 (.ofNat 97)))) (o7 (gP G6 true (Q5 (I7 gH))) (o7 (gP bV true (V9 TW Xn G6 (D8 (.int .u8 (.ofNat 122))))) (o7 (dZ dw G6 (D8 (.bool false))) (K8 (Q5 G6) (sL sH) r9)))))) F3)),none⟩
def SI (fi:Nat):aT:=⟨false,[(some 2),(some 0)],5,[.tmp 4],(j5 (j6 (K8 (Q5 (D8 (.bool false))) (sR (sL sH)) r9)) (j5 (j6 (K8 (Q5 (D8 (.int .i64 (.ofNat 3)))) (sL (sL sH)) r9)) (j5 (j5 (j6 (o7 (sG (I7 gH) (D8 (.int .i64 (.ofNat 0)))) (AX (D6 fi [G6]) (sL sH) r9))) (A9 (I7 (gL gH)) (j6 (K8 (Q5 (D8 (.int .i64 (.ofNat 1)))) (sL (sL sH)) r9)) D9)) (j5 (j6 (o7 (cB (I7 (gR gH))) (o7 (G9 0 G6) (F6 (qg G6) (o7 (Da G6) (o7 (V9 Oe PV G6 (D8 (.int .i64 (.ofNat 0)))) (o7 (gP G6 true (Q5 (I7 (gR gH)))) (o7 (gP bV true (cB G6)) (o7 (gP dw true (G9 0 G6)) (F6 (Rj lK true (qg G6)) (o7 (gP (bU 4) true (aY 2 G6 (D8 (.int .i64 (.ofNat 0))))) (F6 (Rj (bU 5) true (aZ 2 G6)) (o7 (gP (bU 6) true (Q5 (I7 (gL (gL gH))))) (o7 (gP (bU 7) true (Q5 (I7 gH))) (o7 (gP (bU 8) true (L6 [(.int .i64 (.ofNat 0)),(.str [])] [(0,1,bV),(1,1,G6)])) (o7 (gP (bU 9) true (pEq (qd [.i,.s]) lK G6)) (o7 (dZ (bU 10) G6 (D8 (.bool false))) (K8 (Q5 G6) (sR (sL sH)) r9)))))))))))))))))) F3)))),none⟩
theorem SK {K:Known}{f:FuncId}(hf:K.fns f=some zy)(he:∀args m,K.eff f args m=none)(N n:Nat):∀e∈au,∃b t,e.2.2.1=b::t∧
  ∀m:Mem,o9 K N (n+1) (.func f) [.int .u8 (b.toNat:Int)] m=some [⟨.bool (decide (e.2.1=1)),m⟩]:=by
 intro e hm;simp only [au,Z7,afL,or_false] at hm;rcases hm with rfl | rfl | rfl | rfl | rfl | rfl | rfl | rfl | rfl | rfl | rfl | rfl | rfl<;>exact⟨_,_,rfl,λm=>by rw [Ke hf rfl he];rfl⟩
theorem VD:∀e∈au,e.2.1=1∨e.2.1=3:=by decide
theorem afg (k n:Int)(s s':List UInt8):qd [.i,.s] (.agg [.int .i64 k,.str s]) (.agg [.int .i64 n,.str s'])=some (decide (n=k)&&(s'==s)):=by
 have h:qd [.i,.s] (.agg [.int .i64 k,.str s]) (.agg [.int .i64 n,.str s'])=some (bi (aV k n) (strEq s s') false):=by simp [qd,bH,FI,aF,eqStr];cases aV k n<;>cases strEq s s'<;>rfl
 rw [h,fF,gT];congr 1;by_cases h1:k=n;subst h1;rw [beq_self_eq_true,decide_eq_true rfl];show (s==s')=(true&&(s'==s));rw [aax];exact aas.2 ⟨λh=>by simpa using (beq_iff_eq.1 h).symm,λh=>by simpa using (beq_iff_eq.1 h).symm⟩;rw [beq_eq_false_iff_ne.2 h1,decide_eq_false (aiA h1)];rfl
theorem abN {cf:F4}{dcf:jG}{N fi r off:Nat}{M:Mem}{tok:Option (Int×List UInt8)}(ht:EK M r off tok){b:UInt8}{t:List UInt8}{lt:Bool}(hc:cf (.func fi) [.int .u8 (b.toNat:Int)] M=some [⟨.bool lt,M⟩]):
  lN cf dcf N (SI fi) [.ptr r off,.str (b::t)] M=some [⟨.bool (match tok with | some (k,s)=>decide ((bif lt then 1 else 3)=k)&&((b::t)==s) | none=>false),M⟩]:=by
 have hps:∀(l r:T j3),sG (I7 gH) (D8 (.int .i64 0)) [] (.nd l (.str (b::t)) r)=some (.int .u8 (b.toNat:Int)):=λ_ _=>rfl;have hlay:∀(n:Int) (ls:List j3) (env:T j3),lay [(0,1,bV),(1,1,G6)] (.str (b::t) :: .int .i64 n::ls) env [.int .i64 0,.str []]=some [.int .i64 n,.str (b::t)]:=λ_ _ _=>rfl;obtain⟨v,hld,⟨rfl,hs⟩ | ⟨k,s,id,o,len,hv,hN,rfl⟩⟩:=ht;rcases hs with rfl | ⟨id,o,c,rfl⟩ | ⟨id,o,es,rfl⟩<;>cases lt<;>simp [SI,lN,bW,tH,D6,hps,hc,hld]
 rcases hv with⟨c,rfl⟩ | ⟨es,rfl⟩<;>cases lt<;>simp [SI,lN,bW,tH,D6,hps,hc,hld,hN,hlay,afg,-Sy,-Sz]
theorem afh {K:Known}{fa fi:Nat}(hfa:K.fns fa=some (SI fi))(hfi:K.fns fi=some zy)(he:∀f args m,K.eff f args m=none)(N n:Nat):
  ∀tok r off M,EK M r off tok->∀e∈au,o9 K N (n+2) (.func fa) [.ptr r off,.str e.2.2.1] M=some [⟨.bool (SH tok e),M⟩]:=by
 intro tok r off M ht e hm;obtain⟨b,t,h1,h2⟩:=SK hfi (he fi) N n e hm;rw [Ke hfa rfl (he fa),h1,abN ht (h2 M)];have hk:(bif decide (e.2.1=1) then (1:Int) else 3)=e.2.1:=by rcases VD e hm with h | h;rw [h];rfl;rw [h];rfl
 rw [hk];unfold SH;cases tok with
 | none=>rfl
 | some p=>rw [h1]
theorem Yq {P:Program}{K:Known}(hK:Vk P K){f fs fl fa fi:Nat}(hf:K.fns f=some (Ka fs fl fa))(hs:K.fns fs=some Cv)(hl:K.fns fl=some Kc)(ha:K.fns fa=some (SI fi))(hi:K.fns fi=some zy)
  (he:∀f args m,K.eff f args m=none) {args:List j3} {m:Mem} {outs:List VM} (h:bB args m=some outs):
  Aj P f∧∀{ι:K4} {w:World},RM P K.base ι m w.heap->aS (m.nm ι) args->CallsIn Fence.wide 0 P f (y7 ι args).toArray w (P8 P K.base ι m w outs):=
 Vz hK hf (he f) (N:=14) (n:=2) (J2 _) (λm hok hln=>VA hs (he fs) 14 1 m hok hln) (VB hl (he fl) 14 1) (afh ha hi he 14 0) h
structure EO (m:Mem)(id rs:Nat)(l:List (List j3)):Prop where
 pos:0<rs
 len:∀r,r∈l->r.length=rs
 blk:∃c t c',m.get id=some (.cells rs c t)∧l.length<=c∧c<=c'∧T.Ok t c'∧∀i (h:i<l.length),t.get i=some l[i]
structure bg (id:Nat)(m m':Mem):Prop where
 ok:T.Ok m'.t m'.nx
 nx:m.nx<=m'.nx
 lim:m'.lim=m.lim
 old:∀i,i<m.nx->i≠id->m'.get i=m.get i
theorem bg.refl {id:Nat}{m:Mem}(h:T.Ok m.t m.nx):bg id m m:=⟨h,J2 _,rfl,λ_ _ _=>rfl⟩
theorem bg.trans {id:Nat}{a b c:Mem}(h:bg id a b)(k:bg id b c):bg id a c:=
 ⟨k.ok,Xl h.nx k.nx,k.lim.trans h.lim,λi hi hn=>(k.old i (Xb hi h.nx) hn).trans (h.old i hi hn)⟩
theorem Ext.toB {id:Nat}{a b:Mem}(h:Ext a b):bg id a b:=⟨h.ok,h.nx,h.lim,λi hi _=>h.old i hi⟩
theorem EO.same {m m':Mem}{id rs:Nat}{l:List (List j3)}(h:EO m id rs l)(e:m'.get id=m.get id):EO m' id rs l:=by obtain⟨p,hl,c,t,c',h1,h2⟩:=h;exact⟨p,hl,c,t,c',e.trans h1,h2⟩
theorem EO.ext {m m':Mem}{id rs:Nat}{l:List (List j3)}(h:EO m id rs l)(hid:id<m.nx)(e:Ext m m'):EO m' id rs l:=h.same (e.old id hid)
theorem EO.take {m:Mem}{id rs:Nat}{l:List (List j3)}(h:EO m id rs l)(k:Nat):EO m id rs (l.take k):=by
 obtain⟨p,hl,c,t,c',h1,h2,h0,h3,h4⟩:=h;refine⟨p,λr hr=>hl r (afx hr),c,t,c',h1,by simp;omega,h0,h3,λi hi=>?_⟩;have hi':i<l.length:=by simp at hi;omega
 rw [h4 i hi',aiJ]
theorem EO.Hy {m:Mem}{id rs:Nat}{l:List (List j3)}(h:EO m id rs l){i:Nat}(hi:i<l.length):AM.Hy (m.get id) (i*rs) rs=some (.agg l[i]):=by obtain⟨p,hl,c,t,c',h1,h2,h0,h3,h4⟩:=h;have hr:=hl l[i] (abX hi);have hk:=xS (rs:=rs) (n:=c) (rows:=t) (i:=i) (j:=0) (k:=rs) p (by omega) (h4 i hi) hr (by omega);rw [aay] at hk;rw [h1];show Q9 (some (O9.cells rs c t)) (λrs' n rows=>ob (eU rs' n rows (i*rs) rs) λl=>some (j3.agg l))=_;rw [kT,hk,P5,Y3,aar (by omega)]
theorem EO.ld1 {m:Mem}{id rs:Nat}{l:List (List j3)}(h:EO m id rs l){i j:Nat}(hi:i<l.length)(hj:j<rs):AM.ld1 (m.get id) (i*rs+j)=l[i][j]?:=by obtain⟨p,hl,c,t,c',h1,h2,h0,h3,h4⟩:=h;rw [h1];show Q9 (some (O9.cells rs c t)) (λrs' n rows=>cell1 rs' n rows (i*rs+j))=_;rw [kT,vT hj (by omega) (h4 i hi)]
theorem EO.store {m:Mem}{id rs:Nat}{l:List (List j3)}(h:EO m id rs l)(hm:m.Ok)(hid:id<m.nx)(hlim:m.lim<=id){i:Nat}(hi:i<l.length){row:List j3}(hr:row.length=rs)(ho:O0 row=true):
  ∃m',(∀{β:Type} (k:Mem->Option β),storeAt m id (i*rs) row k=k m')∧EO m' id rs (l.set i row)∧bg id m m':=by
 obtain⟨p,hl,c,t,c',h1,h2,h0,h3,h4⟩:=h;have hq:Nat.div (i*rs) rs=i:=agw i p;have hz:Nat.mod (i*rs) rs=0:=Nat.mul_mod_left i rs;have hold:=h4 i hi;have hol:=hl l[i] (abX hi);have hw:aD rs c t (i*rs) row=some (t.put i row):=by
  unfold aD;rw [hq,hz,show Nat.blt i c=true from Y8.mpr (by omega),hold];show bi (Nat.ble (Nat.add 0 (len' row)) rs) (some (t.put i (lI 0 row l[i]))) none=_;rw [I9,show Nat.ble (Nat.add 0 row.length) rs=true from Z5 (by show 0+row.length<=rs;omega),lQ _ _ _ (by omega),afI,aav,
   abT (by omega)]
  simp
 refine⟨m.set id (.cells rs c (t.put i row)),λk=>?_,⟨p,λr hr'=>?_,c,t.put i row,c',?_,by simpa using h2,h0,T.Ok.put h3 i row (by omega),λj hj=>?_⟩,?_⟩;rw [kU hlim ho,h1];show ob (ob (aD rs c t (i*rs) row) λrows'=>some (O9.cells rs c rows')) _=_;rw [hw];rfl;rcases List.mem_or_eq_of_mem_set hr' with h | rfl;exact hl r h;exact hr;rw [Mem.Z0 hm hid,if_pos rfl];have hj':j<l.length:=by simpa using hj
 rw [List.getElem_set];split;rename_i e;subst e;exact T.bI h3 _ _ (by omega);rename_i e;rw [T.bO h3 _ _ _ (by omega) e];exact h4 j hj';exact⟨Mem.Ok.set hm hid _,by simp,rfl,λj hj hn=>by rw [Mem.Z0 hm hid,if_neg hn]⟩
theorem zA {rs n:Nat}{rows:T (List j3)}:∀(a b off:Nat),U4 rs n rows (a+b) off=ob (U4 rs n rows a off) λx=>ob (U4 rs n rows b (off+a)) λy=>some (x++y)
 | 0,b,off=>by rw [aav,aay];show _=ob (U4 rs n rows b off) λy=>some ([]++y);cases U4 rs n rows b off<;>rfl
 | a+1,b,off=>by
  rw [show a+1+b=(a+b)+1 from by omega];show ob (cell1 rs n rows off) (λv=>ob (U4 rs n rows (a+b) (off+1)) λl=>some (v::l))=ob (ob (cell1 rs n rows off) λv=>ob (U4 rs n rows a (off+1)) λl=>some (v::l)) _;rw [zA a b (off+1),show off+1+a=off+(a+1) from by omega];cases cell1 rs n rows off with
  | none=>rfl
  | some v=>
   simp only [P5];cases U4 rs n rows a (off+1) with
   | none=>rfl
   | some x=>simp only [P5];cases U4 rs n rows b (off+(a+1))<;>rfl
theorem zB {rs n:Nat}{rows:T (List j3)}{i:Nat}{row:List j3}(hi:i<n)(h:rows.get i=some row)(hl:row.length=rs):
  ∀k j,j+k=rs->U4 rs n rows k (i*rs+j)=some (row.drop j):=by
 intro k;induction k with
 | zero=>intro j hj;rw [abT (by omega)];rfl
 | succ k ih=>
  intro j hj;show ob (cell1 rs n rows (i*rs+j)) (λv=>ob (U4 rs n rows k (i*rs+j+1)) λl=>some (v::l))=_;have hjl:j<row.length:=by omega
  rw [vT (by omega) hi h,J7 hjl,P5,show i*rs+j+1=i*rs+(j+1) from by omega,ih (j+1) (by omega),Y6 hjl];rfl
theorem Gi {rs n:Nat}{rows:T (List j3)}{l:List (List j3)}(hl:∀r,r∈l->r.length=rs)(h:∀i (h:i<l.length),rows.get i=some l[i])(hn:l.length<=n):
  ∀k i,i+k=l.length->U4 rs n rows (k*rs) (i*rs)=some (l.drop i).flatten:=by
 intro k;induction k with
 | zero=>intro i hi;rw [abT (by omega),afo];rfl
 | succ k ih=>
  intro i hi;have hi':i<l.length:=by omega
  have:=zB (n:=n) (i:=i) (by omega) (h i hi') (hl _ (abX hi')) rs 0 (by omega);rw [aay,Y3] at this;rw [show (k+1)*rs=rs+k*rs from by rw [ae3,Nat.one_mul,aiQ],zA,this,P5,show i*rs+rs=(i+1)*rs from by rw [ae3,Nat.one_mul],ih (i+1) (by omega),P5,Y6 hi'];rfl
theorem BF {rs:Nat}:∀(l:List (List j3)),(∀r,r∈l->r.length=rs)->rowsOf rs l.length l.flatten=some l
 | [],_=>rfl
 | r::l,h=>by have hr:=h r (by simp);show ob (takeN rs (r++l.flatten)) (λx=>ob (rowsOf rs l.length (jo rs (r++l.flatten))) λrest=>some (x::rest))=_;rw [gQ _ _ (by simp;omega),P5,gN,List.drop_left' hr,List.take_left' hr,BF l (λx hx=>h x (by simp [hx]))];rfl
theorem QC {m:Mem}(hm:m.Ok){rs:Nat}(hp:0<rs){l:List (List j3)}(hl:∀r,r∈l->r.length=rs):EO (m.new (.cells rs l.length (T.ofList l))) m.nx rs l:=
 ⟨hp,hl,l.length,T.ofList l,l.length,by rw [Mem.N7 hm,if_pos rfl],J2 _,J2 _,T.fP l,λi h=>by rw [T.aG,J7 h]⟩
theorem Pk {m:Mem}{rs:Nat}{l:List (List j3)}(hl:∀r,r∈l->r.length=rs):grown m rs l.length l.flatten=some [⟨.sliceU m.nx 0 l.length rs,m.new (.cells rs l.length (T.ofList l))⟩]:=by show ob (rowsOf rs l.length l.flatten) (λrows=>one (j3.sliceU m.nx 0 l.length rs) (m.new (.cells rs l.length (T.ofList rows))))=_;rw [BF l hl];rfl
theorem lF:∀(a b:List j3),O0 (a++b)=(O0 a&&O0 b)
 | [],_=>rfl
 | v::a,b=>by show bi (K5 v) (O0 (a++b)) false=(bi (K5 v) (O0 a) false&&O0 b);rw [lF a b];cases K5 v<;>rfl
theorem sP {rs n:Nat}(hp:0<rs):∀(vs:List j3) (t:T (List j3)) (off k n':Nat),n<=n'->T.Ok t n'->k*rs<=off->off+vs.length<=n*rs->
  ∃t',ig rs n vs t off=some t'∧T.Ok t' n'∧∀i,i<k->t'.get i=t.get i
 | [],t,off,k,n',_,h,_,_=>⟨t,rfl,h,λ_ _=>rfl⟩
 | v::vs,t,off,k,n',hnn,h,hk,hn=>by
  have hlt:off<n*rs:=by simp at hn;omega
  have hd:off / rs<n:=Nat.div_lt_of_lt_mul (by rw [ae4];exact hlt);obtain⟨row,hrow⟩:=(h.get _).2 (Xb hd hnn);have hmod:off%rs<rs:=ait _ hp;have hkd:k<=off / rs:=(ae8 hp).2 hk;have hw:aD rs n t off [v]=some (t.put (off / rs) (lI (off%rs) [v] row)):=by show bi (Nat.blt (off / rs) n) (ob (t.get (off / rs)) λrow=>bi (Nat.ble (off%rs+1) rs) (some (t.put (off / rs) (lI (off%rs) [v] row))) none) none=_;rw [show Nat.blt (off / rs) n=true from Y8.mpr hd,hrow,P7,P5,show Nat.ble (off%rs+1) rs=true from Z5 hmod];rfl
  obtain⟨t',h1,h2,h3⟩:=sP hp vs (t.put (off / rs) (lI (off%rs) [v] row)) (off+1) k n' hnn (T.Ok.put h _ _ (Xb hd hnn)) (by omega) (by simp at hn;omega);refine⟨t',?_,h2,λi hi=>?_⟩;show ob (aD rs n t off [v]) (λrows'=>ig rs n vs rows' (off+1))=_;rw [hw];exact h1;rw [h3 i hi,T.bO h _ _ _ (by omega) (by omega)]
theorem EO.clear {m:Mem}{id rs:Nat}{l:List (List j3)}(h:EO m id rs l)(hm:m.Ok)(hid:id<m.nx)(hlim:m.lim<=id){k:Nat}(hk:k<=l.length){vs:List j3}(hv:k*rs+vs.length<=l.length*rs)(ho:O0 vs=true):
  ∃m',(∀{β:Type} (f:Mem->Option β),jq m id (k*rs) vs f=f m')∧EO m' id rs (l.take k)∧bg id m m':=by
 have ht:=h.take k;obtain⟨p,hl,c,t,c',h1,h2,h0,h3,h4⟩:=h;cases vs with
 | nil=>exact⟨m,λf=>rfl,ht,bg.refl hm⟩
 | cons v vs=>
  obtain⟨t',w1,w2,w3⟩:=sP p (v::vs) t (k*rs) k c' h0 h3 (J2 _) (Xl hv (aaw _ h2));refine⟨m.set id (.cells rs c t'),λ{β} f=>?_,⟨p,ht.len,c,t',c',by rw [Mem.Z0 hm hid,if_pos rfl],by simp;omega,h0,w2,λi hi=>?_⟩,Mem.Ok.set hm hid _,by simp,rfl,λj hj hn=>by rw [Mem.Z0 hm hid,if_neg hn]⟩;show bi (Nat.blt id m.lim) none (bi (O0 (v::vs)) (Q9 (m.get id) λrs' n rows=>ob (ig rs' n (v::vs) rows (k*rs)) λrows'=>f (m.set id (.cells rs' n rows'))) none)=f (m.set id (.cells rs c t'));rw [show Nat.blt id m.lim=false from ac3.2 λe=>absurd (Y8.mp e) (Nat.not_lt.2 hlim),ho,h1,S9,P7,kT,w1];rfl;have hi':i<k∧i<l.length:=by simp at hi;omega
  rw [w3 i hi'.1,h4 i hi'.2,aiJ]
def gJ (m:Mem)(v:j3)(xs:List j3):Prop:=
 (v=.nilSlice∧xs=[])∨∃id off,((∃c,v=.slice id off xs.length c∧xs.length<=c)∨v=.sliceU id off xs.length 1)∧id<m.nx∧
  (xs=[]∨∃n rows,m.get id=some (.cells 1 n rows)∧off+xs.length<=n∧∀i (h:i<xs.length),rows.get (off+i)=some [xs[i]])
def EP (m:Mem)(v:j3)(xs:List j3):Prop:=
 ∃id off c,v=.slice id off xs.length c∧xs.length<=c∧id<m.nx∧
  (xs=[]∨∃n rows,m.get id=some (.cells 1 n rows)∧off+xs.length<=n∧∀i (h:i<xs.length),rows.get (off+i)=some [xs[i]])
theorem EP.vs {m:Mem}{v:j3}{xs:List j3}(h:EP m v xs):gJ m v xs:=by obtain⟨id,off,c,h1,h2,h3,h4⟩:=h;exact .inr ⟨id,off,.inl ⟨c,h1,h2⟩,h3,h4⟩
theorem gJ.keep {m m':Mem}{v:j3}{xs:List j3}(hv:gJ m v xs)(hn:m.nx<=m'.nx)(h:∀id n rows,id<m.nx->m.get id=some (.cells 1 n rows)->(∃o l c,v=.slice id o l c)∨(∃o l e,v=.sliceU id o l e)->m'.get id=m.get id):gJ m' v xs:=by rcases hv with hv | ⟨id,off,h1,h2,h3⟩;exact .inl hv;refine .inr ⟨id,off,h1,Xb h2 hn,?_⟩;rcases h3 with h3 | ⟨n,rows,h4,h5,h6⟩;exact .inl h3;refine .inr ⟨n,rows,(h id n rows h2 h4 ?_).trans h4,h5,h6⟩;rcases h1 with⟨c,rfl,_⟩ | rfl;exact .inl ⟨_,_,_,rfl⟩;exact .inr ⟨_,_,_,rfl⟩
theorem gJ.ext {m m':Mem}(h:Ext m m'){v:j3}{xs:List j3}(hv:gJ m v xs):gJ m' v xs:=hv.keep h.nx λid _ _ hi _ _=>h.old id hi
theorem EP.keep {m m':Mem}{v:j3}{xs:List j3}(hv:EP m v xs)(hn:m.nx<=m'.nx)(h:∀id n rows,id<m.nx->m.get id=some (.cells 1 n rows)->(∃o l c,v=.slice id o l c)->m'.get id=m.get id):EP m' v xs:=by obtain⟨id,off,c,rfl,h1,h2,h3⟩:=hv;refine⟨id,off,c,rfl,h1,Xb h2 hn,?_⟩;rcases h3 with h3 | ⟨n,rows,h4,h5,h6⟩;exact .inl h3;exact .inr ⟨n,rows,(h id n rows h2 h4 ⟨_,_,_,rfl⟩).trans h4,h5,h6⟩
theorem EP.ext {m m':Mem}(h:Ext m m'){v:j3}{xs:List j3}(hv:EP m v xs):EP m' v xs:=hv.keep h.nx λid _ _ hi _ _=>h.old id hi
theorem gJ.cells {m:Mem}{v:j3}{xs:List j3}(h:gJ m v xs):v.cells=[v]:=by rcases h with⟨rfl,rfl⟩ | ⟨id,off,⟨c,rfl,_⟩ | rfl,_⟩<;>rfl
theorem gJ.mZ {m:Mem}{v:j3}{xs:List j3}(h:gJ m v xs){β:Type}(p:j3->β)(q:β):dx v p q=q:=by rcases h with⟨rfl,rfl⟩ | ⟨id,off,⟨c,rfl,_⟩ | rfl,_⟩<;>rfl
theorem gJ.K5 {m:Mem}{v:j3}{xs:List j3}(h:gJ m v xs):Go.AM.K5 v=true:=by rcases h with⟨rfl,rfl⟩ | ⟨id,off,⟨c,rfl,_⟩ | rfl,_⟩<;>rfl
theorem gJ.len {m:Mem}{v:j3}{xs:List j3}(h:gJ m v xs):jV v (some (j3.int .i64 0)) (λ_ _ n _=>some (.int .i64 n)) (λ_ _ n _=>some (.int .i64 n))=some (.int .i64 xs.length):=by rcases h with⟨rfl,rfl⟩ | ⟨id,off,⟨c,rfl,_⟩ | rfl,_⟩<;>rfl
theorem gJ.lenOf {m:Mem}{v:j3}{xs:List j3}(h:gJ m v xs):Go.AM.lenOf v=some xs.length:=by rcases h with⟨rfl,rfl⟩ | ⟨id,off,⟨c,rfl,_⟩ | rfl,_⟩<;>rfl
theorem gJ.at {m:Mem}{v:j3}{xs:List j3}(h:gJ m v xs){i:Nat}(hi:i<xs.length):
  ∃id o,jV v none (λid off len _=>idx len (.int .i64 i) λk=>some (j3.ptr id (off+k))) (λid off len _=>idx len (.int .i64 i) λk=>some (j3.ptr id (off+k)))=some (.ptr id o)∧id<m.nx∧ld1 (m.get id) o=some xs[i]:=by
 rcases h with⟨_,rfl⟩ | ⟨id,off,h1,h2,h3⟩;simp at hi;rcases h3 with rfl | ⟨n,rows,h4,h5,h6⟩;simp at hi;refine⟨id,off+i,?_,h2,by rw [h4];exact Qw (by omega) (h6 i hi)⟩;rcases h1 with⟨c,rfl,_⟩ | rfl;simp only [qM];rw [pV _ _ _ hi];simp only [oh];rw [pV _ _ _ hi]
theorem EP.tail {m:Mem}{v x:j3}{xs:List j3}(h:EP m v (x::xs)):∃v',EP m v' xs∧(∀(y a:OF) (ls:List j3) (env:T j3) (nid:Nat),y ls env=v->a ls env=.int .i64 1->ZW 1 y (some a) none ls env nid=some (v',none))∧∀i o l c,v'=.slice i o l c->∃o2 l2 c2,v=.slice i o2 l2 c2:=by
 obtain⟨id,off,c,rfl,h1,h2,h3⟩:=h;have hc:xs.length+1<=c:=by simpa using h1
 refine⟨.slice id (bi (Nat.beq 1 c) off (Nat.add off (Nat.mul 1 1))) xs.length (c-1),⟨id,_,c-1,rfl,by omega,h2,?_⟩,λy a ls env nid hy ha=>?_,λi o l c' h=>by cases h;exact⟨_,_,_,rfl⟩⟩;by_cases hx:xs=[];exact .inl hx;have hl:=afP.2 hx;rcases h3 with h3 | ⟨n,rows,h4,h5,h6⟩;cases h3;refine .inr ⟨n,rows,h4,?_⟩;rw [eG,if_neg (by omega)];have e:Nat.add off (Nat.mul 1 1)=off+1:=rfl;rw [e];refine⟨by simp at h5;omega,λi hi=>?_⟩;have:=h6 (i+1) (by simp;omega);rw [show off+1+i=off+(i+1) from by omega,this];rfl;show gZ (a ls env) (λl=>L9 nid 1 (y ls env) l none)=_;rw [ha,hy];show L9 nid 1 (.slice id off (xs.length+1) c) 1 none=_;show bi (Nat.ble 1 (xs.length+1)) (bi (Nat.ble (xs.length+1) c) (some (j3.slice id (bi (Nat.beq 1 c) off (Nat.add off (Nat.mul 1 1))) (Nat.sub (xs.length+1) 1) (Nat.sub c 1),none)) none) none=_;rw [show Nat.ble 1 (xs.length+1)=true from Z5 (by omega),show Nat.ble (xs.length+1) c=true from Z5 hc];rfl
structure Fr (lo p:Nat)(m m':Mem):Prop where
 ok:T.Ok m'.t m'.nx
 nx:m.nx<=m'.nx
 lim:m'.lim=m.lim
 old:∀i,i<lo->i≠p->m'.get i=m.get i
theorem Fr.refl {lo p:Nat}{m:Mem}(h:T.Ok m.t m.nx):Fr lo p m m:=⟨h,J2 _,rfl,λ_ _ _=>rfl⟩
theorem Fr.trans {lo p:Nat}{a b c:Mem}(h:Fr lo p a b)(k:Fr lo p b c):Fr lo p a c:=
 ⟨k.ok,Xl h.nx k.nx,k.lim.trans h.lim,λi hi hp=>(k.old i hi hp).trans (h.old i hi hp)⟩
theorem Ext.fr {lo p:Nat}{m m':Mem}(h:Ext m m')(hlo:lo<=m.nx):Fr lo p m m':=⟨h.ok,h.nx,h.lim,λi hi _=>h.old i (by omega)⟩
theorem bg.fr {lo p:Nat}{m m':Mem}(h:bg p m m')(hlo:lo<=m.nx):Fr lo p m m':=⟨h.ok,h.nx,h.lim,λi hi hp=>h.old i (by omega) hp⟩
theorem Fr.ext {lo p:Nat}{m m':Mem}(h:Fr lo p m m')(hlo:m.nx<=lo)(hp:lo<=p):Ext m m':=⟨h.ok,h.nx,h.lim,λi hi=>h.old i (by omega) (by omega)⟩
theorem Fr.mono {lo p q:Nat}{m m':Mem}(h:Fr lo p m m')(hp:lo<=p):Fr lo q m m':=⟨h.ok,h.nx,h.lim,λi hi _=>h.old i hi (by omega)⟩
theorem Fr.down {lo lo' p:Nat}{m m':Mem}(h:Fr lo p m m')(hl:lo'<=lo):Fr lo' p m m':=⟨h.ok,h.nx,h.lim,λi hi hp=>h.old i (by omega) hp⟩
def Cc (lo:Nat)(m:Mem)(v:j3)(l:List j3):Prop:=
 (v=.nilSlice∧l=[])∨∃id,lo<=id∧id<m.nx∧O0 l=true∧EO m id 1 (l.map ([·]))∧(v=.slice id 0 l.length l.length∨v=.sliceU id 0 l.length 1)
theorem Cc.nil (lo:Nat)(m:Mem):Cc lo m .nilSlice []:=.inl ⟨rfl,rfl⟩
theorem Cc.keep {lo:Nat}{m m':Mem}{v:j3}{l:List j3}(h:Cc lo m v l)(hn:m.nx<=m'.nx)(ho:∀i,lo<=i->i<m.nx->m'.get i=m.get i):Cc lo m' v l:=by rcases h with h | ⟨id,h1,h2,h3,h4,h5⟩;exact .inl h;exact .inr ⟨id,h1,Xb h2 hn,h3,h4.same (ho id h1 h2),h5⟩
theorem Cc.ext {lo:Nat}{m m':Mem}{v:j3}{l:List j3}(h:Cc lo m v l)(e:Ext m m'):Cc lo m' v l:=h.keep e.nx λi _ hi=>e.old i hi
theorem Cc.vs {lo:Nat}{m:Mem}{v:j3}{l:List j3}(h:Cc lo m v l):gJ m v l:=by rcases h with h | ⟨id,h1,h2,h3,h4,h5⟩;exact .inl h;obtain⟨p,hl,c,t,c',q1,q2,q0,q3,q4⟩:=h4;refine .inr ⟨id,0,?_,h2,.inr ⟨c,t,q1,by simpa using q2,λi hi=>?_⟩⟩;rcases h5 with h5 | h5;exact .inl ⟨_,h5,J2 _⟩;exact .inr h5;rw [aav,q4 i (by simpa using hi)];simp
theorem Cc.sl {lo:Nat}{m:Mem}{v:j3}{xs:List Int}(h:Cc lo m v (ints xs)):wu m v xs:=by
 have hlen:(ints xs).length=xs.length:=by simp [ints]
 rcases h with⟨h,h'⟩ | ⟨id,h1,h2,h3,h4,h5⟩;exact .inl ⟨h,by simpa [ints] using h'⟩;obtain⟨p,hl,c,t,c',q1,q2,q0,q3,q4⟩:=h4;rw [hlen] at h5;refine .inr ⟨(id,0),?_,h2,.inr ⟨c,t,q1,by simpa [ints] using q2,λi hi=>?_⟩⟩;rcases h5 with h5 | h5;exact .inl ⟨_,h5⟩;exact .inr ⟨_,h5⟩;rw [aav,q4 i (by simpa [ints] using hi)];simp [ints]
theorem Fr.new {lo:Nat}{m:Mem}(hm:m.Ok)(hlo:lo<=m.nx)(b:O9):Fr lo lo m (m.new b):=((Ext.refl hm).new b).fr hlo
theorem V8:∀a b:List UInt8,strEq a b=decide (a=b)
 | [],[]=>rfl
 | [],_ :: _=>rfl
 | _ :: _,[]=>rfl
 | x::a,y::b=>by show bi (Nat.beq x.toNat y.toNat) (strEq a b) false=_;rw [eG,V8 a b];by_cases h:x=y;subst h;rw [if_pos rfl];simp;rw [if_neg (λe=>h (adE.1 e))];simp [h]
@[simp] theorem ak2 (a b:List UInt8):jX a b=some (.bool (decide (a=b))):=by rw [← V8];rfl
@[simp] theorem ak3 (a b:List UInt8):KT a b=some (.bool (!decide (a=b))):=by rw [← V8];rfl
@[simp] theorem afi (a b:List UInt8):eqStr (.str a) (.str b)=some (decide (a=b)):=by rw [← V8];rfl
section
variable {x lo hi:OF}{ls:List j3}{env:T j3}{s:List UInt8}{l h:Nat}
theorem vW (hx:x ls env=.str s)(hl:lo ls env=.int .i64 (l:Int))(hh:hi ls env=.int .i64 (h:Int))(h1:l<=h)(h2:h<=s.length):jc x (some lo) (some hi) ls env=some (.str ((s.drop l).take (h-l))):=by
 show lJ (x ls env) (λs=>gZ (lo ls env) λl=>gZ (hi ls env) λh=>bi (Nat.ble l h) (bi (Nat.ble h (len' s)) (ob (takeN (Nat.sub h l) (jo l s)) λr=>some (j3.str r)) none) none)=_;rw [hx,Cr,hl,zm,uR,hh,zm,uR,show Nat.ble l h=true from Z5 h1,I9,show Nat.ble h s.length=true from Z5 h2,P7,P7,gN,
  show Nat.sub h l=h-l from rfl,gQ _ _ (by simp;omega)];rfl
theorem zC (hx:x ls env=.str s)(hh:hi ls env=.int .i64 (h:Int))(h2:h<=s.length):jc x none (some hi) ls env=some (.str (s.take h)):=by
 show lJ (x ls env) (λs=>gZ (hi ls env) λh=>bi (Nat.ble 0 h) (bi (Nat.ble h (len' s)) (ob (takeN (Nat.sub h 0) (jo 0 s)) λr=>some (j3.str r)) none) none)=_;rw [hx,Cr,hh,zm,uR,show Nat.ble 0 h=true from Z5 (afN _),I9,show Nat.ble h s.length=true from Z5 h2,P7,P7,gN,
  show Nat.sub h 0=h from rfl,Y3,gQ _ _ h2];rfl
theorem VE (hx:x ls env=.str s)(hl:lo ls env=.int .i64 (l:Int))(h1:l<=s.length):jc x (some lo) none ls env=some (.str (s.drop l)):=by
 show lJ (x ls env) (λs=>gZ (lo ls env) λl=>bi (Nat.ble l (len' s)) (bi (Nat.ble (len' s) (len' s)) (ob (takeN (Nat.sub (len' s) l) (jo l s)) λr=>some (j3.str r)) none) none)=_;rw [hx,Cr,hl,zm,uR,I9,show Nat.ble l s.length=true from Z5 h1,show Nat.ble s.length s.length=true from Z5 (J2 _),P7,P7,gN,
  show Nat.sub s.length l=s.length-l from rfl,gQ _ _ (by simp),aar (by simp)];rfl
theorem fH (hx:x ls env=.str s)(hl:lo ls env=.int .i64 (l:Int))(h1:l<s.length):sG x lo ls env=some (.int .u8 (s[l].toNat:Nat)):=by show lJ (x ls env) (λs=>gZ (lo ls env) λk=>ob (mK k s) λb=>some (j3.int .u8 b.toNat))=_;rw [hx,Cr,hl,zm,uR,iY,J7 h1];rfl
theorem Kg {b:UInt8}{t:List UInt8}(hx:x ls env=.str (b::t))(hl:lo ls env=.int .i64 0):sG x lo ls env=some (.int .u8 (b.toNat:Nat)):=by have:=fH (l:=0) hx (by simpa using hl) (by simp);simpa using this
end
def strs (l:List (List UInt8)):List j3:=l.map j3.str
theorem eH (l:List (List UInt8)):(strs l).length=l.length:=by simp [strs]
def V7 (m:Mem)(rs:Nat)(v:j3)(l:List (List j3)):Prop:=
 (v=.nilSlice∧l=[])∨∃id o,((∃c,v=.slice id (o*rs) l.length c∧l.length<=c)∨v=.sliceU id (o*rs) l.length rs)∧id<m.nx∧
  (l=[]∨∃n rows,m.get id=some (.cells rs n rows)∧o+l.length<=n∧(∀r,r∈l->r.length=rs)∧∀i (h:i<l.length),rows.get (o+i)=some l[i])
section
variable {m m':Mem}{rs:Nat}{v:j3}{l:List (List j3)}
theorem V7.keep (hv:V7 m rs v l)(hn:m.nx<=m'.nx)(h:∀id n rows,id<m.nx->m.get id=some (.cells rs n rows)->(∃o l c,v=.slice id o l c)∨(∃o l e,v=.sliceU id o l e)->m'.get id=m.get id):V7 m' rs v l:=by rcases hv with hv | ⟨id,o,h1,h2,h3⟩;exact .inl hv;refine .inr ⟨id,o,h1,Xb h2 hn,?_⟩;rcases h3 with h3 | ⟨n,rows,h4,h5⟩;exact .inl h3;refine .inr ⟨n,rows,(h id n rows h2 h4 ?_).trans h4,h5⟩;rcases h1 with⟨c,rfl,_⟩ | rfl;exact .inl ⟨_,_,_,rfl⟩;exact .inr ⟨_,_,_,rfl⟩
theorem V7.ext (h:Ext m m')(hv:V7 m rs v l):V7 m' rs v l:=hv.keep h.nx λid _ _ hi _ _=>h.old id hi
theorem V7.cells (h:V7 m rs v l):v.cells=[v]:=by rcases h with⟨rfl,rfl⟩ | ⟨id,off,⟨c,rfl,_⟩ | rfl,_⟩<;>rfl
theorem V7.mZ (h:V7 m rs v l){β:Type}(p:j3->β)(q:β):dx v p q=q:=by rcases h with⟨rfl,rfl⟩ | ⟨id,off,⟨c,rfl,_⟩ | rfl,_⟩<;>rfl
theorem V7.K5 (h:V7 m rs v l):Go.AM.K5 v=true:=by rcases h with⟨rfl,rfl⟩ | ⟨id,off,⟨c,rfl,_⟩ | rfl,_⟩<;>rfl
theorem V7.len (h:V7 m rs v l):jV v (some (j3.int .i64 0)) (λ_ _ n _=>some (.int .i64 n)) (λ_ _ n _=>some (.int .i64 n))=some (.int .i64 l.length):=by rcases h with⟨rfl,rfl⟩ | ⟨id,off,⟨c,rfl,_⟩ | rfl,_⟩<;>rfl
theorem V7.lenOf (h:V7 m rs v l):Go.AM.lenOf v=some l.length:=by rcases h with⟨rfl,rfl⟩ | ⟨id,off,⟨c,rfl,_⟩ | rfl,_⟩<;>rfl
theorem SL {n i rs:Nat}{rows:T (List j3)}{r:List j3}(hi:i<n)(h:rows.get i=some r)(hl:r.length=rs){j k:Nat}(hj:j<rs)(hk:j+k<=rs):Hy (some (.cells rs n rows)) (i*rs+j) k=some (.agg ((r.drop j).take k)):=by show Q9 (some (O9.cells rs n rows)) (λrs' n rows=>ob (eU rs' n rows (i*rs+j) k) λl=>some (j3.agg l))=_;rw [kT,xS hj hi h hl hk,P5]
theorem V7.at (h:V7 m rs v l){i:Nat}(hi:i<l.length):
  ∃id o,jV v none (λid off len _=>idx len (.int .i64 i) λk=>some (j3.ptr id (off+k*rs))) (λid off len _=>idx len (.int .i64 i) λk=>some (j3.ptr id (off+k*rs)))=some (.ptr id o)∧id<m.nx∧
   (l[i]).length=rs∧(∀j k,j<rs->j+k<=rs->Hy (m.get id) (o+j) k=some (.agg (((l[i]).drop j).take k)))∧∀j,j<rs->ld1 (m.get id) (o+j)=(l[i])[j]?:=by
 rcases h with⟨_,rfl⟩ | ⟨id,off,h1,h2,h3⟩;simp at hi;rcases h3 with rfl | ⟨n,rows,h4,h5,h7,h6⟩;simp at hi;have hlen:=h7 l[i] (abX hi);refine⟨id,off*rs+i*rs,?_,h2,hlen,λj k hj hk=>?_,λj hj=>?_⟩;rcases h1 with⟨c,rfl,_⟩ | rfl;simp only [qM];rw [pV _ _ _ hi];simp only [oh];rw [pV _ _ _ hi];rw [← ae3,h4];exact SL (by omega) (h6 i hi) hlen hj hk;rw [← ae3,h4];show Q9 (some (O9.cells rs n rows)) (λrs' n rows=>cell1 rs' n rows ((off+i)*rs+j))=_;rw [kT,vT hj (by omega) (h6 i hi)]
end
def aM (lo rs:Nat)(m:Mem)(v:j3)(l:List (List j3)):Prop:=
 (v=.nilSlice∧l=[])∨∃id,lo<=id∧id<m.nx∧O0 l.flatten=true∧EO m id rs l∧l≠[]∧(v=.slice id 0 l.length l.length∨v=.sliceU id 0 l.length rs)
section
variable {m m':Mem}{lo rs:Nat}{v:j3}{l:List (List j3)}
theorem aM.nil (lo rs:Nat)(m:Mem):aM lo rs m .nilSlice []:=.inl ⟨rfl,rfl⟩
theorem aM.keep (h:aM lo rs m v l)(hn:m.nx<=m'.nx)(ho:∀i,lo<=i->i<m.nx->m'.get i=m.get i):aM lo rs m' v l:=by rcases h with h | ⟨id,h1,h2,h3,h4,h5⟩;exact .inl h;exact .inr ⟨id,h1,Xb h2 hn,h3,h4.same (ho id h1 h2),h5⟩
theorem aM.ext (h:aM lo rs m v l)(e:Ext m m'):aM lo rs m' v l:=h.keep e.nx λi _ hi=>e.old i hi
theorem aM.lt (h:aM lo rs m v l){i o n e:Nat}(hv:v=.sliceU i o n e):lo<=i∧i<m.nx:=by rcases h with⟨rfl,_⟩ | ⟨id,h1,h2,_,_,_,rfl | rfl⟩;cases hv;cases hv;cases hv;exact⟨h1,h2⟩
theorem aM.down {lo':Nat}(h:aM lo rs m v l)(hl:lo'<=lo):aM lo' rs m v l:=by rcases h with h | ⟨id,h1,h2⟩;exact .inl h;exact .inr ⟨id,Xl hl h1,h2⟩
theorem aM.slice (h:aM lo rs m v l):V7 m rs v l:=by rcases h with h | ⟨id,h1,h2,h3,h4,_,h5⟩;exact .inl h;obtain⟨p,hl,c,t,c',q1,q2,q0,q3,q4⟩:=h4;refine .inr ⟨id,0,?_,h2,.inr ⟨c,t,q1,by simpa using q2,hl,λi hi=>?_⟩⟩;rw [afo];rcases h5 with h5 | h5;exact .inl ⟨_,h5,J2 _⟩;exact .inr h5;simp only [aav];exact q4 i hi
theorem VF {n bytes es:Nat}(h:n<=100000)(hb:1<=bytes∧bytes<=1000)(he:1<=es):big n bytes es=true:=by show bi (Nat.ble ((2*n+2048)*bytes) 281474976710656) (bi (Nat.ble 1 es) (Nat.ble 1 bytes) false) false=true;rw [show Nat.ble ((2*n+2048)*bytes) 281474976710656=true from Z5 (Xl (Nat.mul_le_mul (show 2*n+2048<=202048 by omega) hb.2) (by decide)),show Nat.ble 1 bytes=true from Z5 hb.1,show Nat.ble 1 es=true from Z5 he];rfl
theorem Ng (hm:m.Ok)(hlo:lo<=m.nx)(hp:0<rs)(hl:∀r,r∈l->r.length=rs)(h1:O0 l.flatten=true)(hne:l≠[]):grown m rs l.length l.flatten=some [⟨.sliceU m.nx 0 l.length rs,m.new (.cells rs l.length (T.ofList l))⟩]∧aM lo rs (m.new (.cells rs l.length (T.ofList l))) (.sliceU m.nx 0 l.length rs) l:=
 ⟨Pk (m:=m) hl,.inr ⟨m.nx,hlo,by simp,h1,QC hm hp hl,hne,.inr rfl⟩⟩
theorem VG {bytes:Nat}{r:List j3}(hm:m.Ok)(hlim:m.lim<=lo)(hlo:lo<=m.nx)(hp:0<rs)(h:aM lo rs m v l)(hr:r.length=rs)(h1:O0 r=true)(hb:l.length+1<=100000)(hby:1<=bytes∧bytes<=1000):
  ∃v' m',Gt m rs bytes 1 r v=some [⟨v',m'⟩]∧aM m.nx rs m' v' (l ++ [r])∧Fr lo lo m m'∧(∀i,i<m.nx->(∀o n e,v≠.sliceU i o n e)->m'.get i=m.get i):=by
 have old:∀b,∀i,i<m.nx->(∀o n e,v≠.sliceU i o n e)->(m.new b).get i=m.get i:=λb i hi _=>by rw [Mem.N7 hm,if_neg (by omega)]
 have hfl:[r].flatten=r:=by simp
 rcases h with⟨rfl,rfl⟩ | ⟨id,i1,i2,i3,ha,hne,hv⟩;obtain⟨g,o⟩:=Ng (lo:=m.nx) (rs:=rs) (l:=[r]) hm (J2 _) hp (by simpa using hr) (by rw [hfl];exact h1) (by simp);refine⟨_,_,?_,by rw [aec];exact o,Fr.new hm hlo _,old _⟩;rw [← g,hfl];show bi (big 1 bytes rs) _ none=_;rw [VF (by simp) hby hp];rfl;have hl1:O0 (l ++ [r]).flatten=true:=by rw [aiz,hfl,lF,i3,h1];rfl
 have hlr:∀x,x∈l ++ [r]->x.length=rs:=λx hx=>by rcases aaF.1 hx with h | h;exact ha.len x h;rw [J3.1 h];exact hr
 obtain⟨p,hl,c,t,c',q1,q2,q0,q3,q4⟩:=ha;have hne':0<l.length:=afP.2 hne;have hrd:U4 rs c t (l.length*rs) 0=some l.flatten:=by
  have:=Gi (rs:=rs) (n:=c) (rows:=t) hl q4 q2 l.length 0 (by simp)
  rwa [afo,Y3] at this
 rcases hv with rfl | rfl;obtain⟨g,o⟩:=Ng (lo:=m.nx) (rs:=rs) (l:=l ++ [r]) hm (J2 _) hp hlr hl1 (by simp);refine⟨_,_,?_,o,Fr.new hm hlo _,old _⟩;rw [← g];show Df m rs bytes 1 r id 0 l.length l.length=_;unfold Df;have e1:Nat.ble (Nat.add l.length 1) l.length=false:=by rw [ac3];intro e;have:l.length+1<=l.length:=Y2 e;omega
 have e2:X0 m id 0 (Nat.mul l.length rs)=some l.flatten:=by have e:Nat.mul l.length rs=l.length*rs:=rfl;rw [e];obtain⟨j,hj⟩:∃j,l.length*rs=j+1:=⟨l.length*rs-1,by have:=Nat.mul_pos hne' hp;omega⟩;rw [hj];show Q9 (m.get id) (λrs' k' rows=>U4 rs' k' rows (j+1) 0)=_;rw [q1,kT,← hj,hrd]
 rw [e1,S9,show Nat.add l.length 1=(l ++ [r]).length from by simp,VF (by simpa using hb) hby hp,P7,e2,P5,V5];simp;have hset:(m.set id .dead).Ok:=Mem.Ok.set hm i2 _;have hfr:∀b,Fr lo lo m ((m.set id .dead).new b):=λb=>⟨Mem.Ok.new hset _,by simp,by simp,λi hi _=>by
  rw [Mem.N7 hset,if_neg (by simp;omega),Mem.Z0 hm i2,if_neg (by omega)]⟩
 have hl1':Nat.ble m.lim id=true:=Z5 (by omega);have hput:∃c'',l.length+1<=c''∧T.Ok (t.put l.length r) c'':=by
  by_cases hc:l.length<c';exact⟨c',hc,T.Ok.put q3 _ _ hc⟩;obtain rfl:c'=l.length:=by omega
  exact⟨l.length+1,J2 _,T.Ok.push q3 _⟩
 obtain⟨c'',r1,r2⟩:=hput;refine⟨.sliceU m.nx 0 (l.length+1) rs,(m.set id .dead).new (.cells rs (l.length+1) (t.put l.length r)),?_,.inr ⟨m.nx,J2 _,by simp,hl1,⟨hp,hlr,l.length+1,t.put l.length r,c'',?_,by simp,r1,r2,λi hi=>?_⟩,by simp,.inr (by simp)⟩,hfr _,λi hi hv=>?_⟩;show Ue m rs bytes 1 r id 0 l.length rs=_;show bi (Nat.beq rs rs) (bi (big (l.length+1) bytes rs) (bi (Nat.ble m.lim id) (bi (O0 r) (La (m.get id) _ _) none) none) none) none=_;rw [VF (by simpa using hb) hby hp,hl1',h1,q1,show Nat.beq rs rs=true from ac0 rs];show bi (bi (Nat.beq rs rs) (bi (Nat.beq 0 0) (bi (Nat.ble l.length c) (bi (Nat.beq 1 1) (bi (Nat.beq (len' r) rs) (Nat.blt 0 l.length) false) false) false) false) false) _ _=_;rw [show Nat.ble l.length c=true from Z5 q2,show Nat.blt 0 l.length=true from Eq.mpr Y8 hne',I9,hr,show Nat.beq rs rs=true from ac0 rs];rfl;rw [Mem.N7 hset];simp;by_cases hil:i=l.length;subst hil;rw [T.bI q3 _ _ (by omega)];simp;have hil':i<l.length:=by simp at hi;omega
 rw [T.bO q3 _ _ _ (by omega) (aiA hil),q4 i hil'];simp [List.getElem_append_left,hil'];have hid:i≠id:=by rintro rfl;exact hv _ _ _ rfl
 rw [Mem.N7 hset,if_neg (by simp;omega),Mem.Z0 hm i2,if_neg hid]
theorem rZ {bytes:Nat}{x:j3}{r:List j3}(hm:m.Ok)(hlim:m.lim<=lo)(hlo:lo<=m.nx)(hp:0<rs)(h:aM lo rs m v l)(hx:V7 m rs x [r])(hr:r.length=rs)(h1:O0 r=true)(hb:l.length+1<=100000)(hby:1<=bytes∧bytes<=1000):
  ∃v' m',(∀(s y:OF) (cf:F4) (ls:List j3) (env:T j3),s ls env=v->y ls env=x->qh rs bytes s y cf ls env m=some [⟨v',m'⟩])∧aM m.nx rs m' v' (l ++ [r])∧Fr lo lo m m'∧(∀i,i<m.nx->(∀o n e,v≠.sliceU i o n e)->m'.get i=m.get i):=by
 obtain⟨v',m',g1,g2,g3,g4⟩:=VG hm hlim hlo hp h hr h1 hb hby;refine⟨v',m',λs y cf ls env hs hy=>?_,g2,g3,g4⟩;have hrd:iW m rs 1 x=some r:=by
  rcases hx with⟨_,h⟩ | ⟨id,o,q1,q2,q3⟩;cases h;rcases q3 with h | ⟨n,rows,e1,e2,e3,e4⟩;cases h;have key:X0 m id (o*rs) (Nat.mul 1 rs)=some r:=by
   have e:Nat.mul 1 rs=1*rs:=rfl;have hl':=zB (rs:=rs) (n:=n) (rows:=rows) (i:=o) (by simp at e2;omega) (by simpa using e4 0 (by simp)) hr;obtain⟨j,hj⟩:∃j,1*rs=j+1:=⟨rs-1,by omega⟩;have hj':rs=j+1:=by omega
   rw [e,hj];show Q9 (m.get id) (λrs' k' rows=>U4 rs' k' rows (j+1) (o*rs))=_;rw [e1,kT,← hj'];have:=hl' rs 0 (by omega)
   rwa [aay,Y3] at this
  rcases q1 with⟨c,rfl,_⟩ | rfl<;>exact key
 show ob (AM.lenOf (y ls env)) (λn=>ob (iW m rs n (y ls env)) λnew=>Gt m rs bytes n new (s ls env))=_;rw [hy,hs,hx.lenOf,P5];show ob (iW m rs 1 x) _=_;rw [hrd,P5];exact g1
theorem Kh {bytes:Nat}{x:j3}{r:List j3}(hm:m.Ok)(hlim:m.lim<=lo)(hlo:lo<=m.nx)(hp:0<rs)(h:aM lo rs m v l)(hx:V7 m rs x [r])(hr:r.length=rs)(h1:O0 r=true)(hb:l.length+1<=100000)(hby:1<=bytes∧bytes<=1000):
  ∃v' m',(∀(s y:OF) (cf:F4) (ls:List j3) (env:T j3),s ls env=v->y ls env=x->qh rs bytes s y cf ls env m=some [⟨v',m'⟩])∧aM lo rs m' v' (l ++ [r])∧Fr lo lo m m'∧(∀i,i<m.nx->(∀o n e,v≠.sliceU i o n e)->m'.get i=m.get i):=by
 obtain⟨v',m',g1,g2,g3⟩:=rZ hm hlim hlo hp h hx hr h1 hb hby;exact⟨v',m',g1,g2.down hlo,g3⟩
theorem oz (hm:m.Ok)(r:List j3)(hp:0<r.length):V7 (m.new (j4 r)) r.length (.slice m.nx 0 1 1) [r]:=
 .inr ⟨m.nx,0,.inl ⟨1,by simp,by simp⟩,by simp,.inr ⟨1,T.ofList [r],by rw [Mem.N7 hm,if_pos rfl];simp [j4];rfl,by simp,by simp,λi hi=>by
  obtain rfl:i=0:=by simpa using hi
  rw [T.aG];rfl⟩⟩
end
def pW (m:Mem)(S:Nat->Prop)(rs:Nat)(v:j3)(l:List (List j3)):Prop:=
 (v=.nilSlice∧l=[])∨∃id o,S id∧((∃c,v=.slice id (o*rs) l.length c∧l.length<=c)∨v=.sliceU id (o*rs) l.length rs)∧id<m.nx∧
  (l=[]∨∃n rows,m.get id=some (.cells rs n rows)∧o+l.length<=n∧(∀r,r∈l->r.length=rs)∧∀i (h:i<l.length),rows.get (o+i)=some l[i])
section
variable {m m':Mem}{S S':Nat->Prop}{rs:Nat}{v:j3}{l:List (List j3)}
theorem pW.slice (h:pW m S rs v l):V7 m rs v l:=by rcases h with h | ⟨id,o,_,h⟩;exact .inl h;exact .inr ⟨id,o,h⟩
theorem pW.mono (h:pW m S rs v l)(hn:m.nx<=m'.nx)(ho:∀i,i<m.nx->S i->m'.get i=m.get i)(hS:∀i,i<m.nx->S i->S' i):pW m' S' rs v l:=by rcases h with h | ⟨id,o,h0,h1,h2,h3⟩;exact .inl h;refine .inr ⟨id,o,hS _ h2 h0,h1,Xb h2 hn,?_⟩;rcases h3 with h3 | ⟨n,rows,h4,h5⟩;exact .inl h3;exact .inr ⟨n,rows,(ho id h2 h0).trans h4,h5⟩
theorem V7.all (h:V7 m rs v l):pW m (λi=>i<m.nx) rs v l:=by rcases h with h | ⟨id,o,h1,h2,h3⟩;exact .inl h;exact .inr ⟨id,o,h2,h1,h2,h3⟩
theorem aM.s {lo:Nat}(h:aM lo rs m v l):pW m (λi=>lo<=i) rs v l:=by rcases h with h | ⟨id,h1,h2,h3,h4,_,h5⟩;exact .inl h;obtain⟨p,hl,c,t,c',q1,q2,q0,q3,q4⟩:=h4;refine .inr ⟨id,0,h1,?_,h2,.inr ⟨c,t,q1,by simpa using q2,hl,λi hi=>?_⟩⟩;rw [afo];rcases h5 with h5 | h5;exact .inl ⟨_,h5,J2 _⟩;exact .inr h5;simp only [aav];exact q4 i hi
end
inductive Ex where
 | mk (k n:Int) (s:List UInt8) (a:List Ex)
inductive dO where
 | mk (k:Int) (s:List UInt8) (e:List Ex) (t f:List dO)
mutual
def Q6 (m:Mem)(S:Nat->Prop):Ex->List j3->Prop
 | .mk k n s a,row=>∃v rows,row=[.int .i64 k,.int .i64 n,.str s,v]∧pW m S 4 v rows∧H8 m S a rows
def H8 (m:Mem)(S:Nat->Prop):List Ex->List (List j3)->Prop
 | [],rows=>rows=[]
 | e::es,rows=>∃r rs,rows=r::rs∧Q6 m S e r∧H8 m S es rs
end
mutual
def iE (m:Mem)(S:Nat->Prop):dO->List j3->Prop
 | .mk k s e t f,row=>∃ve vt vf re rt rf,row=[.int .i64 k,.str s,ve,vt,vf]∧pW m S 4 ve re∧H8 m S e re∧pW m S 5 vt rt∧G8 m S t rt∧pW m S 5 vf rf∧G8 m S f rf
def G8 (m:Mem)(S:Nat->Prop):List dO->List (List j3)->Prop
 | [],rows=>rows=[]
 | s::ss,rows=>∃r rs,rows=r::rs∧iE m S s r∧G8 m S ss rs
end
section
variable {m m':Mem}{S S':Nat->Prop}(hn:m.nx<=m'.nx)(ho:∀i,i<m.nx->S i->m'.get i=m.get i)(hS:∀i,i<m.nx->S i->S' i)
include hn ho hS
mutual
theorem Q6.mono:∀(e:Ex) (row:List j3),Q6 m S e row->Q6 m' S' e row
 | .mk k n s a,row,⟨v,rows,h1,h2,h3⟩=>⟨v,rows,h1,h2.mono hn ho hS,H8.mono a rows h3⟩
theorem H8.mono:∀(l:List Ex) (rows:List (List j3)),H8 m S l rows->H8 m' S' l rows
 | [],_,h=>h
 | e::es,_,⟨r,rs,h1,h2,h3⟩=>⟨r,rs,h1,Q6.mono e r h2,H8.mono es rs h3⟩
end
mutual
theorem iE.mono:∀(e:dO) (row:List j3),iE m S e row->iE m' S' e row
 | .mk k s e t f,row,⟨ve,vt,vf,re,rt,rf,h1,h2,h3,h4,h5,h6,h7⟩=>⟨ve,vt,vf,re,rt,rf,h1,h2.mono hn ho hS,H8.mono hn ho hS e re h3,h4.mono hn ho hS,G8.mono t rt h5,h6.mono hn ho hS,G8.mono f rf h7⟩
theorem G8.mono:∀(l:List dO) (rows:List (List j3)),G8 m S l rows->G8 m' S' l rows
 | [],_,h=>h
 | e::es,_,⟨r,rs,h1,h2,h3⟩=>⟨r,rs,h1,iE.mono e r h2,G8.mono es rs h3⟩
end
end
section
variable {m m':Mem}{S:Nat->Prop}
theorem H8.len:∀{l:List Ex} {rows:List (List j3)},H8 m S l rows->rows.length=l.length
 | [],_,h=>by cases h;rfl
 | e::es,_,⟨r,rs,h1,h2,h3⟩=>by rw [h1,abW,H8.len h3];rfl
theorem G8.len:∀{l:List dO} {rows:List (List j3)},G8 m S l rows->rows.length=l.length
 | [],_,h=>by cases h;rfl
 | e::es,_,⟨r,rs,h1,h2,h3⟩=>by rw [h1,abW,G8.len h3];rfl
theorem H8.get:∀{l:List Ex} {rows:List (List j3)},H8 m S l rows->∀i (h:i<l.length) (h':i<rows.length),Q6 m S l[i] rows[i]
 | e::es,_,⟨r,rs,h1,h2,h3⟩,0,h,h'=>by subst h1;exact h2
 | e::es,_,⟨r,rs,h1,h2,h3⟩,i+1,h,h'=>by subst h1;exact H8.get h3 i (by simpa using h) (by simpa using h')
theorem G8.get:∀{l:List dO} {rows:List (List j3)},G8 m S l rows->∀i (h:i<l.length) (h':i<rows.length),iE m S l[i] rows[i]
 | e::es,_,⟨r,rs,h1,h2,h3⟩,0,h,h'=>by subst h1;exact h2
 | e::es,_,⟨r,rs,h1,h2,h3⟩,i+1,h,h'=>by subst h1;exact G8.get h3 i (by simpa using h) (by simpa using h')
theorem H8.snoc:∀{l:List Ex} {rows:List (List j3)} {e:Ex} {r:List j3},H8 m S l rows->Q6 m S e r->H8 m S (l ++ [e]) (rows ++ [r])
 | [],_,e,r,h,h'=>by cases h;exact⟨r,[],rfl,h',rfl⟩
 | _ :: _,_,e,r,⟨r0,rs,h1,h2,h3⟩,h'=>by subst h1;exact⟨r0,rs ++ [r],rfl,h2,H8.snoc h3 h'⟩
theorem G8.snoc:∀{l:List dO} {rows:List (List j3)} {e:dO} {r:List j3},G8 m S l rows->iE m S e r->G8 m S (l ++ [e]) (rows ++ [r])
 | [],_,e,r,h,h'=>by cases h;exact⟨r,[],rfl,h',rfl⟩
 | _ :: _,_,e,r,⟨r0,rs,h1,h2,h3⟩,h'=>by subst h1;exact⟨r0,rs ++ [r],rfl,h2,G8.snoc h3 h'⟩
def pX (m:Mem)(S:Nat->Prop)(l:List Ex)(v:j3):Prop:=∃rows,pW m S 4 v rows∧H8 m S l rows
def dS (m:Mem)(S:Nat->Prop)(l:List dO)(v:j3):Prop:=∃rows,pW m S 5 v rows∧G8 m S l rows
theorem Q6.row {e:Ex}{row:List j3}(h:Q6 m S e row):row.length=4∧O0 row=true:=by obtain⟨k,n,s,a⟩:=e;obtain⟨v,rows,rfl,h2,_⟩:=h;refine⟨rfl,?_⟩;have hv:=h2.slice.K5;rw [dJ,dJ,dJ,dJ,hv];rfl
theorem iE.row {e:dO}{row:List j3}(h:iE m S e row):row.length=5∧O0 row=true:=by obtain⟨k,s,e,t,f⟩:=e;obtain⟨ve,vt,vf,re,rt,rf,rfl,h2,_,h4,_,h6,_⟩:=h;refine⟨rfl,?_⟩;have a:=h2.slice.K5;have b:=h4.slice.K5;have c:=h6.slice.K5;rw [dJ,dJ,dJ,dJ,dJ,a,b,c];rfl
end
open Go Go.RowKit
section
variable {P:Program}{G:Mem}{ι:K4}{m:Mem}{w w':World}
theorem xV (h:RM P G ι m w.heap)(hb:Below w.heap.size w w'):Step P G ι m w ι m w':=by refine⟨⟨h.ok,λi x hx=>?_,λi x hi hx hl=>?_,h.glim,h.limn,h.gle,h.base,h.ghas,h.glob,h.spot,h.Ll λk hk _=>hb.block k hk⟩,λ_ _=>rfl,λ_ h=>h,J2 _,rfl,λ_ _=>rfl,hb.size,λb hb' _=>hb.block b hb',λ_ h=>.inl h,hb.os,hb.output,hb.tape⟩;exact (h.blk i x hx).mono (n:=m.nm ι) (λ_ _=>rfl) (Mem.ah (λ_ h=>h) λ_ _=>rfl) λhl=>hb.block _ (dD (h.blk i x hx) hl);have ho:=h.own i x hi hx hl;refine⟨ho.alone,λc e fz hc=>?_⟩;rw [hb.block _ (dD (h.blk i x hx) hl)] at hc;exact ho.free c e fz hc
theorem VH (h:RM P G ι m w.heap)(hb:Below w.heap.size w w')(b:O9)(l:Loc)(hv:bQ b=false)(hA:w.heap.size<=l.b)
  (hblk:bP P (ι.upd m.nx l) ((m.new b).nm (ι.upd m.nx l)) w'.heap l b)
  (hfree:U2 b=true->∀c e fz,w'.heap[l.b]?=some (.cells c e fz)->∀k,k<c.size->¬ (fz.1<=k∧k<fz.2)) (hspot:U2 b=true->l.spot=none):
  Step P G ι m w (ι.upd m.nx l) (m.new b) w':=by
 have s1:=xV h hb;have s2:=s1.trans (Ej s1.rm);have hget:=Mem.N7 h.ok .void;have hvoid:(m.new .void).get m.nx=some .void:=by rw [hget,if_pos rfl]
 have s3:=s2.rename (ι2:=ι.upd m.nx l) λi ⟨x,hx,hxv⟩=>ι.upd_ne l λe=>by subst e;rw [hvoid] at hx;cases hx;cases hxv
 have e:(m.new .void).set m.nx b=m.new b:=Mem.Ct h.ok .void b;have s4:=s3.add (id:=m.nx) (b:=b) hvoid h.limn ⟨by rw [e,ι.Q8];exact hblk,hv,λhl j y hj hy hly=>?_,λhl c e' fz hc=>?_,λhl=>by rw [ι.Q8];exact hspot hl⟩ (λ_=>by rw [ι.Q8];exact hA);rw [e] at s4;exact s4;rw [hget,if_neg hj] at hy;rw [ι.Q8,ι.upd_ne l hj];have:=dD (h.blk j y hy) hly;omega;rw [ι.Q8] at hc;exact hfree hl c e' fz hc
end
section
variable {P:Program}{G:Mem}
theorem qO {f:FuncId}{args:List j3}{v:j3}(hans:wI (layAll [] G).nx ⟨v,O5 G []⟩=some ⟨v,[]⟩)(hlt:∀n:Nm,v.lt n)(hcv:∀ι ι',o8 ι v=o8 ι' v)
  (hc:∀(ι:K4) (w:World),RM P G ι (O5 G []) w.heap->Calls P f (y7 ι args).toArray w λe w'=>e=.returned (o8 ι v)∧Below w.heap.size w w'):jC P G f args [] ⟨v,[]⟩:=by
 intro ι w hm hargs;refine callsIn_wide.2 ((hc ι w hm).mono ?_);rintro e w' ⟨rfl,hb⟩;exact⟨ι,⟨v,O5 G []⟩,xV hm hb,hlt _,rfl,hans⟩
theorem QD {f:FuncId}{args:List j3}{v:j3}{nb:NB}(hans:wI (layAll [] G).nx ⟨v,(O5 G []).new (dQ nb)⟩=some ⟨v,[nb]⟩)
  (hc:∀(ι:K4) (w:World),RM P G ι (O5 G []) w.heap->Calls P f (y7 ι args).toArray w λe w'=>∃l:Loc,e=.returned (o8 (ι.upd G.nx l) v)∧Below w.heap.size w w'∧w.heap.size<=l.b∧
   v.lt (((O5 G []).new (dQ nb)).nm (ι.upd G.nx l))∧bP P (ι.upd G.nx l) (((O5 G []).new (dQ nb)).nm (ι.upd G.nx l)) w'.heap l (dQ nb)∧
   (U2 (dQ nb)=true->(∀c e fz,w'.heap[l.b]?=some (.cells c e fz)->∀k,k<c.size->¬ (fz.1<=k∧k<fz.2))∧l.spot=none)):jC P G f args [] ⟨v,[nb]⟩:=by
 intro ι w hm hargs;refine callsIn_wide.2 ((hc ι w hm).mono ?_);rintro e w' ⟨l,rfl,hb,hA,hlt,hblk,hfs⟩;have hn:(O5 G []).nx=G.nx:=rfl;exact⟨ι.upd G.nx l,⟨v,(O5 G []).new (dQ nb)⟩,VH hm hb (dQ nb) l (xQ nb) hA hblk (λhl=>(hfs hl).1) (λhl=>(hfs hl).2),hlt,rfl,hans⟩
end
end
end Go.AM
namespace Go.AM
open Go Go.RowKit
noncomputable section
theorem ES (m:Mem)(lo n:Nat)(seen:List (Nat×NB)):reach m lo (n+1) [] seen=some seen.reverse:=rfl
theorem SN {m:Mem}{lo i:Nat}{b:O9}{nb:NB}(h:m.get i=some b)(hb:yB b=some nb)(hi:Rm lo nb=[])(n:Nat):reach m lo (n+2) [i] []=some [(i,nb)]:=by show bi (Gv i []) (reach m lo (n+1) [] []) (ob (m.get i) λb=>ob (yB b) λnb=>reach m lo (n+1) (Rm lo nb ++ []) [(i,nb)])=_;rw [h,P5,hb,P5,hi];rfl
theorem SQ (lo:Nat):xk lo [lo] lo=some lo:=by show bi (Nat.ble lo lo) (bi (Nat.beq lo lo) (some lo) none) _=_;rw [show Nat.ble lo lo=true from Z5 (J2 _),show Nat.beq lo lo=true from ac0 lo];rfl
section
variable {G:Mem}
theorem Nh (hG:T.Ok G.t G.nx)(k:Int)(t:TypeId):wI (layAll [] G).nx ⟨.tuple [.int .i64 k,.iface t (.ptr G.nx 0)],(O5 G []).new .dead⟩=some ⟨.tuple [.int .i64 k,.iface t (.ptr G.nx 0)],[.dead]⟩:=by
 have hg:((O5 G []).new .dead).get G.nx=some .dead:=by rw [Mem.N7 (m:=O5 G []) hG];exact if_pos rfl
 have hr:=SN (lo:=G.nx) hg (nb:=.dead) rfl rfl 99998;have hi:tX G.nx [j3.tuple [.int .i64 k,.iface t (.ptr G.nx 0)]]=[G.nx]:=by show ([]++(bi (Nat.ble G.nx G.nx) [G.nx] [] ++ [])) ++ []=_;rw [show Nat.ble G.nx G.nx=true from Z5 (J2 _)];rfl
 have hc:iX G.nx [j3.tuple [.int .i64 k,.iface t (.ptr G.nx 0)]] ((O5 G []).new .dead)=some ⟨[G.nx],[.tuple [.int .i64 k,.iface t (.ptr G.nx 0)]],[.dead]⟩:=by show ob (reach _ G.nx (99998+2) (tX G.nx _) []) _=_;rw [hi,hr];show ob (ob (ob (ob (some (j3.int .i64 k)) λx=>ob (ob (ob (ob (xk G.nx [G.nx] G.nx) λj=>some (j3.ptr j 0)) λx=>some (j3.iface t x)) λx=>ob (some []) λy=>some (x::y)) λy=>some (x::y)) λx=>some (j3.tuple x)) λx=>ob (some []) λy=>some (x::y)) (λxs=>ob (some [NB.dead]) λbs=>some (⟨[G.nx],xs,bs⟩:CO))=_;rw [SQ];rfl
 show ob (iX G.nx _ _) _=_;rw [hc];rfl
end
theorem ET {lo:Nat}{v:j3}(m:Mem)(h1:tX lo [v]=[])(h2:∀r,kH r [v]=some [v]):iX lo [v] m=some ⟨[],[v],[]⟩:=by show ob (reach m lo (99999+1) (tX lo [v]) []) _=_;rw [h1,ES];show ob (kH (xk lo []) [v]) (λxs=>ob (some []) λbs=>some (⟨[],xs,bs⟩:CO))=_;rw [h2];rfl
theorem Ki {K:Known}{cf:F4}{fuel:Nat}{f:FuncId}{sf:aT}{args:List j3}{m:Mem}{c:CO}{a:AZ}(hc:iX K.base.nx args m=some c)(ha:K.sum f c.vs c.bs=some a):
  iL K cf fuel f sf args m=ob (eB (fU K.base.nx c.ids m.nx) a.v) λv=>ob (sJ (fU K.base.nx c.ids m.nx) a.bs) λbs=>one v (layAll bs m):=by
 show ob (iX K.base.nx args m) (λc=>ob (Ba K cf fuel f sf c.vs c.bs) λa=>ob (eB (fU K.base.nx c.ids m.nx) a.v) λv=>ob (sJ (fU K.base.nx c.ids m.nx) a.bs) λbs=>one v (layAll bs m))=_;rw [hc,P5];have e:Ba K cf fuel f sf c.vs c.bs=some a:=by unfold Ba;rw [ha]
 rw [e,P5]
theorem Pm (g next:Nat):fU g [] next g=some next:=by show bi (Nat.blt g g) (some g) (bi (Nat.blt (g-g) 0) (mK (g-g) []) (some (next+(g-g-0))))=_;rw [show Nat.blt g g=false from ac3.2 λe=>absurd (Y8.mp e) (afB _),Nat.sub_self];rfl
open Go
section
variable (cf:F4)(fu:Nat)(ls:List j3)(env:T j3)(m:Mem)(k:List Mk)
@[simp] theorem adS (x:OF):tK x cf ls env m=Ui (x ls env) m:=id rfl
@[simp] theorem abO (t:TypeId)(v:j3):Ui (.iface t v) m=some [⟨.mZ (.iface t v),m⟩]:=id rfl
@[simp] theorem abP (x:j3):gM k ⟨env,m,some x,[]⟩=some [⟨.ret,env,m,k,some x⟩]:=id rfl
@[simp] theorem abQ (x:Mk):gM k ⟨env,m,none,[x]⟩=some [⟨.normal,env,m,x::k,none⟩]:=id rfl
@[simp] theorem adT (dcf:jG)(rs:List oO)(x:j3):leave dcf rs ⟨.ret,env,m,[],some x⟩=some [⟨.mZ x,m⟩]:=id rfl
@[simp] theorem aao:fZ .nilIface .nilIface=some true:=id rfl
@[simp] theorem Yr (t:TypeId)(v:j3):fZ (.iface t v) .nilIface=some false:=id rfl
@[simp] theorem adU (r:RC):Dj r cf fu none env m k=bnd (r cf [] env m) (gM k):=id rfl
@[simp] theorem afj (g:OF)(args:List OF):Gu g args cf ls env m=KO (g ls env) λfn a b=>some [⟨env,m,none,[.d (.func fn a b) (evs args ls env)]⟩]:=id rfl
def behind (rs:List oO)(env:T j3)(r:Mem×Option j3):bX:=xg rs env r.2 r.1
theorem Kj (dcf:jG)(rs:List oO)(f:FuncId)(a b args:List j3)(pv:Option j3):leave dcf rs ⟨.ret,env,m,[.d (.func (.func f) a b) args],pv⟩=bnd (dcf f (a++(args++b)) pv m) (behind rs env):=by show bnd (dcf f (aX a (aX args b)) pv m) (behind rs env)=_;rw [V5,V5]
@[simp] theorem adV (rs:List oO):behind rs env (m,none)=ob (results rs env m) λl=>some [⟨result l,m⟩]:=id rfl
def aap (b:U6)(r:Le):Option (List Le):=match r.o.x with
 | .normal=>match r.o.marks with
  | []=>wJ b cf fu r.o.env r.o.m r.md
  | _=>none
 | _=>some [r]
variable (md:Option j3)
theorem QE (a b:U6):wJ (.seq a b) cf fu env m md=bnd (wJ a cf fu env m md) (aap cf fu b):=rfl
theorem Ni (c:P6)(a b:U6):wJ (.cond c a b) cf fu env m md=nJ (F9 c [] env) λt=>bi t (wJ a cf fu env m md) (wJ b cf fu env m md):=rfl
def aaq (r:EM×Option j3):Option (List Le):=some [⟨⟨.normal,r.1.env,r.1.m,[],none⟩,r.2⟩]
def Kk (md:Option j3)(o:Out):Option (List Le):=some [⟨o,md⟩]
theorem Nj {ops:List Inst}(h:Dl ops=true):wJ (.reg ops) cf fu env m md=bnd (tY ops cf [] env m md) aaq:=by simp only [wJ,h];rfl
theorem uY {ops:List Inst}(h:Dl ops=false):wJ (.reg ops) cf fu env m md=bnd (vK (.reg ops) cf fu none env m []) (Kk md):=by simp only [wJ,h];rfl
theorem Nk:wJ .skip cf fu env m md=bnd (vK .skip cf fu none env m []) (Kk md):=rfl
@[simp] theorem afk (b:U6):aap cf fu b ⟨⟨.normal,env,m,[],none⟩,md⟩=wJ b cf fu env m md:=id rfl
@[simp] theorem aia (o:Out):Kk md o=some [⟨o,md⟩]:=id rfl
@[simp] theorem afl (e:EM):aaq (e,md)=some [⟨⟨.normal,e.env,e.m,[],none⟩,md⟩]:=id rfl
theorem Ie:Oj [] ⟨⟨.normal,env,m,[],none⟩,md⟩=some [(m,md)]:=rfl
end
theorem AJ (b c:UInt8):Nat.beq b.toNat c.toNat=decide (b=c):=by
 by_cases h:b=c;subst h;rw [decide_eq_true rfl];exact ac0 _;rw [decide_eq_false h];cases hb:Nat.beq b.toNat c.toNat with
 | false=>rfl
 | true=>exact absurd (adE.1 (J4 hb)) h
theorem EU (c:UInt8):∀s:List UInt8,JY c s=decide (0<=Lib.indexByte s c)
 | []=>rfl
 | b::l=>by show bi (Nat.beq b.toNat c.toNat) true (JY c l)=_;rw [AJ,EU c l];have hg:=Lib.indexByte_ge l c;rw [show Lib.indexByte (b::l) c=if b==c then 0 else if Lib.indexByte l c == -1 then -1 else Lib.indexByte l c+1 from rfl];by_cases h:b=c;rw [decide_eq_true h,if_pos (beq_iff_eq.2 h)];rfl;rw [decide_eq_false h,if_neg (by simpa using h)];show decide _=_;by_cases h2:Lib.indexByte l c=-1;rw [if_pos (beq_iff_eq.2 h2),h2];rw [if_neg (by simpa using h2)];exact decide_eq_decide.2 (by omega)
section
variable {P:Program}{G:Mem}
theorem VI (n:Nat)(b:Bool)(m:Mem):wI n ⟨.bool b,m⟩=some ⟨.bool b,[]⟩:=rfl
theorem Yt (n:Nat)(s:List UInt8)(m:Mem):wI n ⟨.str s,m⟩=some ⟨.str s,[]⟩:=rfl
theorem Kl {f:FuncId}(hc:∀(s:ByteArray)(c:UInt8)(w:World),Calls P f #[.string s,.string ⟨#[c]⟩] w λe w'=>e=.returned (.bool (decide (0<=Lib.indexByte s.data.toList c)))∧w'=w)
  (s:List UInt8) (c:UInt8):jC P G f [.str s,.str [c]] [] ⟨.bool (JY c s),[]⟩:=
 qO (VI _ _ _) (λ_=>trivial) (λ_ _=>by simp [o8]) λι w _=>by refine afy (hc ⟨s.toArray⟩ c w) ?_;rintro e w' ⟨rfl,rfl⟩;exact⟨by simp [o8,EU],Below.refl _ _⟩
theorem Ig (c:UInt8):∀s:List UInt8,EG c s=Lib.indexByte s c
 | []=>rfl
 | b::l=>by show bi (Nat.beq b.toNat c.toNat) 0 (bi (aV (EG c l) (Int.negSucc 0)) (Int.negSucc 0) (EG c l+1))=_;rw [AJ,Ig c l,fF];rw [show Lib.indexByte (b::l) c=if b==c then 0 else if Lib.indexByte l c == -1 then -1 else Lib.indexByte l c+1 from rfl];by_cases h:b=c;rw [decide_eq_true h,if_pos (beq_iff_eq.2 h)];rfl;rw [decide_eq_false h,if_neg (by simpa using h)];show bi (Lib.indexByte l c == -1) (-1) (Lib.indexByte l c+1)=_;cases Lib.indexByte l c == -1<;>rfl
theorem Ih (c:UInt8):∀s:List UInt8,EH c s=Lib.countByte s c
 | []=>rfl
 | b::l=>by show bi (Nat.beq b.toNat c.toNat) (Nat.succ (EH c l)) (EH c l)=_;rw [AJ,Ih c l];unfold Lib.countByte;rw [List.count_cons];by_cases h:b=c;rw [decide_eq_true h,if_pos (by simpa using h)];rfl;rw [decide_eq_false h,if_neg (by simpa using h)];rfl
theorem SS {f:FuncId}(hc:∀(s:ByteArray)(c:UInt8)(w:World),Calls P f #[.string s,.string ⟨#[c]⟩] w λe w'=>e=.returned (.int .i64 (Lib.indexByte s.data.toList c))∧w'=w)
  (s:List UInt8) (c:UInt8):jC P G f [.str s,.str [c]] [] ⟨.int .i64 (EG c s),[]⟩:=
 qO rfl (λ_=>trivial) (λ_ _=>by simp [o8]) λι w _=>by refine afy (hc ⟨s.toArray⟩ c w) ?_;rintro e w' ⟨rfl,rfl⟩;exact⟨by simp [o8,Ig],Below.refl _ _⟩
theorem SV {f:FuncId}(hc:∀(s:ByteArray)(c:UInt8)(w:World),Calls P f #[.string s,.string ⟨#[c]⟩] w λe w'=>e=.returned (.int .i64 (Lib.countByte s.data.toList c))∧w'=w)
  (s:List UInt8) (c:UInt8):jC P G f [.str s,.str [c]] [] ⟨.int .i64 (.ofNat (EH c s)),[]⟩:=
 qO rfl (λ_=>trivial) (λ_ _=>by simp [o8]) λι w _=>by refine afy (hc ⟨s.toArray⟩ c w) ?_;rintro e w' ⟨rfl,rfl⟩;exact⟨by simp [o8,Ih],Below.refl _ _⟩
theorem EW (sep:List UInt8):∀ws,mF sep ws=Lib.join ws sep
 | []=>rfl
 | [x]=>(Lib.join_one x sep).symm
 | x::y::r=>by have ih:=EW sep (y::r);have e:mF sep (x::y::r)=aX x (aX sep (mF sep (y::r))):=rfl;rw [e,ih,V5,V5,Lib.join_cons,Lib.join_cons];simp [Lib.joinTail]
theorem BG:∀{l:List (List j3)} {ws:List (List UInt8)},Ay l=some ws->l=ws.map λw=>[j3.str w]
 | [],ws,h=>by have h:some ([]:List (List UInt8))=some ws:=h;cases h;rfl
 | r::l,ws,h=>by
  match r,h with
  | [.str s],h=>have h:ob (Ay l) (λt=>some (s::t))=some ws:=h;obtain⟨t,h1,h2⟩:=C8 h;cases h2;rw [BG h1];rfl
theorem Pn {α:Type}(n:Nat):∀(l:List α) {r:List α},takeN n l=some r->r=l.take n∧n<=l.length:=by
 intro l r h;by_cases hn:n<=l.length;rw [gQ n l hn] at h;cases h;exact⟨rfl,hn⟩;exfalso;revert l r;induction n with
 | zero=>intro l r _ hn;exact hn (afN _)
 | succ n ih=>
  intro l r h hn;cases l with
  | nil=>cases h
  | cons x l=>have h:ob (takeN n l) (λt=>some (x::t))=some r:=h;obtain⟨t,h1,_⟩:=C8 h;exact ih l h1 (by simp at hn;omega)
theorem VJ {f:FuncId}(hG:T.Ok G.t G.nx)
  (c0:∀(a:Option Addr) (c:Nat) (sep:ByteArray) (w:World),Calls P f #[.slice a 0 c,.string sep] w λe w'=>e=.returned (.string ⟨#[]⟩)∧w'=w)
  (c1:∀(bk o c:Nat) (x sep:ByteArray) (w:World),w.cell? ⟨bk,o,none⟩=some (.string x)->Calls P f #[.slice (some ⟨bk,o,none⟩) 1 c,.string sep] w λe w'=>e=.returned (.string x)∧w'=w)
  (c2:∀(bk o c:Nat) (xs:List ByteArray) (sep:ByteArray) (w:World),(∀(j:Nat) x,xs[j]?=some x->w.cell? ⟨bk,o+j,none⟩=some (.string x))->bk<w.heap.size->2<=xs.length->xs.length<=140737488355328->xs.length<=c->
   (Lib.join (xs.map (·.data.toList)) sep.data.toList).length<=140737488355328->Calls P f #[.slice (some ⟨bk,o,none⟩) xs.length c,.string sep] w λe w'=>e=.returned (.string ⟨(Lib.join (xs.map (·.data.toList)) sep.data.toList).toArray⟩)∧Below w.heap.size w w')
  {v:j3} {off n:Nat} (hv:(∃c,v=.slice G.nx off n c∧n<=c)∨∃es,v=.sliceU G.nx off n es) {rows l:List (List j3)} {ws:List (List UInt8)} {sep:List UInt8} (hn:n<1000000)
  (hl:takeN n (jo off rows)=some l) (hw:Ay l=some ws) (hlen:(mF sep ws).length<1000000):jC P G f [v,.str sep] [.cells 1 rows] ⟨.str (mF sep ws),[]⟩:=by
 intro ι w hm hargs;rw [gN] at hl;obtain⟨hl1,hl2⟩:=Pn n _ hl;have hlw:=BG hw;have hwl:ws.length=n:=by have:=congrArg List.length hlw;rw [hl1,aio,ac1] at this;omega
 have hg:(O5 G [.cells 1 rows]).get G.nx=some (.cells 1 (len' rows) (T.ofList rows)):=by show (G.new (dQ (.cells 1 rows))).get G.nx=_;rw [Mem.N7 (m:=G) hG];exact if_pos rfl
 have hspot:=hm.spot G.nx _ hg rfl;obtain⟨c,e,fz,hc,h1,_,hr⟩:=hm.blk G.nx _ hg;have hcell:∀j (x:List UInt8),ws[j]?=some x->w.cell? ⟨(ι G.nx).b,(ι G.nx).base+off+j,none⟩=some (.string ⟨x.toArray⟩):=λj x hx=>by
  have hj:j<n:=by rw [← hwl];exact (J5.1 hx).1
  have hrow:rows[off+j]?=some [j3.str x]:=by
   have h2:l[j]?=some [j3.str x]:=by rw [hlw,abY,hx];rfl
   rw [hl1,aft,if_pos hj,afF] at h2;exact h2
  obtain⟨row,q1,q2,q3,q4⟩:=hr (off+j) (by rw [I9];exact (J5.1 hrow).1);rw [T.aG,hrow] at q1;cases q1;have:=q4 0 (by omega);rw [ai9,aay] at this;have h3:c[(ι G.nx).base+off+j]?=some (.string ⟨x.toArray⟩):=by rw [afv,this];simp [o8]
  simp [World.cell?,hc,h3]
 have hblt:(ι G.nx).b<w.heap.size:=(K9.1 hc).1;have fin:∀(x:ByteArray) (w':World),x=⟨(mF sep ws).toArray⟩->Below w.heap.size w w'->∃ι' r,Step P G ι (O5 G [.cells 1 rows]) w ι' r.m w'∧r.v.lt (r.m.nm ι')∧Ending.returned (.string x)=.returned (o8 ι' r.v)∧
   wI (layAll [.cells 1 rows] G).nx r=some ⟨.str (mF sep ws),[]⟩:=λx w' hx hb=>
  ⟨ι,⟨.str (mF sep ws),O5 G [.cells 1 rows]⟩,xV hm hb,trivial,by rw [hx];simp [o8],rfl⟩
 have hca:∃cap,n<=cap∧o8 ι v=.slice (some ⟨(ι G.nx).b,(ι G.nx).base+off,none⟩) n cap:=by rcases hv with⟨cap,rfl,hcap⟩ | ⟨es,rfl⟩;exact⟨cap,hcap,by simp [o8,K4.yE hspot]⟩;have hlt:j3.lt ((O5 G [.cells 1 rows]).nm ι) (.sliceU G.nx off n es):=hargs.1;obtain⟨_,h2,h3⟩:=hlt;refine⟨((ι G.nx).cap-off) / es,?_,by simp [o8,K4.yE hspot]⟩;have h3:off+n*es<=(ι G.nx).cap:=h3;exact (ae8 h2).2 (by omega)
 obtain⟨cap,hcap,hcv⟩:=hca;have hargs2:(y7 ι [v,.str sep]).toArray=#[.slice (some ⟨(ι G.nx).b,(ι G.nx).base+off,none⟩) n cap,.string ⟨sep.toArray⟩]:=by simp [y7,hcv,o8]
 rw [hargs2];refine callsIn_wide.2 ?_;match ws,hwl,hcell,hlen,fin with
 | [],hwl,_,_,fin=>obtain rfl:n=0:=hwl.symm;refine afy (c0 _ cap ⟨sep.toArray⟩ w) ?_;rintro e w' ⟨rfl,rfl⟩;exact fin _ _ rfl (Below.refl _ _)
 | [x],hwl,hcell,_,fin=>obtain rfl:n=1:=hwl.symm;refine afy (c1 _ _ cap ⟨x.toArray⟩ ⟨sep.toArray⟩ w (hcell 0 x rfl)) ?_;rintro e w' ⟨rfl,rfl⟩;exact fin _ _ rfl (Below.refl _ _)
 | x::y::t,hwl,hcell,hlen,fin=>
  have hd:((x::y::t).map λz:List UInt8=>(⟨z.toArray⟩:ByteArray)).map (λb:ByteArray=>b.data.toList)=x::y::t:=by rw [agy];exact List.map_id'' (λ_=>rfl) _
  have:=c2 (ι G.nx).b ((ι G.nx).base+off) cap ((x::y::t).map λz:List UInt8=>(⟨z.toArray⟩:ByteArray)) ⟨sep.toArray⟩ w (λj z hz=>by
   rw [abY] at hz;obtain⟨u,hu,rfl⟩:=ac4.1 hz;exact hcell j u hu) hblt (by simp) (by rw [ac1,hwl];omega) (by rw [ac1,hwl];exact hcap) (by
    rw [hd];show (Lib.join (x::y::t) sep).length<=_;rw [← EW];omega)
  rw [hd,ac1,hwl] at this;refine afy this ?_;rintro e w' ⟨rfl,hb⟩;refine fin _ _ ?_ hb;rw [EW]
end
end
end Go.AM
