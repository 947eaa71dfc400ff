/- A part of an evaluator for the model, proved sound: what it answers holds of the model; it speaks of every program, no condition. -/
import Derived.Test.YtcnimimffiiimaaGreatDoorPA4
import Derived.Below
import Derived.Lib.SplitLaws
import Derived.Lib.Join
import Derived.Lib.SmallJoins
set_option linter.all false
namespace Go.AM
open Go
noncomputable section
def Uw (P:Program)(S:List TypeId):Bool:=S.all λt=>match P.underlying t with
 | some .bool=>true
 | some (.int _)=>true
 | some .string=>true
 | some (.slice e)=>S.contains e&&Nat.blt 0 (P.cellsOf e)
 | some (.struct fs)=>fs.toList.all (λf=>S.contains f.type)&&IE P fs.toList 0 (P.cellsOf t)
 | _=>false
section
variable {P:Program}{G:Mem}{H:Type}{enc:TypeId×Value->H}{w:World}{held:Bool}
end
def tJ (S:TypeId->Nat->List d9->Prop):List Field->Nat->List d9->Prop
 | [],b,vs=>vs=[]∧1<=b
 | f::fs,b,vs=>∃a c b1 b2,vs=a++c∧S f.type b1 a∧tJ S fs b2 c∧b1+b2<=b
def Rv (bs:Nat->Nat):Nat->Nat->Nat
 | _,0=>0
 | j,k+1=>bs j+Rv bs (j+1) k
def gN (P:Program)(m:Mem):Nat->TypeId->Nat->List d9->Prop
 | 0,_,_,_=>False
 | n+1,t,b,vs=>match P.underlying t with
  | some .bool=>∃b,vs=[.bool b]
  | some (.int k)=>∃i,vs=[.int k i]∧(Lit.int k i).wf=true
  | some .string=>∃s:List UInt8,vs=[.str s]∧s.length+1<=b
  | some (.slice e)=>vs=[.nilSlice]∨∃id len cap,vs=[.slice id 0 len cap]∧len<=cap∧
    ((cap=0∧m.get id=some .dead)∨∃rows bs,0<cap∧m.get id=some (.cells (P.cellsOf e) cap rows)∧Rv bs 0 len+1<=b∧∀i,i<cap->∃row,rows.get i=some row∧row.length=P.cellsOf e∧(i<len->gN P m n e (bs i) row))
  | some (.struct fs)=>tJ (gN P m n) fs.toList b vs
  | _=>False
theorem Ar {S S':TypeId->Nat->List d9->Prop}(h:∀t b vs,S t b vs->S' t b vs):∀fs b vs,tJ S fs b vs->tJ S' fs b vs
 | [],_,_,hv=>hv
 | _::fs,_,_,⟨a,c,b1,b2,e,h1,h2,h3⟩=>⟨a,c,b1,b2,e,h _ _ _ h1,Ar h fs b2 c h2,h3⟩
theorem uz {P:Program}{m m':Mem}(h:∀i b,m.get i=some b->m'.get i=some b):∀n t b vs,gN P m n t b vs->gN P m' n t b vs:=by
 intro n;induction n with
 | zero=>intro t b vs a;exact a
 | succ n ih=>
  intro t b vs a;unfold gN at a ⊢;split at a;exact a;exact a;exact a;rcases a with a | ⟨id,len,cap,h1,h2,h4⟩;exact .inl a;refine .inr ⟨id,len,cap,h1,h2,?_⟩;rcases h4 with⟨h4,h5⟩ | ⟨rows,bs,h4,h5,h7,h6⟩;exact .inl ⟨h4,h _ _ h5⟩;exact .inr ⟨rows,bs,h4,h _ _ h5,h7,λi g=>by
   obtain⟨c,d,e,f⟩:=h6 i g;exact⟨c,d,e,λj=>ih _ _ _ (f j)⟩⟩
  exact Ar (λt b vs=>ih t b vs) _ _ _ a;exact a
theorem Rx {S:TypeId->Nat->List d9->Prop}:∀{fs:List Field} {b b':Nat} (_:b<=b') (vs:List d9),tJ S fs b vs->tJ S fs b' vs
 | [],_,_,h,_,hv=>⟨hv.1,J2 hv.2 h⟩
 | _ :: _,_,_,h,_,⟨a,c,b1,b2,e,h1,h2,h3⟩=>⟨a,c,b1,b2,e,h1,h2,J2 h3 h⟩
theorem Lg {α:Type}(f:α->Nat)(d:Nat->Nat):∀(l:List α) (j:Nat),(∀i (h:i<l.length),d (j+i)=f l[i])->Rv d j l.length=(l.map f).sum
 | [],_,_=>rfl
 | x::l,j,h=>by
  have h0:=h 0 (by simp);simp only [Y5,abZ] at h0;simp only [Y3,Rv,Y6,aeH,h0];rw [Lg f d l (j+1) (λi hi=>by
   have:=h (i+1) (by simp;omega);simp only [aeM] at this;rw [show j+1+i=j+(i+1) from by omega];exact this)]
section
variable {P:Program}{G:Mem}{hp:Array Obj}{H:Type}{enc:TypeId×Value->H}{w:World}{held:Bool}
theorem IG {cs:List Value}{S:Mem->TypeId->Nat->List d9->Prop}(A:∀m m' t b vs,(∀i x,m.get i=some x->m'.get i=some x)->S m t b vs->S m' t b vs):
  ∀(fs:List Field) (bs:List Nat) (o:Nat),bs.length=fs.length->(∀(i:Nat) (f:Field) (b:Nat),fs[i]?=some f->bs[i]?=some b->∀ι m,RM P G ι m hp->m.lim=m.nx->Gets P G hp ι m ((cs.drop f.offset).take (P.cellsOf f.type)) (λm' vs=>S m' f.type b vs))->IE P fs o cs.length=true->
   ∀ι m,RM P G ι m hp->m.lim=m.nx->Gets P G hp ι m (cs.drop o) (λm' vs=>tJ (S m') fs (bs.sum+1) vs):=by
 intro fs;induction fs with
 | nil=>intro bs o _ _ d ι m l k;have:o=cs.length:=aP d;exact⟨ι,m,[],Lifts.refl l k,by rw [this];simp [o9],trivial,rfl,by omega⟩
 | cons f fs ih=>
  intro bs o r s d ι m l k;cases bs with
  | nil=>simp at r
  | cons b bs=>simp only [IE,gI] at d;have z:f.offset=o:=aP d.1;obtain⟨n,E,a,g,w,q,y⟩:=s 0 f b rfl rfl ι m l k;obtain⟨p,F,c,e,B,C,D⟩:=ih bs (o+P.cellsOf f.type) (by simpa using r) (λi v u j h=>s (i+1) v u j h) d.2 n E g.rm g.lim;refine⟨p,F,a++c,g.trans e,?_,iq (e.lt q) C,a,c,b,bs.sum+1,rfl,A _ _ _ _ _ e.get y,D,by simp;omega⟩;rw [je,e.l7 q,w,B,z,← ag6,List.take_append_drop]
theorem NS {n:Nat}{row:Nat->List Value}{S:Mem->Nat->List d9->Prop}(q:∀m m' i vs,(∀i b,m.get i=some b->m'.get i=some b)->S m i vs->S m' i vs)
  (h:∀i,i<n->∀ι m,RM P G ι m hp->m.lim=m.nx->Gets P G hp ι m (row i) (λm' vs=>S m' i vs)):∀c,c<=n->∀ι m,RM P G ι m hp->m.lim=m.nx->
   ∃(ι':H6) (m':Mem) (rl:List (List d9)),Lifts P G hp ι m ι' m'∧rl.length=c∧∀i r,rl[i]?=some r->o9 ι' r=row i∧X0 (m'.nm ι') r∧S m' i r:=by
 intro c;induction c with
 | zero=>intro _ ι m g f;exact⟨ι,m,[],Lifts.refl g f,rfl,λi r a=>by simp at a⟩
 | succ c ih=>
  intro A ι m g f;obtain⟨j,v,rl,e,o,p⟩:=ih (by omega) ι m g f;obtain⟨k,w,r,d,s,t,u⟩:=h c (by omega) j v e.rm e.lim;refine⟨k,w,rl ++ [r],e.trans d,by simp [o],λi z a=>?_⟩;by_cases hi:i<rl.length;rw [Y4 hi] at a;obtain⟨x,l,y⟩:=p i z a;exact⟨by rw [d.l7 l,x],d.lt l,q _ _ _ _ d.get y⟩;rw [aaq (by omega)] at a;have:i-rl.length=0:=by have:=(gq.1 a).1;simp at this;omega
  rw [this] at a;simp at a;subst a;obtain rfl:i=c:=by omega
  exact⟨s,t,u⟩
theorem II {mu:DataW H->Nat}(j:∀e s,((e.map mu).sum+1<=mu (.slice e s))){t e:TypeId}{n:Nat}{cs:List Value}{x:DataW H×List MemPlace}(m:P.underlying t=some (.slice e))(h:DataW.trod enc P w 0 (λ_=>true) held (n+1) t cs=some x):
  cs=[.slice none 0 0]∨∃(a:Addr) (len cap:Nat) (bs:Nat->Nat),cs=[.slice (some a) len cap]∧len<=cap∧cap<=maxLen∧Rv bs 0 len+1<=mu x.1∧
   ∀i,i<cap->∃row d,w.cells? 0 (a.add (i*P.cellsOf e)) (P.cellsOf e)=some row∧DataW.trod enc P w 0 (λ_=>true) held n e row=some d∧(i<len->mu d.1=bs i):=by
 rcases DataW.trod_slice m h with⟨h0,_⟩ | ⟨a,len,cap,elems,rest,n',hn,rfl,rfl,_,hl,hm,hlen,hel,hsp,_⟩;exact .inl h0;obtain rfl:n'=n:=by omega
 obtain⟨q,k⟩:=hsp rfl;have b:∀(o:Option (List Value)) (d:DataW H×List MemPlace),o.bind (DataW.trod enc P w 0 (λ_=>true) held n' e)=some d->∃row,o=some row∧DataW.trod enc P w 0 (λ_=>true) held n' e row=some d:=λo d h=>by obtain⟨row,c,l⟩:=aaw.1 h;exact⟨row,c,l⟩
 refine .inr ⟨a,len,cap,λi=>((elems[i]?).map λd=>mu d.1).getD 0,rfl,hl,hm,?_,λi p=>?_⟩;have:=Lg (λd:DataW H×List MemPlace=>mu d.1) (λi=>((elems[i]?).map λd=>mu d.1).getD 0) elems 0 (λi h=>by simp [h]);rw [hlen] at this;rw [this];have:=j (elems.map (·.1)) (rest.map (·.1));rw [aeP] at this;exact this;by_cases c:i<len;have:=hel i c;rw [gy (by omega)] at this;obtain⟨row,f,g⟩:=b _ _ this;exact⟨row,_,f,g,λ_=>by simp [gy (show i<elems.length by omega)]⟩;have:=k (i-len) (by omega);rw [gy (by omega),show len+(i-len)=i from by omega] at this;obtain⟨row,f,g⟩:=b _ _ this;exact⟨row,_,f,g,λh=>absurd h c⟩
theorem aal {mu:DataW H->Nat}(ac:∀e s,((e.map mu).sum+1<=mu (.slice e s)))(aa:∀p,(p.map mu).sum+1<=mu (.agg p))(ab:∀b,b.length+1<=mu (.lit (.string b))){S:List TypeId}(hS:Uw P S=true):∀(n:Nat) (t:TypeId) (cs:List Value) (x:DataW H×List MemPlace),DataW.trod enc P w 0 (λ_=>true) held n t cs=some x->S.contains t=true->
  ∀ι m,RM P G ι m w.heap->m.lim=m.nx->Gets P G w.heap ι m cs (λm' vs=>gN P m' n t (mu x.1) vs):=by
 intro n;induction n with
 | zero=>intro t cs x z;simp [DataW.trod] at z
 | succ k ih=>
  intro t cs x z hp ι m J y;have hp:=aap.1 hS t (List.elem_iff.1 hp);have A:∀vs:List d9,o9 ι vs=cs->X0 (m.nm ι) vs->gN P m (k+1) t (mu x.1) vs->Gets P G w.heap ι m cs (λm' vs=>gN P m' (k+1) t (mu x.1) vs):=λvs X h2 h3=>⟨ι,m,vs,Lifts.refl J y,X,h2,h3⟩;split at hp;rename_i q;obtain⟨b,rfl,_⟩:=DataW.trod_bool q z;exact A [.bool b] rfl ⟨trivial,trivial⟩ (by unfold gN;rw [q];exact⟨b,rfl⟩);rename_i ik q;obtain⟨i,rfl,_,hw⟩:=DataW.trod_int q z;exact A [.int ik i] rfl ⟨trivial,trivial⟩ (by unfold gN;rw [q];exact⟨i,rfl,hw⟩);rename_i q;obtain⟨s,rfl,rfl,_⟩:=DataW.trod_string q z;have ad:=ab s.data.toList;exact A [.str s.data.toList] (by simp [o9,l7]) ⟨trivial,trivial⟩ (by unfold gN;rw [q];exact⟨s.data.toList,rfl,ad⟩);rename_i e q;simp only [gI] at hp;have C:0<P.cellsOf e:=Xb.mp hp.2;rcases II ac q z with rfl | ⟨a,len,mm,bs,rfl,D,hcap,hsum,hel⟩;exact A [.nilSlice] rfl ⟨trivial,trivial⟩ (by unfold gN;rw [q];exact .inl rfl);by_cases h0:mm=0;subst h0;have D:len=0:=by omega
  subst D;have L:=Lifts.push (b:=.dead) (l:=⟨a.block,a.off,0,a.spot⟩) J y rfl (by intro h;cases h) trivial;refine⟨_,_,[.slice m.nx 0 0 0],L,?_,⟨⟨.dead,by rw [Mem.tH,Mem.J9 J.ok,if_pos rfl],rfl⟩,trivial⟩,?_⟩;simp [o9,l7,H6.at];unfold gN;rw [q];exact .inr ⟨m.nx,0,0,rfl,lM _,.inl ⟨rfl,by rw [Mem.tH,Mem.J9 J.ok,if_pos rfl]⟩⟩;obtain⟨row,R⟩:=Deep.choose_lt hel;obtain⟨B,F,U,V,g2,g3⟩:=NS (n:=mm) (row:=row) (S:=λm' i vs=>i<len->gN P m' k e (bs i) vs) (λm m' i vs h hs y=>uz h k e (bs i) vs (hs y))
   (λi o ι m J y=>by
    obtain⟨d,_,hd,hb⟩:=R i o;obtain⟨ag,m9,ae,K,M,I,Y⟩:=ih e (row i) d hd hp.1 ι m J y;exact⟨ag,m9,ae,K,M,I,λy=>hb y▸Y⟩) mm (lM _) ι m J y
  have g:∀i j,i<mm->j<P.cellsOf e->w.cell? ((a.add (i*P.cellsOf e)).add j)=(row i)[j]?∧(row i).length=P.cellsOf e:=λi j o Q=>by obtain⟨d,q0,_,_⟩:=R i o;obtain⟨_,M,I⟩:=World.cells?_some q0;exact⟨I j Q,M⟩
  have u:∀i j,i<mm->j<P.cellsOf e->∃v,(row i)[j]?=some v:=λi j o Q=>⟨_,gy (by rw [(g i j o Q).2];exact Q)⟩;have E:a.spot=none:=by
   obtain⟨v,W⟩:=u 0 0 (by omega) C;have:=(g 0 0 (by omega) C).1;rw [W] at this;unfold World.cell? at this;split at this;split at this;cases this;rename_i hn;simp only [ac7,Addr.add,if_true] at hn;cases hs:a.spot with
   | none=>rfl
   | some s=>rw [hs] at hn;simp at hn
   cases this
  obtain⟨c,Z,fz,hc⟩:∃c Z fz,w.heap[a.block]?=some (.cells c Z fz):=by obtain⟨v,W⟩:=u 0 0 (by omega) C;have:=(g 0 0 (by omega) C).1;rw [W] at this;unfold World.cell? at this;split at this;rename_i c Z fz hh;simp only [ac7,Addr.add,if_true] at hh;exact⟨c,Z,fz,hh⟩;cases this
  have a0:∀i j,(a.add (i*P.cellsOf e)).add j=⟨a.block,a.off+(i*P.cellsOf e+j),none⟩:=λi j=>by rw [Deep.add_add];unfold Addr.add;split;rename_i h;rw [h,Y5,← E];rfl
  have a1:∀i j,i<mm->j<P.cellsOf e->c[a.off+(i*P.cellsOf e+j)]?=(row i)[j]?:=λi j o Q=>by have:=(g i j o Q).1;rw [a0] at this;simpa [World.cell?,hc] using this
  have N:a.off+mm*P.cellsOf e<=c.size:=by
   obtain⟨v,W⟩:=u (mm-1) (P.cellsOf e-1) (by omega) (by omega);have:=a1 (mm-1) (P.cellsOf e-1) (by omega) (by omega);rw [W] at this;have X:=(q8.1 this).1;have h2:(mm-1)*P.cellsOf e+P.cellsOf e=mm*P.cellsOf e:=by rw [← aaZ];congr 1;omega
   omega
  have a6:∀i,i<mm->∃r,U[i]?=some r∧o9 B r=row i∧X0 (F.nm B) r∧(i<len->gN P F k e (bs i) r)∧r.length=P.cellsOf e:=λi o=>by have hh:U[i]?=some U[i]:=gy (by omega);obtain⟨K,M,I⟩:=g3 i _ hh;refine⟨_,hh,K,M,I,?_⟩;have:=congrArg List.length K;rw [Q9] at this;rw [this,(g i 0 o C).2]
  have a5:∀i x,F.get i=some x->i≠F.nx:=λi x z e=>by have:=Mem.F9 V.rm.ok z;omega
  have O:∀j,F.has j->(B.upd F.nx ⟨a.block,a.off,mm*P.cellsOf e,none⟩) j=B j:=λj ⟨x,z,_⟩=>B.upd_ne _ (a5 j x z);have a2:∀i,F.has i->(F.new (.cells (P.cellsOf e) mm (T.ofList U))).has i:=λi ⟨x,z,W⟩=>⟨x,by rw [Mem.J9 V.rm.ok,if_neg (a5 i x z)];exact z,W⟩;have L:=Lifts.push (b:=.cells (P.cellsOf e) mm (T.ofList U)) (l:=⟨a.block,a.off,mm*P.cellsOf e,none⟩) V.rm V.lim rfl (λ_=>rfl)
   ⟨c,Z,fz,hc,N,⟨lM _,U.length,by omega,T.dZ U,vV λX=>by
    rw [T.aG];exact aeF (by omega)⟩,λi o=>by
    obtain⟨r,K,M,I,Y,q5⟩:=a6 i o;refine⟨r,by rw [T.aG];exact K,q5,bN (Mem.U2 a2 O) r I,λj Q=>?_⟩;show c[a.off+(i*P.cellsOf e+j)]?=_;rw [a1 i j o Q,← M,V4];cases hr:r[j]? with
    | none=>rfl
    | some v=>simp [O7 (n:=F.nm B) O v (bB.1 I v (U9 hr))]⟩
  refine⟨_,_,[.slice F.nx 0 len mm],V.trans L,?_,⟨⟨_,by rw [Mem.tH,Mem.J9 V.rm.ok,if_pos rfl],rfl⟩,trivial⟩,?_⟩;simp only [o9,l7];rw [H6.xA (by rw [H6.S9]),H6.S9];simp only [Y5];rw [← E];unfold gN;rw [q];refine .inr ⟨F.nx,len,mm,rfl,D,.inr ⟨T.ofList U,bs,by omega,by rw [Mem.tH,Mem.J9 V.rm.ok,if_pos rfl],hsum,λi o=>?_⟩⟩;obtain⟨r,K,M,I,Y,q5⟩:=a6 i o;exact⟨r,by rw [T.aG];exact K,q5,λy=>uz L.get k e (bs i) r (Y y)⟩;rename_i fs q;simp only [gI,aap] at hp;obtain⟨xs,n',hn,rfl,a8,a7,hf⟩:=DataW.trod_struct q z;obtain rfl:n'=k:=by omega
  have:=IG (P:=P) (G:=G) (hp:=w.heap) (cs:=cs) (S:=λm' t b vs=>gN P m' n' t b vs) (λm m' t b vs h hs=>uz h n' t b vs hs) fs.toList (xs.map λd=>mu d.1) 0 (by simp [a7])
   (λi f b o hb ι m J y=>by
    have a9:=U9 o;have a3:fs[i]?=some f:=(by simpa using o);have X:=hf i f a3;have a4:i<xs.length:=(by rw [a7];exact (q8.1 a3).1);rw [gy a4] at X;rw [aas,gy a4] at hb;cases hb;exact ih f.type _ _ X (hp.1 f a9) ι m J y) (by rw [a8];exact hp.2) ι m J y
  obtain⟨af,m',vs,K,M,I,Y⟩:=this;refine⟨af,m',vs,K,by simpa using M,I,?_⟩;unfold gN;rw [q];have hg:=aa (xs.map (·.1));rw [aeP] at hg;exact Rx hg _ Y;cases hp
end
def IJ (P:Program)(slots:List Nat)(ops:Array Oper):Option P9:=
 match iT P slots ops [] (canon (Ca ops) (masks ops.toList) ops.size) with
 | none=>none
 | some insts=>some (.dreg (Ho insts) (numbered (masks ops.toList) ((canon (Ca ops) (masks ops.toList) ops.size).zip insts) [] 0))
theorem Gc {P:Program}{a:List Nat}{ops:Array Oper}{c:P9}(h:xu P a ops=some c):IJ P a ops=some c:=by unfold xu at h;unfold IJ;split at h;cases h;rename_i b d;rw [d];split at h;exact h;cases h
def IK (P:Program)(slots:List Nat)(ops:Array Oper):Option P9:=
 match IJ P slots (ops.extract 0 (ops.size-3)) with
 | some (.dreg n l)=>Br (nT P slots [] ops (ops.size-3)) (nT P slots [(ops[ops.size-3]?).bind (·.dst)] ops (ops.size-2)) (nT P slots [] ops (ops.size-1)) n l
 | _=>none
theorem NT {P:Program}{a:List Nat}{ops:Array Oper}{c:P9}(h:Cb P a ops=some c):IK P a ops=some c:=by unfold Cb at h;unfold IK;split at h;rename_i n l b;rw [Gc b];split at h;exact h;cases h;cases h
def fP (P:Program)(slots:List Nat):Code->Option P9
 | .skip=>some .skip
 | .region _ ops false=>match iT P slots ops [] (List.range ops.size) with
  | some l=>some (.reg l)
  | none=>none
 | .region _ ops true=>if splits ops then IK P slots ops else IJ P slots ops
 | .seq a b=>match fP P slots a,fP P slots b with
  | some x,some y=>some (.seq x y)
  | _,_=>none
 | .cond c a b=>match J7 P slots [] c,fP P slots a,fP P slots b with
  | some z,some x,some y=>some (.cond z x y)
  | _,_,_=>none
 | .block id a=>match fP P slots a with
  | some x=>some (.block id x)
  | none=>none
 | .loop a=>match fP P slots a with
  | some x=>some (.loop x)
  | none=>none
 | .exit id=>some (.exit id)
 | .ret=>some .ret
 | .rangeFunc f ps a b=>match J7 P slots [] f,fP P slots a,fP P slots b with
  | some z,some x,some y=>some (.rangeFunc z (ps.toList.map λt=>idxOf t slots 0) x y)
  | _,_,_=>none
 | .refuse _=>some (.reg [⟨.e .bad,none,none⟩])
 | _=>none
theorem fI {P:Program}{slots:List Nat}:∀(k:Code) {c:P9},O8 P slots k=some c->fP P slots k=some c
 | .skip,_,h=>h
 | .region _ _ false,_,h=>h
 | .region _ ops true,_,h=>by unfold O8 at h;unfold fP;split at h;rename_i hs;rw [if_pos hs];exact NT h;rename_i hs;rw [if_neg hs];exact Gc h
 | .seq a b,c,h=>by unfold O8 at h;split at h;rename_i x y hx hy;unfold fP;rw [fI a hx,fI b hy];exact h;cases h
 | .cond z a b,c,h=>by unfold O8 at h;split at h;rename_i w x y hw hx hy;unfold fP;rw [hw,fI a hx,fI b hy];exact h;cases h
 | .block _ a,c,h=>by unfold O8 at h;split at h;rename_i x hx;unfold fP;rw [fI a hx];exact h;cases h
 | .loop a,c,h=>by unfold O8 at h;split at h;rename_i x hx;unfold fP;rw [fI a hx];exact h;cases h
 | .rangeFunc z _ a b,c,h=>by unfold O8 at h;split at h;rename_i w x y hw hx hy;unfold fP;rw [hw,fI a hx,fI b hy];exact h;cases h
 | .exit _,_,h=>h
 | .ret,_,h=>h
 | .scope _,_,h=>by cases h
 | .label _,_,h=>by cases h
 | .goto _,_,h=>by cases h
 | .refuse _,_,h=>h
def abJ (P:Program)(slots:List Nat)(f:FuncId):Option AFn:=
 match P.funcs[f]? with
 | none=>none
 | some fn=>match fn.body with
  | none=>none
  | some c=>match fP P slots c,AY P slots fn.results.toList with
   | some b,some r=>some ⟨fn.params.size+fn.nfree,(List.range (fn.params.size+fn.nfree)).map λt=>idxOf t slots 0,slots.length,r,b⟩
   | _,_=>none
theorem Yb {P:Program}{d:List Nat}{f:FuncId}{a:AFn}(h:MX P d f=some a):abJ P d f=some a:=by unfold MX at h;unfold abJ;split at h;cases h;rename_i k i;rw [i];split at h;cases h;rename_i c g;simp only [g];split at h;rename_i b r e j;rw [fI _ e,j];split at h;exact h;cases h;cases h
def cT (P:Program)(slots:List Nat)(pure rc:Bool)(f:FuncId):M9:=Rj pure rc ((abJ P slots f).getD ⟨0,[],0,[],.skip⟩)
theorem dR {P:Program}{b:List Nat}{f:FuncId}{c d:Bool}(h:(MX P b f).isSome=true):oO P f (cT P b c d f):=by
 obtain⟨a,e⟩:=ajG.1 h;have:cT P b c d f=Rj c d a:=by unfold cT;rw [Yb e];rfl
 rw [this];exact Pd e c d
def Pm (ops:Array Oper)(done:List (Option Nat))(i:Nat):List Nat:=
 match ops[i]? with
 | none=>[]
 | some o=>o.op.operands.toList.filterMap fun
  | .tmp t=>match fO t done 0 with
   | none=>some t
   | some _=>none
  | _=>none
def Ux (ops:Array Oper):List Nat->List (Option Nat)->List Nat
 | [],_=>[]
 | i::l,done=>Pm ops done i++Ux ops l (((ops[i]?).bind (·.dst))::done)
def afW:Operand->List Nat
 | .tmp t=>[t]
 | _=>[]
def yC:Code->List Nat
 | .region _ ops false=>Ux ops (List.range ops.size) []
 | .region _ ops true=>Ux ops (canon (Ca ops) (masks ops.toList) ops.size) []++(if splits ops then Pm ops [] (ops.size-3)++(Pm ops [(ops[ops.size-3]?).bind (·.dst)] (ops.size-2)++Pm ops [] (ops.size-1)) else [])
 | .seq a b=>yC a++yC b
 | .cond c a b=>afW c++(yC a++yC b)
 | .block _ b=>yC b
 | .loop b=>yC b
 | .rangeFunc f _ a b=>afW f++(yC a++yC b)
 | _=>[]
def afX (x:Nat):List Nat->Bool
 | []=>false
 | y::l=>bif Nat.beq x y then true else afX x l
def abK:List Nat->List Nat->List Nat
 | [],acc=>acc.reverse
 | x::l,acc=>bif afX x acc then abK l acc else abK l (x::acc)
def abL:List ResultVar->List Nat
 | []=>[]
 | .tmp t::l=>t::abL l
 | .cell t _::l=>t::abL l
def tK (P:Program)(f:FuncId):List Nat:=match P.funcs[f]? with
 | none=>[]
 | some fn=>match fn.body with
  | none=>[]
  | some c=>abK (yC c++abL fn.results.toList) []
def fnQ (P:Program)(M PM RM:Nat)(f:FuncId):Option M9:=bif Nat.testBit M f then some (cT P (tK P f) (Nat.testBit PM f) (Nat.testBit RM f) f) else none
def Lh (P:Program)(M a n:Nat):Bool:=Nat.rec true (λi ih=>bif bif Nat.testBit M (a+i) then (MX P (tK P (a+i)) (a+i)).isSome else true then ih else false) n
theorem uD {P:Program}{M a:Nat}:∀{n:Nat},Lh P M a n=true->∀i,i<n->Nat.testBit M (a+i)=true->(MX P (tK P (a+i)) (a+i)).isSome=true:=by
 intro n;induction n with
 | zero=>intro _ i c;omega
 | succ n ih=>
  intro h i c b;have h:(bif (bif Nat.testBit M (a+n) then (MX P (tK P (a+n)) (a+n)).isSome else true) then Lh P M a n else false)=true:=h;cases h1:(bif Nat.testBit M (a+n) then (MX P (tK P (a+n)) (a+n)).isSome else true) with
  | false=>rw [h1] at h;cases h
  | true=>rw [h1] at h;by_cases hn:i=n;subst hn;rw [b] at h1;exact h1;exact ih h i (by omega) b
def orQ (o:Option (Option M9))(q:Option M9):Option M9:=Option.rec q (λx=>Option.rec q (λy=>some y) x) o
theorem abM {P:Program}{t:T (Option M9)}{M a b:Nat}(e:TOk P (λi=>i) t)(d:∀f,Nat.testBit M f=true->(MX P (tK P f) f).isSome=true):∀f sf,orQ (t.get f) (fnQ P M a b f)=some sf->oO P f sf:=by
 intro f sf h;have c:fnQ P M a b f=some sf->oO P f sf:=λh=>by
  unfold fnQ at h;cases hb:Nat.testBit M f with
  | false=>rw [hb] at h;cases h
  | true=>rw [hb] at h;cases h;exact dR (d f hb)
 cases ho:t.get f with
 | none=>rw [ho] at h;exact c h
 | some x=>
  rw [ho] at h;cases x with
  | none=>exact c h
  | some y=>cases h;exact e f _ ho
structure Weak (m1 m2:Mem):Prop where
 nx:m2.nx=m1.nx
 lim:m2.lim=m1.lim
 ok:T.Ok m2.t m2.nx
 old:∀i,i<m1.lim->m2.get i=m1.get i
 blk:∀i b,m2.get i=some b->∃b1,m1.get i=some b1∧(b=b1∨(b=.dead∧bF b1=false)∨
  ∃es es1,(b1=.map es1∨b1=.mapU es1)∧b=.mapU es∧es.Perm es1∧(∀e∈es,∃s,e.1=.str s)∧(es.map (·.1)).Nodup)
theorem Weak.void {m1 c:Mem}(h:Weak m1 c){i:Nat}{b b1:N7}(j:c.get i=some b)(f:m1.get i=some b1):bF b=bF b1:=by obtain⟨d,a,e⟩:=h.blk i b j;rw [f] at a;cases a;rcases e with rfl | ⟨rfl,g⟩ | ⟨es,es1,rfl | rfl,rfl,_⟩;rfl;rw [g];rfl;rfl;rfl
theorem Weak.live {m1 c:Mem}(h:Weak m1 c){i:Nat}{b:N7}(f:c.get i=some b)(a:Q7 b=true):∃b1,m1.get i=some b1∧Q7 b1=true:=by obtain⟨b1,d,e⟩:=h.blk i b f;refine⟨b1,d,?_⟩;rcases e with rfl | ⟨rfl,g⟩ | ⟨es,es1,rfl | rfl,rfl,_⟩;exact a;cases a;rfl;rfl
theorem Weak.get {m1 d:Mem}(h:Weak m1 d)(a:T.Ok m1.t m1.nx){i:Nat}{c:N7}(e:m1.get i=some c):∃b,d.get i=some b:=
 (h.ok.get i).2 (by rw [h.nx];exact (a.get i).1 ⟨c,e⟩)
theorem Weak.has {m1 f:Mem}(h:Weak m1 f)(c:T.Ok m1.t m1.nx)(i:Nat):f.has i↔m1.has i:=by constructor;rintro⟨b,a,hv⟩;obtain⟨d,e,_⟩:=h.blk i b a;exact⟨d,e,by rw [← h.void a e];exact hv⟩;rintro⟨d,h1,hv⟩;obtain⟨b,a⟩:=h.get c h1;exact⟨b,a,by rw [h.void a h1];exact hv⟩
theorem Weak.nm {m1 b:Mem}(h:Weak m1 b)(a:T.Ok m1.t m1.nx)(ι:H6):b.nm ι=m1.nm ι:=by unfold Mem.nm;congr 1;funext i;exact propext (h.has a i)
theorem vD (ι:H6):∀(es:List (d9×d9)) (i:Nat),(F6 ι es i).map (λx=>(x.key,x.val))=es.map λe=>(l7 ι e.1,l7 ι e.2)
 | [],_=>rfl
 | e::es,i=>by simp [F6,vD ι es (i+1)]
section
variable {P:Program}{G:Mem}{ι:H6}
theorem Weak.rm {m1 t:Mem}{h:Array Obj}(k:Weak m1 t)(a:RM P G ι m1 h):RM P G ι t h where
 ok:=k.ok
 blk i b hb:=by rw [k.nm a.ok];obtain⟨c,d,f⟩:=k.blk i b hb;have l:=a.blk i c d;rcases f with rfl | ⟨rfl,_⟩ | ⟨es,es1,hb1,rfl,hp,hs,hn⟩;exact l;trivial;have g:(es1.map λe=>(l7 ι e.1,l7 ι e.2)).Perm (es.map λe=>(l7 ι e.1,l7 ι e.2)):=(hp.map _).symm;rcases hb1 with rfl | rfl;exact⟨F6 ι es1 0,es1.length,l.1,⟨by rw [vD];exact g,hs,hn⟩,λe q=>l.2 e (hp.subset q)⟩;obtain⟨L,x,u,v,w⟩:=l;exact⟨L,x,u,⟨v.1.trans g,hs,hn⟩,λe q=>w e (hp.subset q)⟩
 own i b hi hb hl:=by
  obtain⟨c,d,f⟩:=k.live hb hl;obtain⟨y,z⟩:=a.own i c (by rw [← k.lim];exact hi) d f;exact⟨λj A s p r=>by
   obtain⟨m,n,o⟩:=k.live p r;exact y j m s n o,z⟩
 glim:=by rw [k.lim];exact a.glim
 limn:=by rw [k.lim,k.nx];exact a.limn
 gle:=a.gle
 base i hi:=(k.old i (q9 hi a.glim)).trans (a.base i hi)
 ghas i hi:=(k.has a.ok i).2 (a.ghas i hi)
 glob:=a.glob
 spot i b hb hl:=by obtain⟨c,d,f⟩:=k.live hb hl;exact a.spot i c d f
 gsz:=a.gsz
theorem Step.weak {ι':H6}{m m1 a:Mem}{w w':World}(h:Step P G ι m w ι' m1 w')(k:Weak m1 a):Step P G ι m w ι' a w' where
 rm:=k.rm h.rm
 ext:=h.ext
 has i hi:=(k.has h.rm.ok i).2 (h.has i hi)
 nx:=by rw [k.nx];exact h.nx
 lim:=k.lim.trans h.lim
 old i hi:=(k.old i (by rw [h.lim];exact hi)).trans (h.old i hi)
 size:=h.size
 frame:=h.frame
 own b:=by rintro⟨i,x,h1,h2,h3,h4⟩;obtain⟨c,d,e⟩:=k.live h2 h3;exact h.own b ⟨i,c,by rw [← k.lim];exact h1,d,e,h4⟩
 os:=h.os
 out:=h.out
 tape:=h.tape
theorem O0.weak {m:Mem}{w w':World}{a b:List VM}{e:Ending}(h:O0 P G ι m w a e w')(k:∀o∈a,∃o'∈b,o'.v=o.v∧Weak o.m o'.m):O0 P G ι m w b e w':=by rcases h with⟨v,he,r,hr,ι',hst,hlt,hv⟩ | ⟨r,hr,x,ι',hx,hst,hlt,he⟩;obtain⟨o',f,d,c⟩:=k r hr;exact .inl ⟨v,he,o',f,ι',hst.weak c,by rw [d,c.nm hst.rm.ok];exact hlt,by rw [d];exact hv⟩;obtain⟨o',f,d,c⟩:=k r hr;exact .inr ⟨o',f,x,ι',d.trans hx,hst.weak c,by rw [c.nm hst.rm.ok];exact hlt,he⟩
theorem NU {K:Known}(j:Un P K){c n:Nat}{f:FuncId}{args:List d9}{m:Mem}{a b:List VM}(h:l9 K c n (.func f) args m=some a)
  (k:∀o∈a,∃o'∈b,o'.v=o.v∧Weak o.m o'.m):
  zm P f∧∀{ι:H6} {w:World},RM P K.base ι m w.heap->X0 (m.nm ι) args->CallsIn Fence.wide 0 P f (o9 ι args).toArray w (O0 P K.base ι m w b):=by
 obtain⟨g,i⟩:=(zB j c n).func h;exact⟨g,λp d=>(i p d).mono λe q l=>l.weak k⟩
theorem tL {K:Known}(b:Un P K){f:FuncId}{sf:M9}(e:K.fns f=some sf){args:List d9}{m:Mem}{a:List VM}
  (h:T.Ok m.t m.nx->m.lim<=m.nx->∃fuel n outs1,l9 K fuel n (.func f) args m=some outs1∧∀o∈outs1,∃o'∈a,o'.v=o.v∧Weak o.m o'.m):
  zm P f∧∀{ι:H6} {w:World},RM P K.base ι m w.heap->X0 (m.nm ι) args->CallsIn Fence.wide 0 P f (o9 ι args).toArray w (O0 P K.base ι m w a):=by
 refine⟨(b.fns f sf e).ok,λ{ι w} hm hargs=>?_⟩;obtain⟨fuel,n,outs1,c,d⟩:=h hm.ok hm.limn;exact (NU b c d).2 hm hargs
end
theorem Li {α β:Type}{f:α->Option (List β)}{g:β->Prop}:∀{l:List α},(∀r∈l,∃os,f r=some os∧∀o∈os,g o)->∃outs,BU f l=some outs∧∀o∈outs,g o
 | [],_=>⟨[],rfl,λo ho=>by cases ho⟩
 | a::l,h=>by obtain⟨os,h1,h2⟩:=h a (abU ..);obtain⟨outs,h3,h4⟩:=Li (l:=l) λr hr=>h r (Y1 _ hr);refine⟨os++outs,by rw [wm,h1,h3];rfl,λo ho=>?_⟩;rcases Z5.1 ho with ho | ho;exact h2 o ho;exact h4 o ho
theorem abN {α β:Type}{l:List α}{f:α->Option (List β)}{g:β->Prop}(h:∀r∈l,∃os,f r=some os∧∀o∈os,g o):∃outs,bnd (some l) f=some outs∧∀o∈outs,g o:=by
 match l,h with
 | [],_=>exact⟨[],rfl,λo c=>by cases c⟩
 | [a],h=>exact h a (aA.2 rfl)
 | a::b::t,h=>exact Li (l:=a::b::t) h
theorem bg {α β:Type}{x:Option (List α)}{f:α->Option (List β)}{g1:α->Prop}{g:β->Prop}(c:∃l,x=some l∧∀r∈l,g1 r)(h:∀r,g1 r->∃os,f r=some os∧∀o∈os,g o):∃outs,bnd x f=some outs∧∀o∈outs,g o:=by obtain⟨l,rfl,a⟩:=c;exact abN λr b=>h r (a r b)
def aC (n:Nat)(m:Mem):Mem:=Nat.rec (λm=>m) (λ_ ih m=>ih (m.new .dead)) n m
def IL (k:d9)(l:List (d9×d9)):Bool:=match k with
 | .str s=>List.rec true (λe _ ih=>match e.1 with
  | .str t=>bi (strEq s t) false ih
  | _=>false) l
 | _=>false
def strKeys (l:List (d9×d9)):Bool:=List.rec true (λe t ih=>bi (IL e.1 t) ih false) l
def Yc (l:List (d9×d9)):Bool:=List.rec true (λe _ ih=>match e.2 with
 | .agg [a,b]=>bi (G9 a) (bi (G9 b) ih false) false
 | _=>false) l
def BA (args:List d9)(m:Mem):eO:=match args with
 | [.map d,.map s]=>bi (Nat.blt d m.lim) none (bi (Nat.beq d s) none (MP (m.get s) λes=>GK (m.get d) λds=>
   bi (strKeys (ah ds es)) (bi (Yc es) (bi (Nat.blt (len' es) 100000) (one (.tuple []) ((aC (Nat.succ (len' es)) m).set d (.mapU (ah ds es)))) none) none) none))
 | _=>none
def V7:List (Int×Int×List UInt8×Int):=
 [(5,3,[42],6),(5,3,[47],7),(5,3,[37],8),(4,3,[43],9),(4,3,[45],10),(3,3,[60],11),(3,3,[60,61],12),(3,3,[62],13),(3,3,[62,61],14),(3,3,[61,61],15),(3,3,[33,61],16),
  (1,1,[97,110,100],17),(0,1,[111,114],18)]
def IQ (lv k:Int)(s:List UInt8):Option Int:=List.rec none (λe _ ih=>bi (aX e.1 lv) (bi (aX e.2.1 k) (bi (strEq e.2.2.1 s) (some e.2.2.2) ih) ih) ih) V7
def lS (args:List d9)(m:Mem):eO:=match args with
 | [.ptr r off,.int .i64 lv]=>R4 (m.get r) λrs n rows=>ob (cell1 rs n rows off) λv=>ob (lenOf v) λlen=>Nat.rec (qj v (one (.int .i64 0) (aC 2 m)) (λ_ _ _ _=>one (.int .i64 0) (aC 2 m)) (λ_ _ _ _=>one (.int .i64 0) (aC 2 m))) (λ_ _=>qj v none (λid o _ _=>tok id o v r off lv) (λid o _ _=>tok id o v r off lv)) len
 | _=>none
where
 tok (id o:Nat) (v:d9) (r off:Nat) (lv:Int):eO:=R4 (m.get id) λrs n rows=>ob (iO rs n rows o 2) λl=>match l with
  | [.int .i64 k,.str s]=>Option.rec (one (.int .i64 0) (aC 2 m)) (λkd=>ob (J6 (aC 2 m).nx 2 v 1 none) λp=>storeAt (bL (aC 2 m) p.2) r off [p.1] λm'=>one (.int .i64 kd) m') (IQ lv k s)
  | _=>none
def aam (t:List UInt8):List UInt8->Bool:=List.rec (λ_=>true) (λb _ ih s=>List.rec false (λc cs _=>bi (Nat.beq b.toNat c.toNat) (ih cs) false) s) t
def isIn (t s:List UInt8):Bool:=List.rec (aam t []) (λb l ih=>bi (aam t (b::l)) true ih) s
def fK (sep:List UInt8)(l:List (List UInt8)):List UInt8:=List.rec [] (λs t ih=>List.rec s (λ_ _ _=>ah s (ah sep ih)) t) l
def zD (l:List (List d9)):Option (List (List UInt8)):=List.rec (some []) (λr _ ih=>match r with
 | [.str s]=>ob ih λt=>some (s::t)
 | _=>none) l
def Yd (c:UInt8)(s:List UInt8):Bool:=List.rec false (λb _ ih=>bi (Nat.beq b.toNat c.toNat) true ih) s
def Dp (c:UInt8)(s:List UInt8):Int:=List.rec (Int.negSucc 0) (λb _ ih=>bi (Nat.beq b.toNat c.toNat) 0 (bi (aX ih (Int.negSucc 0)) (Int.negSucc 0) (ih+1))) s
def Dq (c:UInt8)(s:List UInt8):Nat:=List.rec 0 (λb _ ih=>bi (Nat.beq b.toNat c.toNat) (Nat.succ ih) ih) s
def abO (fi fn fj nx:Nat)(f:FuncId)(args:List d9)(bs:List NB):Option AV:=
 bi (Nat.beq f fi) (match args,bs with
  | [.str s,.str [c]],[]=>bi (Nat.blt (len' s) 1000000) (some ⟨.int .i64 (Dp c s),[]⟩) none
  | _,_=>none)
 (bi (Nat.beq f fn) (match args,bs with
  | [.str s,.str [c]],[]=>bi (Nat.blt (len' s) 1000000) (some ⟨.int .i64 (.ofNat (Dq c s)),[]⟩) none
  | _,_=>none)
 (bi (Nat.beq f fj) (match args,bs with
  | [v,.str sep],[.cells 1 rows]=>qj v none
    (λid off n c=>bi (Nat.beq id nx) (bi (Nat.ble n c) (bi (Nat.blt n 1000000) (ob (takeN n (jX off rows)) λl=>ob (zD l) λws=>bi (Nat.blt (len' (fK sep ws)) 1000000) (some ⟨.str (fK sep ws),[]⟩) none) none) none) none)
    (λid off n _=>bi (Nat.beq id nx) (bi (Nat.blt n 1000000) (ob (takeN n (jX off rows)) λl=>ob (zD l) λws=>bi (Nat.blt (len' (fK sep ws)) 1000000) (some ⟨.str (fK sep ws),[]⟩) none) none) none)
  | [.nilSlice,.str _],[]=>some ⟨.str [],[]⟩
  | _,_=>none) none))
set_option maxRecDepth 100000
set_option maxHeartbeats 1000000
def left (seen:List Nat):List (d9×d9)->Nat->List (Nat×(d9×d9))
 | [],_=>[]
 | e::es,i=>if qp i seen=true then left seen es (i+1) else (i,e)::left seen es (i+1)
theorem Gd (n x:Nat)(l:List Nat):qp n (x::l)=bi (Nat.beq x n) true (qp n l):=rfl
theorem Ry (n:Nat)(l:List Nat):qp n (n::l)=true:=by rw [Gd,aat];rfl
theorem BD {n x:Nat}(h:x≠n)(l:List Nat):qp n (x::l)=qp n l:=by
 rw [Gd,show Nat.beq x n=false from by
  cases hb:Nat.beq x n with
  | false=>rfl
  | true=>exact absurd (aP hb) h];rfl
theorem left_skip (j:Nat)(seen:List Nat):∀(es:List (d9×d9)) (k:Nat),j<k->left (j::seen) es k=left seen es k
 | [],_,_=>rfl
 | e::es,k,h=>by simp only [left];rw [BD (by omega),left_skip j seen es (k+1) (by omega)]
theorem tN {seen:List Nat}:∀{es:List (d9×d9)} {i:Nat} {p:Nat×(d9×d9)},p∈left seen es i->i<=p.1∧es[p.1-i]?=some p.2∧qp p.1 seen=false
 | e::es,i,p,h=>by
  simp only [left] at h;have next:p∈left seen es (i+1)->i<=p.1∧(e::es)[p.1-i]?=some p.2∧qp p.1 seen=false:=λh=>by obtain⟨h1,h2,h3⟩:=tN h;refine⟨by omega,?_,h3⟩;rw [show p.1-i=(p.1-(i+1))+1 from by omega,abW];exact h2
  split at h;exact next h;rename_i hs;rcases X4.1 h with rfl | h;exact⟨lM _,by simp,by simpa using hs⟩;exact next h
theorem pY {seen:List Nat}:∀{es:List (d9×d9)} {i:Nat} {p:Nat×(d9×d9)},p∈left seen es i->(left seen es i).Perm (p::left (p.1::seen) es i)
 | e::es,i,p,h=>by
  have hm:=tN h;simp only [left] at h ⊢;by_cases hs:qp i seen=true;rw [if_pos hs] at h ⊢;have hne:p.1≠i:=λe=>by rw [e,hs] at hm;cases hm.2.2
  rw [BD hne,if_pos hs];exact pY h
  ·rw [if_neg hs] at h ⊢;rcases X4.1 h with rfl | h;rw [Ry,if_pos rfl,left_skip _ _ _ _ (ajC _)]
   ·have:=(tN h).1;rw [BD (by omega),if_neg hs];exact ((pY h).cons _).trans (List.Perm.swap ..)
theorem Lj (es:List (d9×d9)):∀i,(left [] es i).map (·.2)=es:=by
 induction es with
 | nil=>intro i;rfl
 | cons e es ih=>intro i;simp [left,ih,qp]
theorem Dr (es:List (d9×d9)):∀i,(left [] es i).length=es.length:=λi=>by have:=congrArg List.length (Lj es i);simpa using this
theorem Dt (m:Mem)(id mp since:Nat)(seen:List Nat):∀(es:List (d9×d9)) (i:Nat),
  nexts m id mp since seen es i=(left seen es i).map λp=>⟨.tuple [.bool true,p.2.1,p.2.2],m.set id (.iter (some mp) since (p.1::seen))⟩
 | [],_=>rfl
 | e::es,i=>by have h:nexts m id mp since seen (e::es) i=bi (qp i seen) (nexts m id mp since seen es (i+1)) (⟨.tuple [.bool true,e.1,e.2],m.set id (.iter (some mp) since (i::seen))⟩::nexts m id mp since seen es (i+1)):=rfl;rw [h,Dt m id mp since seen es (i+1)];simp only [left];cases qp i seen<;>rfl
theorem Ll {it:OF}{cf:D7}{ls:List d9}{env:T d9}{m:Mem}{i s:Nat}{a:List Nat}{es:List (d9×d9)}(h:it ls env=.ptr i 0)(c:m.lim<=i)
  (g:m.get i=some (.iter (some s) es.length a)) (hs:m.get s=some (.map es)):
  ∃l,zT it cf ls env m=some l∧∀r∈l,(left a es 0=[]∧r=⟨.tuple [.bool false],m⟩)∨∃p∈left a es 0,r=⟨.tuple [.bool true,p.2.1,p.2.2],m.set i (.iter (some s) es.length (p.1::a))⟩:=by
 have e:zT it cf ls env m=some (GV m (nexts m i s es.length a es 0)):=by
  show eP (it ls env) _=_;rw [h];show bi (Nat.beq 0 0) (bi (Nat.blt i m.lim) none _) none=_;rw [show Nat.blt i m.lim=false from by
   cases hb:Nat.blt i m.lim with
   | false=>rfl
   | true=>have:=Xb.mp hb;omega]
  show Fg (m.get i) _ _=_;rw [g];show MP (m.get s) _=_;rw [hs];show bi (Nat.beq (len' es) es.length) _ _=_;rw [I4,aat];rfl
 refine⟨_,e,λr b=>?_⟩;rw [Dt] at b;match c:left a es 0 with
 | []=>rw [c] at b;exact .inl ⟨rfl,aA.1 b⟩
 | q::t=>rw [c] at b;have b:r∈(q::t).map λp=>(⟨.tuple [.bool true,p.2.1,p.2.2],m.set i (.iter (some s) es.length (p.1::a))⟩:VM):=b;obtain⟨p,d,f⟩:=ac4.1 b;exact .inr ⟨p,d,f.symm⟩
theorem Gf {it:OF}{ls:List d9}{env:T d9}{m:Mem}{i s j:Nat}{a:List Nat}{es:List (d9×d9)}{e:d9×d9}(h:it ls env=.ptr i 0)
  (b:m.get i=some (.iter (some s) es.length (j::a))) (hs:m.get s=some (.map es)) (c:es[j]?=some e):qm it ls env m=some (.tuple [e.1,e.2]):=by
 show eP (it ls env) _=_;rw [h];show bi (Nat.beq 0 0) (Fg (m.get i) none _) none=_;rw [b];show MP (m.get s) _=_;rw [hs];show bi (Nat.beq (len' es) es.length) (ob (pq j es) _) _=_;rw [I4,aat,gW,c];rfl
theorem Au (k:List UInt8):∀(es:List (d9×d9)) (i:Nat),(∀e∈es,∃s,e.1=.str s∧s≠k)->findKey eqStr (.str k) es i=some none
 | [],_,_=>rfl
 | e::es,i,h=>by obtain⟨s,h1,h2⟩:=h e (abU ..);show ob (eqStr (.str k) e.1) _=_;rw [h1];show bi (strEq k s) _ _=_;rw [eU,beq_eq_false_iff_ne.2 (af4 h2)];exact Au k es (i+1) λe he=>h e (Y1 _ he)
theorem IU (k:List UInt8)(es:List (d9×d9))(h:∀e∈es,∃s,e.1=.str s∧s≠k):O5 eqStr 1 (.str k) es=some none:=by
 cases es with
 | nil=>rw [IC];rfl
 | cons e es=>rw [EU];exact Au k (e::es) 0 h
theorem Lm {k:d9}{l:List (d9×d9)}(h:IL k l=true):∃s,k=.str s∧∀e∈l,∃t,e.1=.str t∧s≠t:=by
 cases k with
 | str s=>
  refine⟨s,rfl,?_⟩;induction l with
  | nil=>intro e a;cases a
  | cons x l ih=>
   obtain⟨b,c⟩:=x;intro e a;cases b with
   | str t=>have h:bi (strEq s t) false (IL (.str s) l)=true:=h;rw [eU] at h;by_cases hst:s=t;rw [beq_iff_eq.2 hst] at h;cases h;rw [beq_eq_false_iff_ne.2 hst] at h;rcases X4.1 a with rfl | a;exact⟨t,rfl,hst⟩;exact ih h e a
   | _=>cases h
 | _=>cases h
theorem yD:∀{l:List (d9×d9)},strKeys l=true->(∀e∈l,∃s,e.1=.str s)∧(l.map (·.1)).Nodup
 | [],_=>⟨λe he=>(by cases he),List.nodup_nil⟩
 | x::l,h=>by obtain⟨h1,h2⟩:=bG (show bi (IL x.1 l) (strKeys l) false=true from h);obtain⟨s,hs,hl⟩:=Lm h1;obtain⟨g1,g2⟩:=yD h2;refine⟨λe he=>?_,?_⟩;rcases X4.1 he with rfl | he;exact⟨s,hs⟩;exact g1 e he;rw [Y6];refine aew.2 ⟨λhm=>?_,g2⟩;obtain⟨e,he,hk⟩:=ac4.1 hm;obtain⟨t,ht,hne⟩:=hl e he;rw [hs] at hk;rw [ht] at hk;cases hk;exact hne rfl
theorem Gg:∀{l:List (d9×d9)},Yc l=true->∀e∈l,∃a b,e.2=.agg [a,b]∧G9 a=true∧G9 b=true
 | (k,.agg [a,b])::l,h,e,he=>by obtain⟨h1,h2⟩:=bG (show bi (G9 a) (bi (G9 b) (Yc l) false) false=true from h);obtain⟨h2,h3⟩:=bG h2;rcases X4.1 he with rfl | he;exact⟨a,b,rfl,h1,h2⟩;exact Gg h3 e he
def zF:SC:=j3 (j4 (u7 (zT (G5 (gL gH))) (D9 (pExt A8 0) (sR sH) j6))) (j3 (o8 (G5 (gR gH)) y7 (yS 0)) (w9 1 (j3 (j4 (u6 (qm (G5 (gL gH))) (j5 (pExt A8 0) (j5 (pExt ay 1)
 (fq (iQ [(.int .i64 (.ofNat 0)),.nilFunc]) (sL (sR sH)) (D9 (J8 aH) (sR (sL sH)) (u7 (K7 2 ay aH) j6))))))) (j4 (u6 (aD 2 (G5 (gL (gR gH)))) (u7 (E9 eqStr 1 (G5 (gL (gL gH))) (G5 (gR (gL gH))) A8) j6))))))
def Uy:M9:=⟨false,[(some 3),(some 0)],6,[],(j3 (j4 (MC (mG (G5 gH)) (sL sH) j6)) (w9 0 (I9 zF))),none⟩
def ny (s it d b k p:d9):T d9:=.nd (.nd (.nd .e d .e) it (.nd .e p .e)) s (.nd (.nd .e k .e) b .e)
def Ye (u:Bool)(l:List (d9×d9)):N7:=match u with
 | false=>.map l
 | true=>.mapU l
structure Pn (m0:Mem)(d s it:Nat)(u:Bool)(es:List (d9×d9))(m:Mem)(seen:List Nat)(cur:List (d9×d9)):Prop where
 ok:m.Ok
 lim:m.lim=m0.lim
 dl:m0.lim<=d
 dn:d<m0.nx
 ds:d≠s
 sn:s<m0.nx
 itn:it=m0.nx
 mn:m0.nx<m.nx
 gs:m.get s=some (.map es)
 gi:m.get it=some (.iter (some s) es.length seen)
 gd:m.get d=some (Ye u cur)
 old:∀i,i<m0.nx->i≠d->m.get i=m0.get i
 new:∀i,m0.nx<=i->∀b,m.get i=some b->bF b=false
 len:m.nx+(left seen es 0).length=m0.nx+1+es.length
structure Uz (m0:Mem)(d:Nat)(u:Bool)(all:List (d9×d9))(n:Nat)(m:Mem):Prop where
 ok:m.Ok
 lim:m.lim=m0.lim
 nx:m.nx=m0.nx+1+n
 gd:∃l,m.get d=some (Ye u l)∧all.Perm l
 old:∀i,i<m0.nx->i≠d->m.get i=m0.get i
 new:∀i,m0.nx<=i->∀b,m.get i=some b->bF b=false
theorem UA {a b:Nat}(h:b<=a):Nat.blt a b=false:=by
 cases hb:Nat.blt a b with
 | false=>rfl
 | true=>have:=Xb.mp hb;omega
theorem Lr {C:Mem}{d s it:Nat}{u:Bool}{es:List (d9×d9)}{m:Mem}{f:List Nat}{g:List (d9×d9)}(h:Pn C d s it u es m f g)(I:C.lim<=C.nx)(h2:∀e∈es,∃a b,e.2=.agg [a,b]∧G9 a=true∧G9 b=true)
  (R:(∀e∈g++(left f es 0).map (·.2),∃t,e.1=.str t)∧((g++(left f es 0).map (·.2)).map (·.1)).Nodup) (cf:D7) (fu:Nat) (b k p:d9):
  ∃outs,zF cf fu none (ny (.map s) (.ptr it 0) (.map d) b k p) m []=some outs∧∀o∈outs,
   (left f es 0=[]∧∃env,o=⟨.exit 0,env,m,[],none⟩)∨
   ∃q∈left f es 0,∃m' b' k' p',o=⟨.normal,ny (.map s) (.ptr it 0) (.map d) b' k' p',m',[],none⟩∧Pn C d s it u es m' (q.1::f) (g ++ [q.2]):=by
 unfold zF;rw [tF,yw];refine bg (g1:=λo:Out=>(left f es 0=[]∧o=⟨.normal,ny (.map s) (.ptr it 0) (.map d) (.bool false) k p,m,[],none⟩)∨
  ∃q∈left f es 0,o=⟨.normal,ny (.map s) (.ptr it 0) (.map d) (.bool true) k p,m.set it (.iter (some s) es.length (q.1::f)),[],none⟩) ?_ ?_
 refine bg (g1:=λe:EM=>(left f es 0=[]∧e=⟨ny (.map s) (.ptr it 0) (.map d) (.bool false) k p,m,none,[]⟩)∨
  ∃q∈left f es 0,e=⟨ny (.map s) (.ptr it 0) (.map d) (.bool true) k p,m.set it (.iter (some s) es.length (q.1::f)),none,[]⟩) ?_ ?_
 rw [Iy];refine bg (Ll (it:=G5 (gL gH)) (env:=ny (.map s) (.ptr it 0) (.map d) b k p) rfl (by rw [h.lim,h.itn];exact I) h.gi h.gs) ?_;rintro r (⟨h1,rfl⟩ | ⟨q,h1,rfl⟩);exact⟨_,rfl,λo n=>.inl ⟨h1,aA.1 n⟩⟩;exact⟨_,rfl,λo n=>.inr ⟨q,h1,aA.1 n⟩⟩;rintro e (⟨h1,rfl⟩ | ⟨q,h1,rfl⟩);exact⟨_,rfl,λo n=>.inl ⟨h1,aA.1 n⟩⟩;exact⟨_,rfl,λo n=>.inr ⟨q,h1,aA.1 n⟩⟩;rintro o (⟨h1,rfl⟩ | ⟨q,h1,rfl⟩);exact⟨_,rfl,λo n=>.inl ⟨h1,_,aA.1 n⟩⟩;obtain⟨_,B,a1⟩:=tN h1;rw [ajJ] at B;have V:q.2∈es:=U9 B;obtain⟨x,y,O,Z,a0⟩:=h2 q.2 V;have hp:=pY h1;have U:(g++(left f es 0).map (·.2)).Perm (g++q.2::(left (q.1::f) es 0).map (·.2)):=(hp.map _).append_left _;have J:q.2∈g++(left f es 0).map (·.2):=ac0 _ (aeX h1);obtain⟨t,Y⟩:=R.1 q.2 J;have l:O5 eqStr 1 (.str t) g=some none:=IU t g λe P=>by obtain⟨t',N⟩:=R.1 e (abX _ P);refine⟨t',N,λe'=>?_⟩;have hn:((g++q.2::(left (q.1::f) es 0).map (·.2)).map (·.1)).Nodup:=(U.map _).nodup R.2;rw [ac5,List.nodup_append] at hn;exact hn.2.2 _ (aeX P) _ (by rw [Y6];exact abU ..) (by rw [N,Y,e'])
 have A:it<m.nx:=by rw [h.itn];exact h.mn
 have L:s≠it:=by rw [h.itn];exact agr h.sn
 have E:d≠it:=by rw [h.itn];exact agr h.dn
 have W:s<m.nx:=Nat.lt_trans h.sn h.mn;have F:d<m.nx:=Nat.lt_trans h.dn h.mn;generalize hM:m.set it (.iter (some s) es.length (q.1::f))=M;have Mok:M.Ok:=by rw [← hM];exact Mem.Ok.set h.ok A _
 have Mn:M.nx=m.nx:=by rw [← hM];rfl
 have Ml:M.lim=C.lim:=by rw [← hM];exact h.lim
 have Mg:∀i,M.get i=if i=it then some (.iter (some s) es.length (q.1::f)) else m.get i:=λi=>by rw [← hM,Mem.U1 h.ok A]
 have Ms:M.get s=some (.map es):=by rw [Mg,if_neg L];exact h.gs
 have Mi:M.get it=some (.iter (some s) es.length (q.1::f)):=by rw [Mg,if_pos rfl]
 have Md:M.get d=some (Ye u g):=by rw [Mg,if_neg E];exact h.gd
 have G:∀(env:T d9),gL gH env=.ptr it 0->qm (G5 (gL gH)) [] env M=some (.tuple [q.2.1,q.2.2]):=λenv P=>Gf (it:=G5 (gL gH)) P Mi Ms B;have Mlim:M.lim<=M.nx:=by rw [Ml,Mn];exact J2 I (aeQ h.mn)
 have g1:(M.new (r9 [x,y])).get d=some (Ye u g):=by rw [Mem.J9 Mok,if_neg (by rw [Mn];exact agr F)];exact Md
 have K:∀(env:T d9) (ls:List d9),env=ny (.map s) (.ptr it 0) (.map d) (.bool true) (.str t) (.ptr M.nx 0)->ls=[.agg [x,y]]->
   E9 eqStr 1 (G5 (gL (gL gH))) (G5 (gR (gL gH))) A8 cf ls env (M.new (r9 [x,y]))=some [⟨.undef,(M.new (r9 [x,y])).set d (Ye u (g ++ [(.str t,.agg [x,y])]))⟩]:=by
  rintro env ls rfl rfl;rw [qM];show bi (Nat.blt d M.lim) none (ob (msB ((M.new (r9 [x,y])).get d) eqStr 1 (.str t) (.agg [x,y])) _)=_;rw [UA (by rw [Ml];exact h.dl),g1];cases u with
  | false=>show ob (ob (O5 eqStr 1 (.str t) g) _) _=_;rw [l];rfl
  | true=>show ob (ob (O5 eqStr 1 (.str t) g) _) _=_;rw [l];rfl
 refine⟨[⟨.normal,ny (.map s) (.ptr it 0) (.map d) (.bool true) (.str t) (.ptr M.nx 0),(M.new (r9 [x,y])).set d (Ye u (g ++ [(.str t,.agg [x,y])])),[],none⟩],?_,λo n=>.inr ⟨q,h1,_,_,_,_,aA.1 n,?_⟩⟩;have X:∀(env:T d9) (c:d9),K7 2 ay aH cf [.str t,.ptr M.nx 0,.agg [x,y],.str t,.tuple [.str t,.agg [x,y]]] env (M.new (r9 [c,.nilFunc]))=some [⟨.undef,M.new (r9 [x,y])⟩]:=λenv c=>by show storeAt (M.new (r9 [c,.nilFunc])) M.nx 0 [x,y] (λm'=>one .undef m')=_;rw [jP (m:=M.new (r9 [c,.nilFunc])) Mlim (by show bi (G9 x) (bi (G9 y) true false) false=true;rw [Z,a0];rfl),Mem.J9 Mok,if_pos rfl,tC (by simp) (by simp),K5,Mem.Iz Mok];rfl
 have j:=G (ny (.map s) (.ptr it 0) (.map d) (.bool true) k p) rfl;have v:=K _ _ rfl rfl;have S:MG ((M.new (r9 [x,y])).get M.nx) 0 2=some (.agg [x,y]):=by rw [Mem.J9 Mok,if_pos rfl,tu (by simp) (by simp)];rfl
 rw [Y,O] at j;simp only [ny] at j v ⊢;simp [j,X,v,S,iQ];have hq:q.2=(.str t,.agg [x,y]):=by rw [← Y,← O]
 rw [← hq];have Nok:(M.new (r9 [x,y])).Ok:=Mem.Ok.new Mok _;have z:d<(M.new (r9 [x,y])).nx:=by show d<M.nx+1;rw [Mn];exact Nat.lt_succ_of_lt F
 have D:∀i,((M.new (r9 [x,y])).set d (Ye u (g ++ [q.2]))).get i=if i=d then some (Ye u (g ++ [q.2])) else if i=M.nx then some (r9 [x,y]) else if i=it then some (.iter (some s) es.length (q.1::f)) else m.get i:=λi=>by rw [Mem.U1 Nok z,Mem.J9 Mok,Mg]
 exact {
  ok:=Mem.Ok.set Nok z _
  lim:=Ml
  dl:=h.dl
  dn:=h.dn
  ds:=h.ds
  sn:=h.sn
  itn:=h.itn
  mn:=by show C.nx<M.nx+1;rw [Mn];exact Nat.lt_succ_of_lt h.mn
  gs:=by rw [D,if_neg (af4 h.ds),if_neg (by rw [Mn];exact agr W),if_neg L];exact h.gs
  gi:=by rw [D,if_neg (af4 E),if_neg (by rw [Mn];exact agr A),if_pos rfl]
  gd:=by rw [D,if_pos rfl]
  old:=λi Q H=>by rw [D,if_neg H,if_neg (by rw [Mn];have:=h.mn;omega),if_neg (by rw [h.itn];omega)];exact h.old i Q H
  new:=λi Q b' w=>by
   rw [D] at w;split at w;cases w;cases u<;>rfl
   split at w;cases w;rfl;split at w;cases w;rfl;exact h.new i Q b' w
  len:=by
   have:=h.len;have hl:=hp.length_eq;rw [Y3] at hl;show M.nx+1 + _=_;rw [Mn];omega}
theorem Yf {r:Mem}{d s it:Nat}{u:Bool}{es:List (d9×d9)}(i:r.lim<=r.nx)(w:∀e∈es,∃a b,e.2=.agg [a,b]∧G9 a=true∧G9 b=true)(cf:D7)(fu:Nat){all:List (d9×d9)}
  (l:(∀e∈all,∃t,e.1=.str t)∧(all.map (·.1)).Nodup):
  ∀(n:Nat) (m:Mem) (seen:List Nat) (cur:List (d9×d9)) (b k p:d9),Pn r d s it u es m seen cur->(left seen es 0).length=n->all.Perm (cur++(left seen es 0).map (·.2))->∀N,n<N->
   ∃outs,H7 (λenv m k=>zF cf fu none env m k) N (ny (.map s) (.ptr it 0) (.map d) b k p) m []=some outs∧∀o∈outs,∃env m',o=⟨.exit 0,env,m',[],none⟩∧Uz r d u all es.length m':=by
 intro n;induction n with
 | zero=>intro m seen cur b k p h g f N x;obtain⟨N,rfl⟩:∃N',N=N'+1:=⟨N-1,by omega⟩;have c:left seen es 0=[]:=aax.1 g;rw [A9];refine bg (Lr h i w ⟨λe v=>l.1 e (f.symm.subset v),(f.map _).nodup l.2⟩ cf fu b k p) ?_;rintro o (⟨_,env,rfl⟩ | ⟨q,hq,_⟩);refine⟨_,rfl,λo y=>?_⟩;obtain rfl:=aA.1 y;refine⟨env,m,rfl,h.ok,h.lim,?_,⟨cur,h.gd,by rw [c] at f;simpa using f⟩,h.old,h.new⟩;have:=h.len;rw [g] at this;exact this;rw [c] at hq;cases hq
 | succ n ih=>intro m seen cur b k p h g f N x;obtain⟨N,rfl⟩:∃N',N=N'+1:=⟨N-1,by omega⟩;rw [A9];refine bg (Lr h i w ⟨λe v=>l.1 e (f.symm.subset v),(f.map _).nodup l.2⟩ cf fu b k p) ?_;rintro o (⟨c,_⟩ | ⟨q,hq,m',b',k',p',rfl,h'⟩);rw [c] at g;cases g;rw [yA];have j:=pY hq;refine ih m' (q.1::seen) (cur ++ [q.2]) b' k' p' h' ?_ ?_ N (by omega);have:=j.length_eq;rw [g,Y3] at this;omega;refine f.trans (((j.map _).append_left cur).trans ?_);rw [List.append_assoc];exact List.Perm.refl _
theorem wI (n:Nat)(m:Mem):(aC n m).nx=m.nx+n∧(aC n m).lim=m.lim:=by
 induction n generalizing m with
 | zero=>exact⟨rfl,rfl⟩
 | succ n ih=>have:aC (n+1) m=aC n (m.new .dead):=rfl;rw [this];obtain⟨a,b⟩:=ih (m.new .dead);exact⟨by rw [a];show m.nx+1+n=_;omega,b⟩
theorem zG (n:Nat){m:Mem}(a:m.Ok):(aC n m).Ok∧∀i,(aC n m).get i=if m.nx<=i∧i<m.nx+n then some .dead else m.get i:=by
 induction n generalizing m with
 | zero=>exact⟨a,λi=>by rw [if_neg (by omega)];rfl⟩
 | succ n ih=>have:aC (n+1) m=aC n (m.new .dead):=rfl;rw [this];obtain⟨b,c⟩:=ih (Mem.Ok.new a .dead);refine⟨b,λi=>?_⟩;rw [c,Mem.J9 a];show (if m.nx+1<=i∧i<m.nx+1+n then _ else if i=m.nx then some N7.dead else m.get i)=_;by_cases h:i=m.nx;rw [if_neg (by omega),if_pos h,if_pos (by omega)];by_cases h':m.nx+1<=i∧i<m.nx+1+n;rw [if_pos h',if_pos (by omega)];rw [if_neg h',if_neg h,if_neg (by omega)]
theorem UC {P:Program}{K:Known}(hK:Un P K){f:FuncId}(V:K.fns f=some Uy)(he:∀args m,K.eff f args m=none){args:List d9}{m:Mem}{outs:List VM}(h:BA args m=some outs):
  zm P f∧∀{ι:H6} {w:World},RM P K.base ι m w.heap->X0 (m.nm ι) args->CallsIn Fence.wide 0 P f (o9 ι args).toArray w (O0 P K.base ι m w outs):=by
 obtain⟨d,s,rfl⟩:∃d s,args=[.map d,.map s]:=by unfold BA at h;split at h;exact⟨_,_,rfl⟩;cases h
 have h:bi (Nat.blt d m.lim) none (bi (Nat.beq d s) none (MP (m.get s) λa=>GK (m.get d) λds=>bi (strKeys (ah ds a)) (bi (Yc a) (bi (Nat.blt (len' a) 100000) (one (.tuple []) ((aC (Nat.succ (len' a)) m).set d (.mapU (ah ds a)))) none) none) none))=some outs:=h;obtain⟨O,h⟩:=iU h;obtain⟨Q,h⟩:=iU h;obtain⟨a,x,h⟩:=za h;obtain⟨ds,v,h⟩:=Bv h;obtain⟨R,h⟩:=D5 h;obtain⟨X,h⟩:=D5 h;obtain⟨_,h⟩:=D5 h;cases h;rw [Q8] at R ⊢;rw [I4];have C:=yD R;have h2:=Gg X;have A:d≠s:=λe=>by rw [e,aat] at Q;cases Q
 have y:m.lim<=d:=adB λhh=>by rw [show Nat.blt d m.lim=true from Xb▸hh] at O;cases O
 obtain⟨u,W⟩:∃u,m.get d=some (Ye u ds):=by rcases v with v | v;exact⟨false,v⟩;exact⟨true,v⟩
 refine tL hK V λg F=>?_;have g:m.Ok:=g;have I:=Mem.F9 g x;have z:=Mem.F9 g W;have g1:∀i,(m.new (.iter (some s) a.length [])).get i=if i=m.nx then some (.iter (some s) a.length []) else m.get i:=λi=>Mem.J9 g _ i
 have J:Pn m d s m.nx u a (m.new (.iter (some s) a.length [])) [] ds:={
  ok:=Mem.Ok.new g _
  lim:=rfl
  dl:=y
  dn:=z
  ds:=A
  sn:=I
  itn:=rfl
  mn:=ajC _
  gs:=by rw [g1,if_neg (by omega)];exact x
  gi:=by rw [g1,if_pos rfl]
  gd:=by rw [g1,if_neg (by omega)];exact W
  old:=λi B _=>by rw [g1,if_neg (by omega)]
  new:=λi B b n=>by rw [g1] at n;split at n;cases n;rfl;have:=Mem.F9 g n;omega
  len:=by show m.nx+1 + _=_;rw [Dr]}
 obtain⟨outs,G,H⟩:=Yf (all:=ds++a) F h2 (l9 K (a.length+1) 0) (a.length+1) C a.length _ [] ds .undef .undef .undef J (Dr a 0) (by rw [Lj]) (a.length+1) (ajC _);have L:∃l,l9 K (a.length+1) 1 (.func f) [.map d,.map s] m=some l∧∀r∈l,∃m',r=⟨.tuple [],m'⟩∧Uz m d u (ds++a) a.length m':=by
  rw [dH];show ∃l,(Option.rec (ob (K.fns f) λM=>bi M.pure (gD K (l9 K (a.length+1) 0) (a.length+1) f M [.map d,.map s] m) (ko (l9 K (a.length+1) 0) (qQ K (l9 K (a.length+1) 0) (a.length+1)) (a.length+1) M [.map d,.map s] m)) (λl=>some l) (K.eff f [.map d,.map s] m):eO)=some l∧_;rw [he,V];show ∃l,bnd (j3 (j4 (MC (mG (G5 gH)) (sL sH) j6)) (w9 0 (I9 zF)) (l9 K (a.length+1) 0) (a.length+1) none (ny (.map s) .undef (.map d) .undef .undef .undef) m []) (leave _ [])=some l∧_;refine bg (g1:=λo:Out=>∃j m',o=⟨.normal,j,m',[],none⟩∧Uz m d u (ds++a) a.length m') ?_ ?_;rw [tF,yw,abo];have t:mG (G5 gH) (l9 K (a.length+1) 0) [] (ny (.map s) .undef (.map d) .undef .undef .undef) m=some [⟨.ptr m.nx 0,m.new (.iter (some s) a.length [])⟩]:=by show MP (m.get s) _=_;rw [x];show one _ (m.new (.iter (some s) (len' a) []))=_;rw [I4];rfl
  rw [t];show ∃l,bnd (H7 (λj m k=>zF (l9 K (a.length+1) 0) (a.length+1) none j m k) (a.length+1) (ny (.map s) (.ptr m.nx 0) (.map d) .undef .undef .undef) (m.new (.iter (some s) a.length [])) []) (Rm 0)=some l∧_;refine bg ⟨outs,G,H⟩ ?_;rintro o ⟨j,m',rfl,c⟩;exact⟨_,rfl,λr t=>by
   obtain rfl:=aA.1 t;exact⟨j,m',rfl,c⟩⟩
  rintro o ⟨j,m',rfl,c⟩;exact⟨_,rfl,λr t=>by
   obtain rfl:=aA.1 t;exact⟨m',rfl,c⟩⟩
 obtain⟨l,D,E⟩:=L;refine⟨_,_,l,D,λo ho=>?_⟩;obtain⟨m',rfl,c⟩:=E o ho;refine⟨_,aA.2 rfl,rfl,?_⟩;obtain⟨S,Y⟩:=wI (a.length+1) m;obtain⟨T,Z⟩:=zG (a.length+1) g;have p:d<(aC (a.length+1) m).nx:=by rw [S];omega
 have U:∀i,((aC (a.length+1) m).set d (.mapU (ds++a))).get i=if i=d then some (.mapU (ds++a)) else if m.nx<=i∧i<m.nx+(a.length+1) then some .dead else m.get i:=λi=>by rw [Mem.U1 T p,Z]
 exact {
  nx:=by show (aC (a.length+1) m).nx=m'.nx;rw [S,c.nx];omega
  lim:=by show (aC (a.length+1) m).lim=m'.lim;rw [Y,c.lim]
  ok:=Mem.Ok.set T p _
  old:=λi B=>by rw [c.lim] at B;rw [U,if_neg (by omega),if_neg (by omega),c.old i (by omega) (by omega)]
  blk:=λi b n=>by
   rw [U] at n;split at n;rename_i q;subst q;cases n;obtain⟨l',g1,g2⟩:=c.gd;refine⟨_,g1,.inr (.inr ⟨ds++a,l',?_,rfl,g2,C.1,C.2⟩)⟩;cases u;exact .inl rfl;exact .inr rfl;rename_i q;split at n;rename_i t;cases n;obtain⟨N,g1⟩:=(c.ok.get i).2 (by rw [c.nx];omega);exact⟨N,g1,.inr (.inl ⟨rfl,c.new i t.1 N g1⟩)⟩;have:=Mem.F9 g n;exact⟨b,by rw [c.old i this q];exact n,.inl rfl⟩}
def aJ:List (d9×d9):=V7.map λe=>(.int .i64 e.2.2.2,.str e.2.2.1)
def Rz (tok:Option (Int×List UInt8))(e:Int×Int×List UInt8×Int):Bool:=match tok with
 | some (k,s)=>decide (e.2.1=k)&&(e.2.2.1==s)
 | none=>false
def fQ (lv:Int)(tok:Option (Int×List UInt8))(e:Int×Int×List UInt8×Int):Bool:=decide (e.1=lv)&&Rz tok e
def zH (fl fa:Nat):SC:=j3 (j4 (u7 (zT (G5 gH)) (D9 (pExt A8 0) (sL sH) j6))) (j3 (o8 (G5 (gL gH)) y7 (yS 0)) (w9 1 (j3 (j4 (u6 (qm (G5 gH)) (j5 (pExt A8 0) (j5 (pExt ay 1) (D9 (J8 ay) (sR sH) (D9 (J8 ay) (sL (sR sH)) j6))))))
 (j3 (j4 (u7 (y8 fl [(G5 (gR gH))]) (j5 (I5 cK cO A8 (G5 (gL (gL gH)))) (j5 (gP A8 true (J8 (G5 (gR (gL gH))))) (j5 (gP ay true (J8 (G5 (gL (gR gH))))) (u7 (gE aH true (y8 fa [ay,A8])) (D9 (bZ lD A8 (C9 (.bool false))) (sR (sR sH)) j6)))))))
  (o8 (G5 (gR (gR gH))) (j3 (j4 (j5 (bH (G5 (gR (gL gH)))) (j5 (H9 0 A8) (u6 (eB A8) (gX (lSl 2 A8 (some (C9 (.int .i64 (.ofNat 1)))) none) (j5 (bH (G5 (gR (gL gH)))) (j5 (H9 0 A8) (u7 (K7 1 A8 aH) j6))))))))
   (j3 (j4 (D9 (J8 (G5 (gR gH))) (sL (sL (sL sH))) j6)) p9)) y7)))))
def IV (fs fl fa:Nat):M9:=⟨false,[(some 4),(some 3)],8,[.tmp 7],(j3 (j4 (D9 (J8 (C9 (.int .i64 (.ofNat 0)))) (sL (sL (sL sH))) j6)) (j3 (j3 (j4 (u7 (y8 fs []) (MC (mG A8) sH j6))) (w9 0 (I9 (zH fl fa))))
 (j3 (j4 (D9 (J8 (C9 (.int .i64 (.ofNat 0)))) (sL (sL (sL sH))) j6)) p9))),none⟩
def cB (it b kd lv r sg cd res:d9):T d9:=.nd (.nd (.nd (.nd .e res .e) lv .e) b (.nd .e sg .e)) it (.nd (.nd .e r .e) kd (.nd .e cd .e))
structure tO (m0 m:Mem)(seen:List Nat):Prop where
 ok:m.Ok
 lim:m.lim=m0.lim
 ll:m0.lim<=m0.nx
 mn:m.nx=m0.nx+2
 gs:m.get m0.nx=some (.map aJ)
 gi:m.get (m0.nx+1)=some (.iter (some m0.nx) aJ.length seen)
 old:∀i,i<m0.nx->m.get i=m0.get i
theorem Yg {j:Nat}{x:d9×d9}(h:aJ[j]?=some x):∃e∈V7,V7[j]?=some e∧x=(.int .i64 e.2.2.2,.str e.2.2.1):=by unfold aJ at h;rw [aas] at h;obtain⟨e,a,b⟩:=aay.1 h;exact⟨e,U9 a,a,b.symm⟩
theorem Ls {c m:Mem}{a:List Nat}(h:tO c m a){r off Q P:Nat}{lv:Int}{k:Option (Int×List UInt8)}{cf:D7}{v v':d9}{p:Option N7}{B:N7}
  (S:∀e∈V7,∀M,cf (.func Q) [.int .i64 e.2.2.2] M=some [⟨.int .i64 e.1,M⟩])
  (R:∀e∈V7,∀M:Mem,(∀i,i<c.nx->M.get i=c.get i)->cf (.func P) [.ptr r off,.str e.2.2.1] M=some [⟨.bool (Rz k e),M⟩])
  (J:ld1 (c.get r) off=some v) (X:r<c.nx)
  (L:∀e∈V7,fQ lv k e=true->J6 (c.nx+2) 2 v 1 none=some (v',p)∧G9 v'=true∧v'.cells=[v']∧Ga (c.get r) off [v']=some B∧c.lim<=r) (fu:Nat) (b t u l g:d9):
  ∃outs,zH Q P cf fu none (cB (.ptr (c.nx+1) 0) b t (.int .i64 lv) (.ptr r off) u l g) m []=some outs∧∀o∈outs,
   (left a aJ 0=[]∧∃env,o=⟨.exit 0,cB (.ptr (c.nx+1) 0) (.bool false) t (.int .i64 lv) (.ptr r off) u l g,m,[],none⟩∧env=())∨
   ∃q∈left a aJ 0,∃e∈V7,V7[q.1]?=some e∧∃M,tO c M (q.1::a)∧
    ((fQ lv k e=false∧∃b' kd' sg' cd',o=⟨.normal,cB (.ptr (c.nx+1) 0) b' kd' (.int .i64 lv) (.ptr r off) sg' cd' g,M,[],none⟩)∨
     (fQ lv k e=true∧∃b' kd' sg' cd',o=⟨.ret,cB (.ptr (c.nx+1) 0) b' kd' (.int .i64 lv) (.ptr r off) sg' cd' (.int .i64 e.2.2.2),(bL M p).set r B,[],none⟩)):=by
 unfold zH;rw [tF,yw];refine bg (g1:=λo:Out=>(left a aJ 0=[]∧o=⟨.normal,cB (.ptr (c.nx+1) 0) (.bool false) t (.int .i64 lv) (.ptr r off) u l g,m,[],none⟩)∨
  ∃q∈left a aJ 0,o=⟨.normal,cB (.ptr (c.nx+1) 0) (.bool true) t (.int .i64 lv) (.ptr r off) u l g,m.set (c.nx+1) (.iter (some c.nx) aJ.length (q.1::a)),[],none⟩) ?_ ?_
 refine bg (g1:=λe:EM=>(left a aJ 0=[]∧e=⟨cB (.ptr (c.nx+1) 0) (.bool false) t (.int .i64 lv) (.ptr r off) u l g,m,none,[]⟩)∨
  ∃q∈left a aJ 0,e=⟨cB (.ptr (c.nx+1) 0) (.bool true) t (.int .i64 lv) (.ptr r off) u l g,m.set (c.nx+1) (.iter (some c.nx) aJ.length (q.1::a)),none,[]⟩) ?_ ?_
 rw [Iy];refine bg (Ll (it:=G5 gH) (env:=cB (.ptr (c.nx+1) 0) b t (.int .i64 lv) (.ptr r off) u l g) rfl (by rw [h.lim];have:=h.ll;omega) h.gi h.gs) ?_;rintro r (⟨h1,rfl⟩ | ⟨q,h1,rfl⟩);exact⟨_,rfl,λo j=>.inl ⟨h1,aA.1 j⟩⟩;exact⟨_,rfl,λo j=>.inr ⟨q,h1,aA.1 j⟩⟩;rintro e (⟨h1,rfl⟩ | ⟨q,h1,rfl⟩);exact⟨_,rfl,λo j=>.inl ⟨h1,aA.1 j⟩⟩;exact⟨_,rfl,λo j=>.inr ⟨q,h1,aA.1 j⟩⟩;rintro o (⟨h1,rfl⟩ | ⟨q,h1,rfl⟩);exact⟨_,rfl,λo j=>.inl ⟨h1,(),aA.1 j,rfl⟩⟩;obtain⟨_,z,W⟩:=tN h1;rw [ajJ] at z;obtain⟨e,n,y,H⟩:=Yg z;have D:c.nx+1<m.nx:=by rw [h.mn];omega
 generalize hM:m.set (c.nx+1) (.iter (some c.nx) aJ.length (q.1::a))=M;have Mg:∀i,M.get i=if i=c.nx+1 then some (.iter (some c.nx) aJ.length (q.1::a)) else m.get i:=λi=>by rw [← hM,Mem.U1 h.ok D]
 have f:tO c M (q.1::a):={
  ok:=by rw [← hM];exact Mem.Ok.set h.ok D _
  lim:=by rw [← hM];exact h.lim
  ll:=h.ll
  mn:=by rw [← hM];exact h.mn
  gs:=by rw [Mg,if_neg (by omega)];exact h.gs
  gi:=by rw [Mg,if_pos rfl]
  old:=λi V=>by rw [Mg,if_neg (by omega)];exact h.old i V}
 have s:∀(env:T d9),gH env=.ptr (c.nx+1) 0->qm (G5 gH) [] env M=some (.tuple [q.2.1,q.2.2]):=λenv n=>Gf (it:=G5 gH) n f.gi f.gs z;rw [H] at s;have d:=s (cB (.ptr (c.nx+1) 0) (.bool true) t (.int .i64 lv) (.ptr r off) u l g) rfl;have I:=S e n M;have C:=R e n M f.old;have w:M.get r=c.get r:=f.old r X;cases hlv:decide (e.1=lv) with
 | false=>refine⟨[⟨.normal,cB (.ptr (c.nx+1) 0) (.bool true) (.int .i64 e.2.2.2) (.int .i64 lv) (.ptr r off) (.str e.2.2.1) (.bool false) g,M,[],none⟩],?_,λo j=>.inr ⟨q,h1,e,n,y,M,f,.inl ⟨by simp [fQ,hlv],_,_,_,_,aA.1 j⟩⟩⟩;simp only [cB] at d ⊢;simp [d,y8,I,C,hlv]
 | true=>
  cases hat:Rz k e with
  | false=>refine⟨[⟨.normal,cB (.ptr (c.nx+1) 0) (.bool true) (.int .i64 e.2.2.2) (.int .i64 lv) (.ptr r off) (.str e.2.2.1) (.bool false) g,M,[],none⟩],?_,λo j=>.inr ⟨q,h1,e,n,y,M,f,.inl ⟨by simp [fQ,hlv,hat],_,_,_,_,aA.1 j⟩⟩⟩;rw [hat] at C;simp only [cB] at d ⊢;simp [d,y8,I,C,hlv]
  | true=>
   obtain⟨Y,Z,s3,s4,E⟩:=L e n (by simp [fQ,hlv,hat]);refine⟨[⟨.ret,cB (.ptr (c.nx+1) 0) (.bool true) (.int .i64 e.2.2.2) (.int .i64 lv) (.ptr r off) (.str e.2.2.1) (.bool true) (.int .i64 e.2.2.2),(bL M p).set r B,[],none⟩],?_,λo j=>.inr ⟨q,h1,e,n,y,M,f,.inr ⟨by simp [fQ,hlv,hat],_,_,_,_,aA.1 j⟩⟩⟩;rw [hat] at C;simp only [cB] at d ⊢;have A:M.nx=c.nx+2:=f.mn;have F:∀(env:T d9) (G:List d9),lSl 2 A8 (some (C9 (.int .i64 1))) none (v::G) env M.nx=some (v',p):=λenv G=>by rw [A];exact Y
   have U:(bL M p).get r=c.get r:=by
    cases p with
    | none=>exact w
    | some x=>show (M.new x).get r=_;rw [Mem.J9 f.ok,if_neg (by rw [A];omega)];exact w
   have K:(bL M p).lim<=r:=by
    cases p with
    | none=>show M.lim<=r;rw [f.lim];exact E
    | some x=>show M.lim<=r;rw [f.lim];exact E
   have N:∀(env:T d9) (G:List d9) (O:d9),K7 1 A8 aH cf (.ptr r off::O::v'::G) env (bL M p)=some [⟨.undef,(bL M p).set r B⟩]:=λenv G O=>by show bi (Nat.beq (len' v'.cells) 1) (storeAt (bL M p) r off v'.cells _) none=_;rw [s3];show storeAt (bL M p) r off [v'] _=_;rw [jP K (by show bi (G9 v') true false=true;rw [Z];rfl),U,s4];rfl
   simp [d,y8,I,C,hlv,w,J,F,N]
theorem Lu {seen:List Nat}:∀{es:List (d9×d9)} {i:Nat},left seen es i=[]->∀j,i<=j->j<i+es.length->qp j seen=true
 | [],i,_,j,h1,h2=>by simp at h2;omega
 | e::es,i,h,j,h1,h2=>by simp only [left] at h;split at h;rename_i hs;by_cases hj:j=i;rw [hj];exact hs;exact Lu h j (by omega) (by simp at h2;omega);cases h
theorem Yh {c:Mem}{r off D C:Nat}{lv:Int}{d:Option (Int×List UInt8)}{cf:D7}{v v':d9}{p:Option N7}{B:N7}
  (A:∀e∈V7,∀M,cf (.func D) [.int .i64 e.2.2.2] M=some [⟨.int .i64 e.1,M⟩])
  (z:∀e∈V7,∀M:Mem,(∀i,i<c.nx->M.get i=c.get i)->cf (.func C) [.ptr r off,.str e.2.2.1] M=some [⟨.bool (Rz d e),M⟩])
  (t:ld1 (c.get r) off=some v) (E:r<c.nx)
  (u:∀e∈V7,fQ lv d e=true->J6 (c.nx+2) 2 v 1 none=some (v',p)∧G9 v'=true∧v'.cells=[v']∧Ga (c.get r) off [v']=some B∧c.lim<=r) (fu:Nat) (f:d9):
  ∀(n:Nat) (m:Mem) (seen:List Nat) (b kd sg cd:d9),tO c m seen->(left seen aJ 0).length=n->(∀j e,qp j seen=true->V7[j]?=some e->fQ lv d e=false)->∀N,n<N->
   ∃outs,H7 (λenv m k=>zH D C cf fu none env m k) N (cB (.ptr (c.nx+1) 0) b kd (.int .i64 lv) (.ptr r off) sg cd f) m []=some outs∧∀o∈outs,
    ((∀e∈V7,fQ lv d e=false)∧∃b' kd' sg' cd' M seen',tO c M seen'∧o=⟨.exit 0,cB (.ptr (c.nx+1) 0) b' kd' (.int .i64 lv) (.ptr r off) sg' cd' f,M,[],none⟩)∨
    ∃e∈V7,fQ lv d e=true∧∃b' kd' sg' cd' M seen',tO c M seen'∧o=⟨.ret,cB (.ptr (c.nx+1) 0) b' kd' (.int .i64 lv) (.ptr r off) sg' cd' (.int .i64 e.2.2.2),(bL M p).set r B,[],none⟩:=by
 intro n;induction n with
 | zero=>intro m seen b kd sg cd h s y N G;obtain⟨N,rfl⟩:∃N',N=N'+1:=⟨N-1,by omega⟩;have a:left seen aJ 0=[]:=aax.1 s;rw [A9];refine bg (Ls h A z t E u fu b kd sg cd f) ?_;rintro o (⟨_,_,rfl,_⟩ | ⟨q,hq,_⟩);refine⟨_,rfl,λo x=>.inl ⟨λe w=>?_,_,_,_,_,m,seen,h,aA.1 x⟩⟩;obtain⟨j,l⟩:=aao w;refine y j e (Lu a j (by omega) ?_) l;have:=(gq.1 l).1;simp [aJ];omega;rw [a] at hq;cases hq
 | succ n ih=>intro m seen b kd sg cd h s y N G;obtain⟨N,rfl⟩:∃N',N=N'+1:=⟨N-1,by omega⟩;rw [A9];refine bg (Ls h A z t E u fu b kd sg cd f) ?_;rintro o (⟨a,_⟩ | ⟨q,hq,e,w,hej,M,inv,⟨hh,b',kd',sg',cd',rfl⟩ | ⟨hh,b',kd',sg',cd',rfl⟩⟩);rw [a] at s;cases s;rw [yA];refine ih M (q.1::seen) b' kd' sg' cd' inv ?_ (λj F l g=>?_) N (by omega);have:=(pY hq).length_eq;rw [s,Y3] at this;omega;by_cases hjq:q.1=j;rw [← hjq,hej] at g;cases g;exact hh;rw [BD hjq] at l;exact y j F l g;exact⟨_,rfl,λo x=>.inr ⟨e,w,hh,b',kd',sg',cd',M,_,inv,aA.1 x⟩⟩
def Du (M:Mem)(r off:Nat)(tok:Option (Int×List UInt8)):Prop:=∃v,ld1 (M.get r) off=some v∧
 ((tok=none∧(v=.nilSlice∨(∃id o c,v=.slice id o 0 c)∨∃id o es,v=.sliceU id o 0 es))∨∃k s id o len,((∃c,v=.slice id o (len+1) c)∨∃es,v=.sliceU id o (len+1) es)∧MG (M.get id) o 2=some (.agg [.int .i64 k,.str s])∧tok=some (k,s))
theorem Dv {lv k:Int}{s:List UInt8}:∀(l:List (Int×Int×List UInt8×Int)),(∀e∈l,∀e'∈l,e.2.2.1=e'.2.2.1->e=e')->
  match (List.rec none (λe _ ih=>bi (aX e.1 lv) (bi (aX e.2.1 k) (bi (strEq e.2.2.1 s) (some e.2.2.2) ih) ih) ih) l:Option Int) with
  | none=>∀e∈l,fQ lv (some (k,s)) e=false
  | some kd=>(∃e∈l,fQ lv (some (k,s)) e=true)∧∀e∈l,fQ lv (some (k,s)) e=true->e.2.2.2=kd
 | [],_=>λe he=>by cases he
 | e::l,hu=>by
  have ih:=Dv (lv:=lv) (k:=k) (s:=s) l λa ha b hb=>hu a (Y1 _ ha) b (Y1 _ hb);have hb:fQ lv (some (k,s)) e=(aX e.1 lv&&(aX e.2.1 k&&strEq e.2.2.1 s)):=by rw [dW,dW,eU];rfl
  have h0:(List.rec none (λe _ ih=>bi (aX e.1 lv) (bi (aX e.2.1 k) (bi (strEq e.2.2.1 s) (some e.2.2.2) ih) ih) ih) (e::l):Option Int) =
    bi (fQ lv (some (k,s)) e) (some e.2.2.2) (List.rec none (λe _ ih=>bi (aX e.1 lv) (bi (aX e.2.1 k) (bi (strEq e.2.2.1 s) (some e.2.2.2) ih) ih) ih) l):=by
   rw [hb];show bi (aX e.1 lv) (bi (aX e.2.1 k) (bi (strEq e.2.2.1 s) _ _) _) _=_;cases aX e.1 lv<;>cases aX e.2.1 k<;>cases strEq e.2.2.1 s<;>rfl
  rw [h0];cases hh:fQ lv (some (k,s)) e with
  | true=>
   refine⟨⟨e,abU ..,hh⟩,λe' he' h'=>?_⟩;have ht:∀x:Int×Int×List UInt8×Int,fQ lv (some (k,s)) x=true->x.2.2.1=s:=λx hx=>by simp only [fQ,Rz,gI] at hx;simpa using hx.2.2
   rw [hu e' he' e (abU ..) (by rw [ht e' h',ht e hh])]
  | false=>
   show match (List.rec none _ l:Option Int) with
    | none=>_
    | some kd=>_
   revert ih;cases (List.rec none (λe _ ih=>bi (aX e.1 lv) (bi (aX e.2.1 k) (bi (strEq e.2.2.1 s) (some e.2.2.2) ih) ih) ih) l:Option Int) with
   | none=>intro ih e' he';rcases X4.1 he' with rfl | he';exact hh;exact ih e' he'
   | some kd=>rintro⟨⟨x,hx1,hx2⟩,h2⟩;refine⟨⟨x,Y1 _ hx1,hx2⟩,λe' he' h'=>?_⟩;rcases X4.1 he' with rfl | he';rw [hh] at h';cases h';exact h2 e' he' h'
theorem Lv (lv k:Int)(s:List UInt8):match IQ lv k s with
  | none=>∀e∈V7,fQ lv (some (k,s)) e=false
  | some kd=>(∃e∈V7,fQ lv (some (k,s)) e=true)∧∀e∈V7,fQ lv (some (k,s)) e=true->e.2.2.2=kd:=Dv V7 (by decide)
theorem Lx {K:Known}{f C A t:Nat}(X:K.fns f=some (IV C A t))(W:∀args m,K.eff f args m=none){N n:Nat}(hN:14<=N)
  (U:∀m:Mem,m.Ok->m.lim<=m.nx->l9 K N n (.func C) [] m=some [⟨.map m.nx,m.new (.map aJ)⟩])
  (T:∀e∈V7,∀M,l9 K N n (.func A) [.int .i64 e.2.2.2] M=some [⟨.int .i64 e.1,M⟩])
  (S:∀a r off M,Du M r off a->∀e∈V7,l9 K N n (.func t) [.ptr r off,.str e.2.2.1] M=some [⟨.bool (Rz a e),M⟩])
  {m:Mem} (d:m.Ok) (x:m.lim<=m.nx) {r off:Nat} {lv:Int} {a:Option (Int×List UInt8)} {v v':d9} {p:Option N7} {B:N7} (R:r<m.nx) (ht:Du m r off a) (G:ld1 (m.get r) off=some v)
  (L:∀e∈V7,fQ lv a e=true->J6 (m.nx+2) 2 v 1 none=some (v',p)∧G9 v'=true∧v'.cells=[v']∧Ga (m.get r) off [v']=some B∧m.lim<=r):
  ∃l,l9 K N (n+1) (.func f) [.ptr r off,.int .i64 lv] m=some l∧∀o∈l,∃M seen,tO m M seen∧
   (((∀e∈V7,fQ lv a e=false)∧o=⟨.int .i64 0,M⟩)∨∃e∈V7,fQ lv a e=true∧o=⟨.int .i64 e.2.2.2,(bL M p).set r B⟩):=by
 have Ha':∀e∈V7,∀M:Mem,(∀i,i<m.nx->M.get i=m.get i)->l9 K N n (.func t) [.ptr r off,.str e.2.2.1] M=some [⟨.bool (Rz a e),M⟩]:=λe Z M Q=>by refine S a r off M ?_ e Z;obtain⟨w,b,h⟩:=ht;refine⟨w,by rw [Q r R];exact b,?_⟩;rcases h with h | ⟨k,s,id,o,len,h3,h4,h5⟩;exact .inl h;obtain⟨_,_,_,V,_⟩:=bJ h4;have F:=Mem.F9 d V;exact .inr ⟨k,s,id,o,len,h3,by rw [Q id F];exact h4,h5⟩
 generalize hm2:(m.new (.map aJ)).new (.iter (some m.nx) aJ.length [])=mI;have y:=Mem.Ok.new d (.map aJ);have E:∀i,mI.get i=if i=m.nx+1 then some (.iter (some m.nx) aJ.length []) else if i=m.nx then some (.map aJ) else m.get i:=λi=>by rw [← hm2,Mem.J9 y,Mem.J9 d];rfl
 have O:tO m mI []:={
  ok:=by rw [← hm2];exact Mem.Ok.new y _
  lim:=by rw [← hm2];rfl
  ll:=x
  mn:=by rw [← hm2];rfl
  gs:=by rw [E,if_neg (by omega),if_pos rfl]
  gi:=by rw [E,if_pos rfl]
  old:=λi g=>by rw [E,if_neg (by omega),if_neg (by omega)]}
 have u:aJ.length=13:=by decide
 obtain⟨z,H,I⟩:=Yh (fu:=N) T Ha' G R L (.int .i64 0) 13 mI [] .undef .undef .undef .undef O (by rw [Dr,u]) (λj e Y=>by cases Y) N (by omega);rw [dH];show ∃l,(Option.rec (ob (K.fns f) λP=>bi P.pure (gD K (l9 K N n) N f P [.ptr r off,.int .i64 lv] m) (ko (l9 K N n) (qQ K (l9 K N n) N) N P [.ptr r off,.int .i64 lv] m)) (λl=>some l) (K.eff f [.ptr r off,.int .i64 lv] m):eO)=some l∧_;rw [W,X];show ∃l,bnd (j3 (j3 (j4 (u7 (y8 C []) (MC (mG A8) sH j6))) (w9 0 (I9 (zH A t)))) (j3 (j4 (D9 (J8 (C9 (.int .i64 (.ofNat 0)))) (sL (sL (sL sH))) j6)) p9) (l9 K N n) N none
  (cB .undef .undef .undef (.int .i64 lv) (.ptr r off) .undef .undef (.int .i64 0)) m []) (leave _ [.tmp 7])=some l∧_
 refine bg (g1:=λo:Out=>∃b' kd' sg' cd' M seen',tO m M seen'∧(((∀e∈V7,fQ lv a e=false)∧o=⟨.ret,cB (.ptr (m.nx+1) 0) b' kd' (.int .i64 lv) (.ptr r off) sg' cd' (.int .i64 0),M,[],none⟩)∨
  ∃e∈V7,fQ lv a e=true∧o=⟨.ret,cB (.ptr (m.nx+1) 0) b' kd' (.int .i64 lv) (.ptr r off) sg' cd' (.int .i64 e.2.2.2),(bL M p).set r B,[],none⟩)) ?_ ?_
 rw [tF];refine bg (g1:=λo:Out=>∃b' kd' sg' cd' M seen',tO m M seen'∧(((∀e∈V7,fQ lv a e=false)∧o=⟨.normal,cB (.ptr (m.nx+1) 0) b' kd' (.int .i64 lv) (.ptr r off) sg' cd' (.int .i64 0),M,[],none⟩)∨
  ∃e∈V7,fQ lv a e=true∧o=⟨.ret,cB (.ptr (m.nx+1) 0) b' kd' (.int .i64 lv) (.ptr r off) sg' cd' (.int .i64 e.2.2.2),(bL M p).set r B,[],none⟩)) ?_ ?_
 rw [tF,yw,Iy];have q:y8 C [] (l9 K N n) [] (cB .undef .undef .undef (.int .i64 lv) (.ptr r off) .undef .undef (.int .i64 0)) m=some [⟨.map m.nx,m.new (.map aJ)⟩]:=U m d x;rw [q];have J:mG A8 (l9 K N n) [.map m.nx] (cB .undef .undef .undef (.int .i64 lv) (.ptr r off) .undef .undef (.int .i64 0)) (m.new (.map aJ))=some [⟨.ptr (m.nx+1) 0,mI⟩]:=by show MP ((m.new (.map aJ)).get m.nx) _=_;rw [Mem.J9 d,if_pos rfl];show one _ ((m.new (.map aJ)).new (.iter (some m.nx) (len' aJ) []))=_;rw [I4,hm2];rfl
 show ∃l,bnd (bnd (bnd (mG A8 (l9 K N n) [.map m.nx] (cB .undef .undef .undef (.int .i64 lv) (.ptr r off) .undef .undef (.int .i64 0)) (m.new (.map aJ))) _) (eT [])) _=some l∧_;rw [J];show ∃l,bnd (H7 (λD m k=>zH A t (l9 K N n) N none D m k) N (cB (.ptr (m.nx+1) 0) .undef .undef (.int .i64 lv) (.ptr r off) .undef .undef (.int .i64 0)) mI []) (Rm 0)=some l∧_;refine bg ⟨z,H,I⟩ ?_;rintro o (⟨b,b',kd',sg',cd',M,seen',g,rfl⟩ | ⟨e,b,h,b',kd',sg',cd',M,seen',g,rfl⟩);exact⟨_,rfl,λo c=>⟨b',kd',sg',cd',M,seen',g,.inl ⟨b,aA.1 c⟩⟩⟩;exact⟨_,rfl,λo c=>⟨b',kd',sg',cd',M,seen',g,.inr ⟨e,b,h,aA.1 c⟩⟩⟩;rintro o ⟨b',kd',sg',cd',M,seen',g,⟨b,rfl⟩ | ⟨e,b,h,rfl⟩⟩;exact⟨_,rfl,λo c=>⟨b',kd',sg',cd',M,seen',g,.inl ⟨b,aA.1 c⟩⟩⟩;exact⟨_,rfl,λo c=>⟨b',kd',sg',cd',M,seen',g,.inr ⟨e,b,h,aA.1 c⟩⟩⟩;rintro o ⟨b',kd',sg',cd',M,seen',g,⟨b,rfl⟩ | ⟨e,b,h,rfl⟩⟩;exact⟨_,rfl,λo c=>⟨M,seen',g,.inl ⟨b,aA.1 c⟩⟩⟩;exact⟨_,rfl,λo c=>⟨M,seen',g,.inr ⟨e,b,h,aA.1 c⟩⟩⟩
theorem Po {m M:Mem}{d:List Nat}(c:m.Ok)(h:tO m M d):Weak M (aC 2 m):=by
 obtain⟨g,j⟩:=wI 2 m;obtain⟨k,f⟩:=zG 2 c;exact {
  nx:=by rw [g,h.mn]
  lim:=by rw [j,h.lim]
  ok:=k
  old:=λi e=>by rw [h.lim] at e;have:=h.ll;rw [f,if_neg (by omega),h.old i (by omega)]
  blk:=λi b a=>by
   rw [f] at a;split at a;rename_i l;cases a;by_cases e:i=m.nx;rw [e];exact⟨_,h.gs,.inr (.inl ⟨rfl,rfl⟩)⟩;rw [show i=m.nx+1 from by omega];exact⟨_,h.gi,.inr (.inl ⟨rfl,rfl⟩)⟩;have:=Mem.F9 c a;exact⟨b,by rw [h.old i this];exact a,.inl rfl⟩}
theorem Weak.bL {m1 e:Mem}(h:Weak m1 e)(d:m1.Ok)(p:Option N7):Weak (bL m1 p) (bL e p):=by
 cases p with
 | none=>exact h
 | some x=>
  have c:e.Ok:=h.ok;exact {
   nx:=congrArg Nat.succ h.nx
   lim:=h.lim
   ok:=Mem.Ok.new c x
   old:=λi a=>by have a:i<m1.lim:=a;show (e.new x).get i=(m1.new x).get i;rw [Mem.J9 c,Mem.J9 d,h.nx,h.old i a]
   blk:=λi b hb=>by
    have hb:(e.new x).get i=some b:=hb;show ∃b1,(m1.new x).get i=some b1∧_;rw [Mem.J9 c,h.nx] at hb;rw [Mem.J9 d];split at hb;rename_i a;rw [if_pos a];exact⟨b,hb,.inl rfl⟩;rename_i a;rw [if_neg a];exact h.blk i b hb}
theorem Weak.set {m1 f:Mem}(h:Weak m1 f)(e:m1.Ok){r:Nat}(g:r<m1.nx)(j:m1.lim<=r)(B:N7):Weak (m1.set r B) (f.set r B):=by
 have d:f.Ok:=h.ok;have c:r<f.nx:=by rw [h.nx];exact g
 exact {
  nx:=h.nx
  lim:=h.lim
  ok:=Mem.Ok.set d c B
  old:=λi a=>by have a:i<m1.lim:=a;rw [Mem.U1 d c,Mem.U1 e g,h.old i a]
  blk:=λi b hb=>by
   rw [Mem.U1 d c] at hb;rw [Mem.U1 e g];split at hb;rename_i a;rw [if_pos a];exact⟨b,hb,.inl rfl⟩;rename_i a;rw [if_neg a];exact h.blk i b hb}
theorem UD {m:Mem}(a:m.Ok)(p:Option N7){i:Nat}(b:i<m.nx):(bL m p).get i=m.get i:=by
 cases p with
 | none=>rfl
 | some x=>show (m.new x).get i=_;rw [Mem.J9 a,if_neg (by omega)]
theorem Gh (m:Mem)(p:Option N7):m.nx<=(bL m p).nx∧(bL m p).lim=m.lim:=by
 cases p with
 | none=>exact⟨lM _,rfl⟩
 | some x=>exact⟨ajS _,rfl⟩
theorem Yi {m:Mem}(a:m.Ok)(p:Option N7):(bL m p).Ok:=by
 cases p with
 | none=>exact a
 | some x=>exact Mem.Ok.new a x
theorem UE {P:Program}{K:Known}(hK:Un P K){f fs fl fa:Nat}(Q:K.fns f=some (IV fs fl fa))(he:∀args m,K.eff f args m=none){N n:Nat}(hN:14<=N)
  (Hs:∀m:Mem,m.Ok->m.lim<=m.nx->l9 K N n (.func fs) [] m=some [⟨.map m.nx,m.new (.map aJ)⟩])
  (Z:∀e∈V7,∀M,l9 K N n (.func fl) [.int .i64 e.2.2.2] M=some [⟨.int .i64 e.1,M⟩])
  (Y:∀tok r off M,Du M r off tok->∀e∈V7,l9 K N n (.func fa) [.ptr r off,.str e.2.2.1] M=some [⟨.bool (Rz tok e),M⟩])
  {args:List d9} {m:Mem} {outs:List VM} (h:lS args m=some outs):
  zm P f∧∀{ι:H6} {w:World},RM P K.base ι m w.heap->X0 (m.nm ι) args->CallsIn Fence.wide 0 P f (o9 ι args).toArray w (O0 P K.base ι m w outs):=by
 obtain⟨r,off,lv,rfl⟩:∃r off lv,args=[.ptr r off,.int .i64 lv]:=by unfold lS at h;split at h;exact⟨_,_,_,rfl⟩;cases h
 have h:(R4 (m.get r) λrs n A=>ob (cell1 rs n A off) λv=>ob (lenOf v) λg=>
   (Nat.rec (qj v (one (.int .i64 0) (aC 2 m)) (λ_ _ _ _=>one (.int .i64 0) (aC 2 m)) (λ_ _ _ _=>one (.int .i64 0) (aC 2 m))) (λ_ _=>qj v none (λid o _ _=>lS.tok m id o v r off lv) (λid o _ _=>lS.tok m id o v r off lv)) g:eO))=some outs:=h
 obtain⟨rs,nn,A,T,h⟩:=bJ h;obtain⟨v,hv,h⟩:=z8 h;obtain⟨g,j,h⟩:=z8 h;have t:ld1 (m.get r) off=some v:=by rw [T];exact hv
 have a:∀tok,Du m r off tok->(∀e∈V7,fQ lv tok e=false)->outs=[⟨.int .i64 0,aC 2 m⟩]->zm P f∧∀{ι:H6} {w:World},RM P K.base ι m w.heap->X0 (m.nm ι) [.ptr r off,.int .i64 lv]->CallsIn Fence.wide 0 P f (o9 ι [.ptr r off,.int .i64 lv]).toArray w (O0 P K.base ι m w outs):=by intro tok R y ho;refine tL hK Q λb E=>?_;have b:m.Ok:=b;obtain⟨l,C,D⟩:=Lx (v':=.undef) (p:=none) (B:=.void) Q he hN Hs Z Y b E (Mem.F9 b T) R t (lv:=lv) (λe z q=>by rw [y e z] at q;cases q);refine⟨N,n+1,l,C,λo F=>?_⟩;obtain⟨M,L,i,⟨_,rfl⟩ | ⟨e,z,q,_⟩⟩:=D o F;exact⟨⟨.int .i64 0,aC 2 m⟩,by rw [ho];exact aA.2 rfl,rfl,Po b i⟩;rw [y e z] at q;cases q
 cases g with
 | zero=>
  cases v with
  | nilSlice=>have h:one (.int .i64 0) (aC 2 m)=some outs:=h;cases h;exact a none ⟨_,t,.inl ⟨rfl,.inl rfl⟩⟩ (λe _=>by simp [fQ,Rz]) rfl
  | slice id o l c=>obtain rfl:l=0:=Xl j;have h:one (.int .i64 0) (aC 2 m)=some outs:=h;cases h;exact a none ⟨_,t,.inl ⟨rfl,.inr (.inl ⟨_,_,_,rfl⟩)⟩⟩ (λe _=>by simp [fQ,Rz]) rfl
  | sliceU id o l c=>obtain rfl:l=0:=Xl j;have h:one (.int .i64 0) (aC 2 m)=some outs:=h;cases h;exact a none ⟨_,t,.inl ⟨rfl,.inr (.inr ⟨_,_,_,rfl⟩)⟩⟩ (λe _=>by simp [fQ,Rz]) rfl
  | _=>cases h
 | succ g=>
  have J:∀id o,((∃c,v=.slice id o (g+1) c)∨∃es,v=.sliceU id o (g+1) es)->lS.tok m id o v r off lv=some outs->
    zm P f∧∀{ι:H6} {w:World},RM P K.base ι m w.heap->X0 (m.nm ι) [.ptr r off,.int .i64 lv]->CallsIn Fence.wide 0 P f (o9 ι [.ptr r off,.int .i64 lv]).toArray w (O0 P K.base ι m w outs):=by
   intro id o W h;unfold lS.tok at h;obtain⟨X,n2,G,U,h⟩:=bJ h;obtain⟨l,hl,h⟩:=z8 h;split at h;rename_i k s;have R:Du m r off (some (k,s)):=⟨v,t,.inr ⟨k,s,id,o,g,W,by rw [U];show ob (iO X n2 G o 2) _=_;rw [hl];rfl,rfl⟩⟩;have d:=Lv lv k s;cases hfd:IQ lv k s with
   | none=>rw [hfd] at h d;have h:one (.int .i64 0) (aC 2 m)=some outs:=h;cases h;exact a _ R d rfl
   | some kd=>
    rw [hfd] at h d;have h:(ob (J6 (aC 2 m).nx 2 v 1 none) λp=>storeAt (bL (aC 2 m) p.2) r off [p.1] λm'=>one (.int .i64 kd) m')=some outs:=h;obtain⟨⟨v',p⟩,hs,h⟩:=z8 h;have O:=h;obtain⟨c1,h⟩:=iU h;obtain⟨c2,h⟩:=D5 h;have u:(bL (aC 2 m) p).lim<=r:=adB λq=>(by rw [show Nat.blt r (bL (aC 2 m) p).lim=true from Xb▸q] at c1;cases c1);rw [jP u c2] at O;obtain⟨B,hB,O⟩:=z8 O;cases O;have H:G9 v'=true:=(bG c2).1;have x:v'.cells=[v']:=by cases v'<;>first | rfl | cases H
    refine tL hK Q λb E=>?_;have b:m.Ok:=b;have V:=Mem.F9 b T;obtain⟨d1,d2⟩:=wI 2 m;obtain⟨d3,d4⟩:=zG 2 b;have I:m.lim<=r:=(by rw [(Gh _ p).2,d2] at u;exact u);rw [UD d3 p (by rw [d1];omega),d4,if_neg (by omega)] at hB;obtain⟨l,C,D⟩:=Lx (v':=v') (p:=p) (B:=B) Q he hN Hs Z Y b E V R t (lv:=lv) (λe z q=>⟨by rw [← d1];exact hs,H,x,hB,I⟩);refine⟨N,n+1,l,C,λo F=>?_⟩;obtain⟨M,L,i,⟨y,_⟩ | ⟨e,z,q,rfl⟩⟩:=D o F;obtain⟨⟨e,z,q⟩,_⟩:=d;rw [y e z] at q;cases q;refine⟨_,aA.2 rfl,by rw [d.2 e z q],?_⟩;have S:M.nx<=(bL M p).nx∧(bL M p).lim=M.lim:=Gh M p;exact ((Po b i).bL i.ok p).set (Yi i.ok p) (by have:=i.mn;omega) (by rw [S.2,i.lim];exact I) B
   cases h
  cases v with
  | slice id o l c=>obtain rfl:l=g+1:=Xl j;exact J id o (.inl ⟨c,rfl⟩) h
  | sliceU id o l c=>obtain rfl:l=g+1:=Xl j;exact J id o (.inr ⟨c,rfl⟩) h
  | _=>cases h
set_option maxHeartbeats 2000000
def BF:M9:=⟨false,[],1,[.tmp 0],(j3 (j4 (D9 (J8 (C9 .nilMap)) sH j6)) (j3 (j4 (gX (fM) (u7 (E9 K3 1 A8 (C9 (.int .i64 (.ofNat 6))) (C9 (.str [42]))) (u7 (E9 K3 1 ay (C9 (.int .i64 (.ofNat 7))) (C9 (.str [47]))) (u7 (E9 K3 1 aH (C9 (.int .i64 (.ofNat 8))) (C9 (.str [37]))) (u7 (E9 K3 1 lD (C9 (.int .i64 (.ofNat 9))) (C9 (.str [43]))) (u7 (E9 K3 1 (X9 4) (C9 (.int .i64 (.ofNat 10))) (C9 (.str [45]))) (u7 (E9 K3 1 (X9 5) (C9 (.int .i64 (.ofNat 11))) (C9 (.str [60]))) (u7 (E9 K3 1 (X9 6) (C9 (.int .i64 (.ofNat 12))) (C9 (.str [60,61]))) (u7 (E9 K3 1 (X9 7) (C9 (.int .i64 (.ofNat 13))) (C9 (.str [62]))) (u7 (E9 K3 1 (X9 8) (C9 (.int .i64 (.ofNat 14))) (C9 (.str [62,61]))) (u7 (E9 K3 1 (X9 9) (C9 (.int .i64 (.ofNat 15))) (C9 (.str [61,61]))) (u7 (E9 K3 1 (X9 10) (C9 (.int .i64 (.ofNat 16))) (C9 (.str [33,61]))) (u7 (E9 K3 1 (X9 11) (C9 (.int .i64 (.ofNat 17))) (C9 (.str [97,110,100]))) (u7 (E9 K3 1 (X9 12) (C9 (.int .i64 (.ofNat 18))) (C9 (.str [111,114]))) (D9 (J8 (X9 13)) sH j6)))))))))))))))) p9)),none⟩
def IW:M9:=⟨false,[(some 0)],10,[.tmp 9],(j3 (j4 (D9 (J8 (C9 (.int .i64 (.ofNat 0)))) (sL (sR (sL sH))) j6)) (j3 (j3 (j4 (D9 (J8 (G5 gH)) (sL sH) j6)) (w9 0 (j3 (j4 (j5 (I5 cK cO (G5 (gL gH)) (C9 (.int .i64 (.ofNat 18)))) (D9 (J8 A8) (sR sH) j6))) (o8 (G5 (gR gH)) (j3 (j4 (D9 (J8 (C9 (.int .i64 (.ofNat 0)))) (sL (sR (sL sH))) j6)) p9) (j3 (j4 (j5 (I5 cK cO (G5 (gL gH)) (C9 (.int .i64 (.ofNat 17)))) (D9 (J8 A8) (sL (sL sH)) j6))) (o8 (G5 (gL (gL gH))) (j3 (j4 (D9 (J8 (C9 (.int .i64 (.ofNat 1)))) (sL (sR (sL sH))) j6)) p9) (j3 (j4 (j5 (I5 cK cO (G5 (gL gH)) (C9 (.int .i64 (.ofNat 5)))) (D9 (J8 A8) (sR (sL sH)) j6))) (o8 (G5 (gR (gL gH))) (j3 (j4 (D9 (J8 (C9 (.int .i64 (.ofNat 2)))) (sL (sR (sL sH))) j6)) p9) (j3 (j3 (j4 (j5 (I5 cK cO (G5 (gL gH)) (C9 (.int .i64 (.ofNat 11)))) (D9 (J8 A8) (sL (sR sH)) j6))) (o8 (G5 (gL (gR gH))) y7 (j3 (j4 (j5 (I5 cK cO (G5 (gL gH)) (C9 (.int .i64 (.ofNat 12)))) (D9 (J8 A8) (sL (sR sH)) j6))) (o8 (G5 (gL (gR gH))) y7 (j3 (j4 (j5 (I5 cK cO (G5 (gL gH)) (C9 (.int .i64 (.ofNat 13)))) (D9 (J8 A8) (sL (sR sH)) j6))) (o8 (G5 (gL (gR gH))) y7 (j3 (j4 (j5 (I5 cK cO (G5 (gL gH)) (C9 (.int .i64 (.ofNat 14)))) (D9 (J8 A8) (sL (sR sH)) j6))) (o8 (G5 (gL (gR gH))) y7 (j3 (j4 (j5 (I5 cK cO (G5 (gL gH)) (C9 (.int .i64 (.ofNat 15)))) (D9 (J8 A8) (sL (sR sH)) j6))) (o8 (G5 (gL (gR gH))) y7 (j4 (j5 (I5 cK cO (G5 (gL gH)) (C9 (.int .i64 (.ofNat 16)))) (D9 (J8 A8) (sL (sR sH)) j6))))))))))))) (o8 (G5 (gL (gR gH))) (j3 (j4 (D9 (J8 (C9 (.int .i64 (.ofNat 3)))) (sL (sR (sL sH))) j6)) p9) (j3 (j3 (j4 (j5 (I5 cK cO (G5 (gL gH)) (C9 (.int .i64 (.ofNat 9)))) (D9 (J8 A8) (sR (sR sH)) j6))) (o8 (G5 (gR (gR gH))) y7 (j4 (j5 (I5 cK cO (G5 (gL gH)) (C9 (.int .i64 (.ofNat 10)))) (D9 (J8 A8) (sR (sR sH)) j6))))) (o8 (G5 (gR (gR gH))) (j3 (j4 (D9 (J8 (C9 (.int .i64 (.ofNat 4)))) (sL (sR (sL sH))) j6)) p9) (j3 (j3 (j4 (j5 (I5 cK cO (G5 (gL gH)) (C9 (.int .i64 (.ofNat 6)))) (D9 (J8 A8) (sL (sL (sL sH))) j6))) (o8 (G5 (gL (gL (gL gH)))) y7 (j3 (j4 (j5 (I5 cK cO (G5 (gL gH)) (C9 (.int .i64 (.ofNat 7)))) (D9 (J8 A8) (sL (sL (sL sH))) j6))) (o8 (G5 (gL (gL (gL gH)))) y7 (j4 (j5 (I5 cK cO (G5 (gL gH)) (C9 (.int .i64 (.ofNat 8)))) (D9 (J8 A8) (sL (sL (sL sH))) j6))))))) (o8 (G5 (gL (gL (gL gH)))) (j3 (j4 (D9 (J8 (C9 (.int .i64 (.ofNat 5)))) (sL (sR (sL sH))) j6)) p9) (j3 (j4 (j5 (I5 cK cO (G5 (gL gH)) (C9 (.int .i64 (.ofNat 4)))) (D9 (J8 A8) (sR (sL (sL sH))) j6))) (o8 (G5 (gR (gL (gL gH)))) (j3 (j4 (D9 (J8 (C9 (.int .i64 (.ofNat 6)))) (sL (sR (sL sH))) j6)) p9) y7)))))))))))))))) (j3 (j4 (D9 (J8 (C9 (.int .i64 (.ofNat 7)))) (sL (sR (sL sH))) j6)) p9))),none⟩
theorem IX {K:Known}{f:FuncId}{sf:M9}(b:K.fns f=some sf)(hp:sf.pure=false)(a:∀args m,K.eff f args m=none)(N n:Nat)(args:List d9)(m:Mem):
  l9 K N (n+1) (.func f) args m=ko (l9 K N n) (qQ K (l9 K N n) N) N sf args m:=by
 rw [dH];show (Option.rec (ob (K.fns f) λsf=>bi sf.pure (gD K (l9 K N n) N f sf args m) (ko (l9 K N n) (qQ K (l9 K N n) N) N sf args m)) (λl=>some l) (K.eff f args m):eO)=_;rw [a,b];show bi sf.pure _ _=_;rw [hp];rfl
theorem fJ {m:Mem}(c:m.Ok)(d:m.lim<=m.nx)(a:List (d9×d9))(k:Int)(s:List UInt8)(h:O5 K3 1 (.int .i64 k) a=some none){mp:OF}{ls:List d9}{env:T d9}(cf:D7)(e:mp ls env=.map m.nx):
  E9 K3 1 mp (C9 (.int .i64 k)) (C9 (.str s)) cf ls env (m.new (.map a))=some [⟨.undef,m.new (.map (a ++ [(.int .i64 k,.str s)]))⟩]:=by
 rw [qM,e];show bi (Nat.blt m.nx m.lim) none (ob (msB ((m.new (.map a)).get m.nx) K3 1 (.int .i64 k) (.str s)) λb=>some [(⟨.undef,(m.new (.map a)).set m.nx b⟩:VM)])=_;rw [UA d,Mem.J9 c,if_pos rfl];show ob (ob (O5 K3 1 (.int .i64 k) a) _) _=_;rw [h];show some [(⟨.undef,(m.new (.map a)).set m.nx (.map (a ++ [(.int .i64 k,.str s)]))⟩:VM)]=_;rw [Mem.Iz c]
theorem UF {K:Known}{f:FuncId}(v:K.fns f=some BF)(u:∀args m,K.eff f args m=none)(N n:Nat)(m:Mem)(b:m.Ok)(a:m.lim<=m.nx):
  l9 K N (n+1) (.func f) [] m=some [⟨.map m.nx,m.new (.map aJ)⟩]:=by
 rw [IX v rfl u];have i:=λ(cf:D7) (mp:OF) (ls:List d9) (env:T d9) (h:mp ls env=.map m.nx)=>fJ b a [] 6 [42] (by rfl) cf h;have j:=λ(cf:D7) (mp:OF) (ls:List d9) (env:T d9) (h:mp ls env=.map m.nx)=>fJ b a [(.int .i64 6,.str [42])] 7 [47] (by rfl) cf h;have k:=λ(cf:D7) (mp:OF) (ls:List d9) (env:T d9) (h:mp ls env=.map m.nx)=>fJ b a [(.int .i64 6,.str [42]),(.int .i64 7,.str [47])] 8 [37] (by rfl) cf h;have l:=λ(cf:D7) (mp:OF) (ls:List d9) (env:T d9) (h:mp ls env=.map m.nx)=>fJ b a [(.int .i64 6,.str [42]),(.int .i64 7,.str [47]),(.int .i64 8,.str [37])] 9 [43] (by rfl) cf h;have o:=λ(cf:D7) (mp:OF) (ls:List d9) (env:T d9) (h:mp ls env=.map m.nx)=>fJ b a [(.int .i64 6,.str [42]),(.int .i64 7,.str [47]),(.int .i64 8,.str [37]),(.int .i64 9,.str [43])] 10 [45] (by rfl) cf h;have p:=λ(cf:D7) (mp:OF) (ls:List d9) (env:T d9) (h:mp ls env=.map m.nx)=>fJ b a [(.int .i64 6,.str [42]),(.int .i64 7,.str [47]),(.int .i64 8,.str [37]),(.int .i64 9,.str [43]),(.int .i64 10,.str [45])] 11 [60] (by rfl) cf h;have q:=λ(cf:D7) (mp:OF) (ls:List d9) (env:T d9) (h:mp ls env=.map m.nx)=>fJ b a [(.int .i64 6,.str [42]),(.int .i64 7,.str [47]),(.int .i64 8,.str [37]),(.int .i64 9,.str [43]),(.int .i64 10,.str [45]),(.int .i64 11,.str [60])] 12 [60,61] (by rfl) cf h;have r:=λ(cf:D7) (mp:OF) (ls:List d9) (env:T d9) (h:mp ls env=.map m.nx)=>fJ b a [(.int .i64 6,.str [42]),(.int .i64 7,.str [47]),(.int .i64 8,.str [37]),(.int .i64 9,.str [43]),(.int .i64 10,.str [45]),(.int .i64 11,.str [60]),(.int .i64 12,.str [60,61])] 13 [62] (by rfl) cf h
 have s:=λ(cf:D7) (mp:OF) (ls:List d9) (env:T d9) (h:mp ls env=.map m.nx)=>fJ b a [(.int .i64 6,.str [42]),(.int .i64 7,.str [47]),(.int .i64 8,.str [37]),(.int .i64 9,.str [43]),(.int .i64 10,.str [45]),(.int .i64 11,.str [60]),(.int .i64 12,.str [60,61]),(.int .i64 13,.str [62])] 14 [62,61] (by rfl) cf h;have t:=λ(cf:D7) (mp:OF) (ls:List d9) (env:T d9) (h:mp ls env=.map m.nx)=>fJ b a [(.int .i64 6,.str [42]),(.int .i64 7,.str [47]),(.int .i64 8,.str [37]),(.int .i64 9,.str [43]),(.int .i64 10,.str [45]),(.int .i64 11,.str [60]),(.int .i64 12,.str [60,61]),(.int .i64 13,.str [62]),(.int .i64 14,.str [62,61])] 15 [61,61] (by rfl) cf h;have c:=λ(cf:D7) (mp:OF) (ls:List d9) (env:T d9) (h:mp ls env=.map m.nx)=>fJ b a [(.int .i64 6,.str [42]),(.int .i64 7,.str [47]),(.int .i64 8,.str [37]),(.int .i64 9,.str [43]),(.int .i64 10,.str [45]),(.int .i64 11,.str [60]),(.int .i64 12,.str [60,61]),(.int .i64 13,.str [62]),(.int .i64 14,.str [62,61]),(.int .i64 15,.str [61,61])] 16 [33,61] (by rfl) cf h;have d:=λ(cf:D7) (mp:OF) (ls:List d9) (env:T d9) (h:mp ls env=.map m.nx)=>fJ b a [(.int .i64 6,.str [42]),(.int .i64 7,.str [47]),(.int .i64 8,.str [37]),(.int .i64 9,.str [43]),(.int .i64 10,.str [45]),(.int .i64 11,.str [60]),(.int .i64 12,.str [60,61]),(.int .i64 13,.str [62]),(.int .i64 14,.str [62,61]),(.int .i64 15,.str [61,61]),(.int .i64 16,.str [33,61])] 17 [97,110,100] (by rfl) cf h
 have g:=λ(cf:D7) (mp:OF) (ls:List d9) (env:T d9) (h:mp ls env=.map m.nx)=>fJ b a [(.int .i64 6,.str [42]),(.int .i64 7,.str [47]),(.int .i64 8,.str [37]),(.int .i64 9,.str [43]),(.int .i64 10,.str [45]),(.int .i64 11,.str [60]),(.int .i64 12,.str [60,61]),(.int .i64 13,.str [62]),(.int .i64 14,.str [62,61]),(.int .i64 15,.str [61,61]),(.int .i64 16,.str [33,61]),(.int .i64 17,.str [97,110,100])] 18 [111,114] (by rfl) cf h;simp only [agm,List.cons_append] at i j k l o p q r s t c d g;have e:aJ=[(.int .i64 6,.str [42]),(.int .i64 7,.str [47]),(.int .i64 8,.str [37]),(.int .i64 9,.str [43]),(.int .i64 10,.str [45]),(.int .i64 11,.str [60]),(.int .i64 12,.str [60,61]),(.int .i64 13,.str [62]),(.int .i64 14,.str [62,61]),(.int .i64 15,.str [61,61]),(.int .i64 16,.str [33,61]),(.int .i64 17,.str [97,110,100]),(.int .i64 18,.str [111,114])]:=rfl;rw [e];simp [BF,ko,bD,rM,fM,i,j,k,l,o,p,q,r,s,t,c,d,g]
theorem UG {K:Known}{f:FuncId}(c:K.fns f=some IW)(b:∀args m,K.eff f args m=none)(N n:Nat):∀e∈V7,∀m:Mem,l9 K N (n+1) (.func f) [.int .i64 e.2.2.2] m=some [⟨.int .i64 e.1,m⟩]:=by intro e a m;rw [IX c rfl b];simp only [V7,X4,ajA,or_false] at a;rcases a with rfl | rfl | rfl | rfl | rfl | rfl | rfl | rfl | rfl | rfl | rfl | rfl | rfl<;>rfl
def yE:M9:=⟨false,[(some 0)],2,[.tmp 1],(j3 (j4 (D9 (J8 (C9 (.bool false))) (sL sH) j6)) (j3 (j4 (j5 (I5 Oz Sr (G5 gH) (C9 (.int .u8 (.ofNat 97)))) (j5 (gP A8 true (J8 (G5 gH))) (j5 (gP ay true (I5 MB OA A8 (C9 (.int .u8 (.ofNat 122))))) (j5 (bZ aH A8 (C9 (.bool false))) (D9 (J8 A8) (sL sH) j6)))))) p9)),none⟩
def RA (fi:Nat):M9:=⟨false,[(some 2),(some 0)],5,[.tmp 4],(j3 (j4 (D9 (J8 (C9 (.bool false))) (sR (sL sH)) j6)) (j3 (j4 (D9 (J8 (C9 (.int .i64 (.ofNat 3)))) (sL (sL sH)) j6)) (j3 (j3 (j4 (j5 (rO (G5 gH) (C9 (.int .i64 (.ofNat 0)))) (MC (y8 fi [A8]) (sL sH) j6))) (o8 (G5 (gL gH)) (j4 (D9 (J8 (C9 (.int .i64 (.ofNat 1)))) (sL (sL sH)) j6)) y7)) (j3 (j4 (j5 (bH (G5 (gR gH))) (j5 (H9 0 A8) (u6 (eB A8) (j5 (vN A8) (j5 (I5 Es Fe A8 (C9 (.int .i64 (.ofNat 0)))) (j5 (gP A8 true (J8 (G5 (gR gH)))) (j5 (gP ay true (bH A8)) (j5 (gP aH true (H9 0 A8)) (u6 (ME lD true (eB A8)) (j5 (gP (X9 4) true (O9 2 A8 (C9 (.int .i64 (.ofNat 0))))) (u6 (ME (X9 5) true (aD 2 A8)) (j5 (gP (X9 6) true (J8 (G5 (gL (gL gH))))) (j5 (gP (X9 7) true (J8 (G5 gH))) (j5 (gP (X9 8) true (Q5 [(.int .i64 (.ofNat 0)),(.str [])] [(0,1,ay),(1,1,A8)])) (j5 (gP (X9 9) true (ZT (vM [.i,.s]) lD A8)) (j5 (bZ (X9 10) A8 (C9 (.bool false))) (D9 (J8 A8) (sR (sL sH)) j6)))))))))))))))))) p9)))),none⟩
theorem RB {K:Known}{f:FuncId}(d:K.fns f=some yE)(c:∀args m,K.eff f args m=none)(N n:Nat):∀e∈V7,∃b t,e.2.2.1=b::t∧
  ∀m:Mem,l9 K N (n+1) (.func f) [.int .u8 (b.toNat:Int)] m=some [⟨.bool (decide (e.2.1=1)),m⟩]:=by
 intro e a;simp only [V7,X4,ajA,or_false] at a;rcases a with rfl | rfl | rfl | rfl | rfl | rfl | rfl | rfl | rfl | rfl | rfl | rfl | rfl<;>exact⟨_,_,rfl,λm=>by rw [IX d rfl c];rfl⟩
theorem UH:∀e∈V7,e.2.1=1∨e.2.1=3:=by decide
theorem afY (k n:Int)(s a:List UInt8):vM [.i,.s] (.agg [.int .i64 k,.str s]) (.agg [.int .i64 n,.str a])=some (decide (n=k)&&(a==s)):=by
 have h:vM [.i,.s] (.agg [.int .i64 k,.str s]) (.agg [.int .i64 n,.str a])=some (bi (aX k n) (strEq s a) false):=by simp [vM,aM,Et,K3,eqStr];cases aX k n<;>cases strEq s a<;>rfl
 rw [h,dW,eU];congr 1;by_cases h1:k=n;subst h1;rw [beq_self_eq_true,decide_eq_true rfl];show (s==a)=(true&&(a==s));rw [abY];exact aaz.2 ⟨λh=>by simpa using (beq_iff_eq.1 h).symm,λh=>by simpa using (beq_iff_eq.1 h).symm⟩;rw [beq_eq_false_iff_ne.2 h1,decide_eq_false (af4 h1)];rfl
theorem abP {cf:D7}{h:iR}{N i r off:Nat}{M:Mem}{f:Option (Int×List UInt8)}(q:Du M r off f){b:UInt8}{t:List UInt8}{g:Bool}(j:cf (.func i) [.int .u8 (b.toNat:Int)] M=some [⟨.bool g,M⟩]):
  ko cf h N (RA i) [.ptr r off,.str (b::t)] M=some [⟨.bool (match f with | some (k,s)=>decide ((bif g then 1 else 3)=k)&&((b::t)==s) | none=>false),M⟩]:=by
 have e:∀(l r:T d9),rO (G5 gH) (C9 (.int .i64 0)) [] (.nd l (.str (b::t)) r)=some (.int .u8 (b.toNat:Int)):=λ_ _=>rfl;have a:∀(n:Int) (ls:List d9) (env:T d9),lay [(0,1,ay),(1,1,A8)] (.str (b::t) :: .int .i64 n::ls) env [.int .i64 0,.str []]=some [.int .i64 n,.str (b::t)]:=λ_ _ _=>rfl;obtain⟨v,d,⟨rfl,p⟩ | ⟨k,s,id,o,w,u,m,rfl⟩⟩:=q;rcases p with rfl | ⟨id,o,c,rfl⟩ | ⟨id,o,es,rfl⟩<;>cases g<;>simp [RA,ko,bD,rM,y8,e,j,d]
 rcases u with⟨c,rfl⟩ | ⟨es,rfl⟩<;>cases g<;>simp [RA,ko,bD,rM,y8,e,j,d,m,a,afY,-Rp,-Rq]
theorem afZ {K:Known}{a c:Nat}(d:K.fns a=some (RA c))(g:K.fns c=some yE)(j:∀f args m,K.eff f args m=none)(N n:Nat):
  ∀tok r off M,Du M r off tok->∀e∈V7,l9 K N (n+2) (.func a) [.ptr r off,.str e.2.2.1] M=some [⟨.bool (Rz tok e),M⟩]:=by
 intro tok r off M q e k;obtain⟨b,t,i,l⟩:=RB g (j c) N n e k;rw [IX d rfl (j a),i,abP q (l M)];have o:(bif decide (e.2.1=1) then (1:Int) else 3)=e.2.1:=by rcases UH e k with h | h;rw [h];rfl;rw [h];rfl
 rw [o];unfold Rz;cases tok with
 | none=>rfl
 | some p=>rw [i]
theorem Yj {P:Program}{K:Known}(j:Un P K){f c b g i:Nat}(l:K.fns f=some (IV c b g))(hs:K.fns c=some BF)(p:K.fns b=some IW)(k:K.fns g=some (RA i))(o:K.fns i=some yE)
  (a:∀f args m,K.eff f args m=none) {args:List d9} {m:Mem} {outs:List VM} (h:lS args m=some outs):
  zm P f∧∀{ι:H6} {w:World},RM P K.base ι m w.heap->X0 (m.nm ι) args->CallsIn Fence.wide 0 P f (o9 ι args).toArray w (O0 P K.base ι m w outs):=
 UE j l (a f) (N:=14) (n:=2) (lM _) (λm e d=>UF hs (a c) 14 1 m e d) (UG p (a b) 14 1) (afZ k o a 14 0) h
structure Em (m:Mem)(id rs:Nat)(l:List (List d9)):Prop where
 pos:0<rs
 len:∀r,r∈l->r.length=rs
 blk:∃c t c',m.get id=some (.cells rs c t)∧l.length<=c∧c<=c'∧T.Ok t c'∧∀i (h:i<l.length),t.get i=some l[i]
structure nL (id:Nat)(m m':Mem):Prop where
 ok:T.Ok m'.t m'.nx
 nx:m.nx<=m'.nx
 lim:m'.lim=m.lim
 old:∀i,i<m.nx->i≠id->m'.get i=m.get i
theorem nL.refl {id:Nat}{m:Mem}(h:T.Ok m.t m.nx):nL id m m:=⟨h,lM _,rfl,λ_ _ _=>rfl⟩
theorem nL.trans {id:Nat}{a b c:Mem}(h:nL id a b)(k:nL id b c):nL id a c:=
 ⟨k.ok,J2 h.nx k.nx,k.lim.trans h.lim,λi d e=>(k.old i (q9 d h.nx) e).trans (h.old i d e)⟩
theorem Ext.toB {id:Nat}{a b:Mem}(h:Ext a b):nL id a b:=⟨h.ok,h.nx,h.lim,λi c _=>h.old i c⟩
theorem Em.same {m m':Mem}{id rs:Nat}{l:List (List d9)}(h:Em m id rs l)(e:m'.get id=m.get id):Em m' id rs l:=by obtain⟨p,f,c,t,a,b,d⟩:=h;exact⟨p,f,c,t,a,e.trans b,d⟩
theorem Em.ext {m m':Mem}{id rs:Nat}{l:List (List d9)}(h:Em m id rs l)(a:id<m.nx)(e:Ext m m'):Em m' id rs l:=h.same (e.old id a)
theorem Em.take {m:Mem}{id rs:Nat}{l:List (List d9)}(h:Em m id rs l)(k:Nat):Em m id rs (l.take k):=by
 obtain⟨p,n,c,t,b,e,q,d,f,g⟩:=h;refine⟨p,λr o=>n r (aeI o),c,t,b,e,by simp;omega,d,f,λi j=>?_⟩;have a:i<l.length:=by simp at j;omega
 rw [g i a,List.getElem_take]
theorem Em.MG {m:Mem}{id rs:Nat}{l:List (List d9)}(h:Em m id rs l){i:Nat}(b:i<l.length):AM.MG (m.get id) (i*rs) rs=some (.agg l[i]):=by obtain⟨p,g,c,t,q,e,s,r,u,f⟩:=h;have o:=g l[i] (aaA b);have d:=wG (rs:=rs) (n:=c) (rows:=t) (i:=i) (j:=0) (k:=rs) p (by omega) (f i b) o (by omega);rw [Y5] at d;rw [e];show R4 (some (N7.cells rs c t)) (λa n rows=>ob (iO a n rows (i*rs) rs) λl=>some (d9.agg l))=_;rw [jO,d,K5,J4,Y7 (by omega)]
theorem Em.ld1 {m:Mem}{id rs:Nat}{l:List (List d9)}(h:Em m id rs l){i j:Nat}(f:i<l.length)(g:j<rs):AM.ld1 (m.get id) (i*rs+j)=l[i][j]?:=by obtain⟨p,s,c,t,k,d,q,o,r,e⟩:=h;rw [d];show R4 (some (N7.cells rs c t)) (λb n a=>cell1 b n a (i*rs+j))=_;rw [jO,uw g (by omega) (e i f)]
theorem Em.store {m:Mem}{id rs:Nat}{l:List (List d9)}(h:Em m id rs l)(o:m.Ok)(a:id<m.nx)(d:m.lim<=id){i:Nat}(u:i<l.length){row:List d9}(F:row.length=rs)(C:K4 row=true):
  ∃m',(∀{β:Type} (k:Mem->Option β),storeAt m id (i*rs) row k=k m')∧Em m' id rs (l.set i row)∧nL id m m':=by
 obtain⟨p,w,c,t,x,z,A,y,g,s⟩:=h;have E:Nat.div (i*rs) rs=i:=af0 i p;have H:Nat.mod (i*rs) rs=0:=Nat.mul_mod_left i rs;have f:=s i u;have D:=w l[i] (aaA u);have G:U6 rs c t (i*rs) row=some (t.put i row):=by
  unfold U6;rw [E,H,show Nat.blt i c=true from Xb.mpr (by omega),f];show bi (Nat.ble (Nat.add 0 (len' row)) rs) (some (t.put i (jY 0 row l[i]))) none=_;rw [I4,show Nat.ble (Nat.add 0 row.length) rs=true from Z4 (by show 0+row.length<=rs;omega),kC _ _ _ (by omega),List.take_zero,Z8,
   ac6 (by omega)]
  simp
 refine⟨m.set id (.cells rs c (t.put i row)),λk=>?_,⟨p,λr q=>?_,c,t.put i row,x,?_,by simpa using A,y,T.Ok.put g i row (by omega),λj v=>?_⟩,?_⟩;rw [jP d C,z];show ob (ob (U6 rs c t (i*rs) row) λb=>some (N7.cells rs c b)) _=_;rw [G];rfl;rcases List.mem_or_eq_of_mem_set q with h | rfl;exact w r h;exact F;rw [Mem.U1 o a,if_pos rfl];have n:j<l.length:=by simpa using v
 rw [List.getElem_set];split;rename_i e;subst e;exact T.aO g _ _ (by omega);rename_i e;rw [T.aZ g _ _ _ (by omega) e];exact s j n;exact⟨Mem.Ok.set o a _,by simp,rfl,λj v B=>by rw [Mem.U1 o a,if_neg B]⟩
theorem yF {rs n:Nat}{rows:T (List d9)}:∀(a b off:Nat),P5 rs n rows (a+b) off=ob (P5 rs n rows a off) λx=>ob (P5 rs n rows b (off+a)) λy=>some (x++y)
 | 0,b,off=>by rw [Z8,Y5];show _=ob (P5 rs n rows b off) λy=>some ([]++y);cases P5 rs n rows b off<;>rfl
 | a+1,b,off=>by
  rw [show a+1+b=(a+b)+1 from by omega];show ob (cell1 rs n rows off) (λv=>ob (P5 rs n rows (a+b) (off+1)) λl=>some (v::l))=ob (ob (cell1 rs n rows off) λv=>ob (P5 rs n rows a (off+1)) λl=>some (v::l)) _;rw [yF a b (off+1),show off+1+a=off+(a+1) from by omega];cases cell1 rs n rows off with
  | none=>rfl
  | some v=>
   simp only [K5];cases P5 rs n rows a (off+1) with
   | none=>rfl
   | some x=>simp only [K5];cases P5 rs n rows b (off+(a+1))<;>rfl
theorem yG {rs n:Nat}{rows:T (List d9)}{i:Nat}{row:List d9}(b:i<n)(h:rows.get i=some row)(d:row.length=rs):
  ∀k j,j+k=rs->P5 rs n rows k (i*rs+j)=some (row.drop j):=by
 intro k;induction k with
 | zero=>intro j c;rw [ac6 (by omega)];rfl
 | succ k ih=>
  intro j c;show ob (cell1 rs n rows (i*rs+j)) (λv=>ob (P5 rs n rows k (i*rs+j+1)) λl=>some (v::l))=_;have a:j<row.length:=by omega
  rw [uw (by omega) b h,gy a,K5,show i*rs+j+1=i*rs+(j+1) from by omega,ih (j+1) (by omega),Xd a];rfl
theorem EW {rs n:Nat}{rows:T (List d9)}{l:List (List d9)}(c:∀r,r∈l->r.length=rs)(h:∀i (h:i<l.length),rows.get i=some l[i])(d:l.length<=n):
  ∀k i,i+k=l.length->P5 rs n rows (k*rs) (i*rs)=some (l.drop i).flatten:=by
 intro k;induction k with
 | zero=>intro i b;rw [ac6 (by omega),ac7];rfl
 | succ k ih=>
  intro i b;have a:i<l.length:=by omega
  have:=yG (n:=n) (i:=i) (by omega) (h i a) (c _ (aaA a)) rs 0 (by omega);rw [Y5,J4] at this;rw [show (k+1)*rs=rs+k*rs from by rw [adw,Nat.one_mul,agp],yF,this,K5,show i*rs+rs=(i+1)*rs from by rw [adw,Nat.one_mul],ih (i+1) (by omega),K5,Xd a];rfl
theorem Av {rs:Nat}:∀(l:List (List d9)),(∀r,r∈l->r.length=rs)->rowsOf rs l.length l.flatten=some l
 | [],_=>rfl
 | r::l,h=>by have hr:=h r (by simp);show ob (takeN rs (r++l.flatten)) (λx=>ob (rowsOf rs l.length (jX rs (r++l.flatten))) λrest=>some (x::rest))=_;rw [mK _ _ (by simp;omega),K5,ku,List.drop_left' hr,List.take_left' hr,Av l (λx hx=>h x (by simp [hx]))];rfl
theorem Yk {m:Mem}(b:m.Ok){rs:Nat}(hp:0<rs){l:List (List d9)}(a:∀r,r∈l->r.length=rs):Em (m.new (.cells rs l.length (T.ofList l))) m.nx rs l:=
 ⟨hp,a,l.length,T.ofList l,l.length,by rw [Mem.J9 b,if_pos rfl],lM _,lM _,T.dZ l,λi h=>by rw [T.aG,gy h]⟩
theorem NV {m:Mem}{rs:Nat}{l:List (List d9)}(b:∀r,r∈l->r.length=rs):grown m rs l.length l.flatten=some [⟨.sliceU m.nx 0 l.length rs,m.new (.cells rs l.length (T.ofList l))⟩]:=by show ob (rowsOf rs l.length l.flatten) (λa=>one (d9.sliceU m.nx 0 l.length rs) (m.new (.cells rs l.length (T.ofList a))))=_;rw [Av l b];rfl
theorem vE:∀(a b:List d9),K4 (a++b)=(K4 a&&K4 b)
 | [],_=>rfl
 | v::a,b=>by show bi (G9 v) (K4 (a++b)) false=(bi (G9 v) (K4 a) false&&K4 b);rw [vE a b];cases G9 v<;>rfl
theorem qX {rs n:Nat}(hp:0<rs):∀(vs:List d9) (t:T (List d9)) (off k n':Nat),n<=n'->T.Ok t n'->k*rs<=off->off+vs.length<=n*rs->
  ∃t',fC rs n vs t off=some t'∧T.Ok t' n'∧∀i,i<k->t'.get i=t.get i
 | [],t,off,k,n',_,h,_,_=>⟨t,rfl,h,λ_ _=>rfl⟩
 | v::vs,t,off,k,n',hnn,h,hk,hn=>by
  have hlt:off<n*rs:=by simp at hn;omega
  have hd:off / rs<n:=Nat.div_lt_of_lt_mul (by rw [adE];exact hlt);obtain⟨row,hrow⟩:=(h.get _).2 (q9 hd hnn);have hmod:off%rs<rs:=agk _ hp;have hkd:k<=off / rs:=(adD hp).2 hk;have hw:U6 rs n t off [v]=some (t.put (off / rs) (jY (off%rs) [v] row)):=by show bi (Nat.blt (off / rs) n) (ob (t.get (off / rs)) λrow=>bi (Nat.ble (off%rs+1) rs) (some (t.put (off / rs) (jY (off%rs) [v] row))) none) none=_;rw [show Nat.blt (off / rs) n=true from Xb.mpr hd,hrow,U0,K5,show Nat.ble (off%rs+1) rs=true from Z4 hmod];rfl
  obtain⟨t',h1,h2,h3⟩:=qX hp vs (t.put (off / rs) (jY (off%rs) [v] row)) (off+1) k n' hnn (T.Ok.put h _ _ (q9 hd hnn)) (by omega) (by simp at hn;omega);refine⟨t',?_,h2,λi hi=>?_⟩;show ob (U6 rs n t off [v]) (λrows'=>fC rs n vs rows' (off+1))=_;rw [hw];exact h1;rw [h3 i hi,T.aZ h _ _ _ (by omega) (by omega)]
theorem Em.clear {m:Mem}{id rs:Nat}{l:List (List d9)}(h:Em m id rs l)(s:m.Ok)(b:id<m.nx)(o:m.lim<=id){k:Nat}(L:k<=l.length){a:List d9}(G:k*rs+a.length<=l.length*rs)(F:K4 a=true):
  ∃m',(∀{β:Type} (f:Mem->Option β),iD m id (k*rs) a f=f m')∧Em m' id rs (l.take k)∧nL id m m':=by
 have y:=h.take k;obtain⟨p,M,c,t,w,z,A,x,B,C⟩:=h;cases a with
 | nil=>exact⟨m,λf=>rfl,y,nL.refl s⟩
 | cons v a=>
  obtain⟨u,H,I,J⟩:=qX p (v::a) t (k*rs) k w x B (lM _) (J2 G (Y8 _ A));refine⟨m.set id (.cells rs c u),λ{β} f=>?_,⟨p,y.len,c,u,w,by rw [Mem.U1 s b,if_pos rfl],by simp;omega,x,I,λi D=>?_⟩,Mem.Ok.set s b _,by simp,rfl,λj K E=>by rw [Mem.U1 s b,if_neg E]⟩;show bi (Nat.blt id m.lim) none (bi (K4 (v::a)) (R4 (m.get id) λr n q=>ob (fC r n (v::a) q (k*rs)) λd=>f (m.set id (.cells r n d))) none)=f (m.set id (.cells rs c u));rw [show Nat.blt id m.lim=false from aaB.2 λe=>absurd (Xb.mp e) (Nat.not_lt.2 o),F,z,O6,U0,jO,H];rfl;have g:i<k∧i<l.length:=by simp at D;omega
  rw [J i g.1,C i g.2,List.getElem_take]
def jQ (m:Mem)(v:d9)(xs:List d9):Prop:=
 (v=.nilSlice∧xs=[])∨∃id off,((∃c,v=.slice id off xs.length c∧xs.length<=c)∨v=.sliceU id off xs.length 1)∧id<m.nx∧
  (xs=[]∨∃n rows,m.get id=some (.cells 1 n rows)∧off+xs.length<=n∧∀i (h:i<xs.length),rows.get (off+i)=some [xs[i]])
def Dw (m:Mem)(v:d9)(xs:List d9):Prop:=
 ∃id off c,v=.slice id off xs.length c∧xs.length<=c∧id<m.nx∧
  (xs=[]∨∃n rows,m.get id=some (.cells 1 n rows)∧off+xs.length<=n∧∀i (h:i<xs.length),rows.get (off+i)=some [xs[i]])
theorem Dw.vs {m:Mem}{v:d9}{xs:List d9}(h:Dw m v xs):jQ m v xs:=by obtain⟨id,a,c,b,d,e,f⟩:=h;exact .inr ⟨id,a,.inl ⟨c,b,d⟩,e,f⟩
theorem jQ.keep {m m':Mem}{v:d9}{xs:List d9}(a:jQ m v xs)(b:m.nx<=m'.nx)(h:∀id n rows,id<m.nx->m.get id=some (.cells 1 n rows)->(∃o l c,v=.slice id o l c)∨(∃o l e,v=.sliceU id o l e)->m'.get id=m.get id):jQ m' v xs:=by rcases a with a | ⟨id,off,h1,h2,h3⟩;exact .inl a;refine .inr ⟨id,off,h1,q9 h2 b,?_⟩;rcases h3 with h3 | ⟨n,rows,h4,h5,h6⟩;exact .inl h3;refine .inr ⟨n,rows,(h id n rows h2 h4 ?_).trans h4,h5,h6⟩;rcases h1 with⟨c,rfl,_⟩ | rfl;exact .inl ⟨_,_,_,rfl⟩;exact .inr ⟨_,_,_,rfl⟩
theorem jQ.ext {m m':Mem}(h:Ext m m'){v:d9}{xs:List d9}(b:jQ m v xs):jQ m' v xs:=b.keep h.nx λid _ _ a _ _=>h.old id a
theorem Dw.keep {m m':Mem}{v:d9}{xs:List d9}(g:Dw m v xs)(f:m.nx<=m'.nx)(h:∀id n rows,id<m.nx->m.get id=some (.cells 1 n rows)->(∃o l c,v=.slice id o l c)->m'.get id=m.get id):Dw m' v xs:=by obtain⟨id,b,c,rfl,e,d,a⟩:=g;refine⟨id,b,c,rfl,e,q9 d f,?_⟩;rcases a with a | ⟨n,rows,h4,h5,h6⟩;exact .inl a;exact .inr ⟨n,rows,(h id n rows d h4 ⟨_,_,_,rfl⟩).trans h4,h5,h6⟩
theorem Dw.ext {m m':Mem}(h:Ext m m'){v:d9}{xs:List d9}(b:Dw m v xs):Dw m' v xs:=b.keep h.nx λid _ _ a _ _=>h.old id a
theorem jQ.cells {m:Mem}{v:d9}{xs:List d9}(h:jQ m v xs):v.cells=[v]:=by rcases h with⟨rfl,rfl⟩ | ⟨id,off,⟨c,rfl,_⟩ | rfl,_⟩<;>rfl
theorem jQ.ng {m:Mem}{v:d9}{xs:List d9}(h:jQ m v xs){β:Type}(p:d9->β)(q:β):bW v p q=q:=by rcases h with⟨rfl,rfl⟩ | ⟨id,off,⟨c,rfl,_⟩ | rfl,_⟩<;>rfl
theorem jQ.G9 {m:Mem}{v:d9}{xs:List d9}(h:jQ m v xs):Go.AM.G9 v=true:=by rcases h with⟨rfl,rfl⟩ | ⟨id,off,⟨c,rfl,_⟩ | rfl,_⟩<;>rfl
theorem jQ.len {m:Mem}{v:d9}{xs:List d9}(h:jQ m v xs):qj v (some (d9.int .i64 0)) (λ_ _ n _=>some (.int .i64 n)) (λ_ _ n _=>some (.int .i64 n))=some (.int .i64 xs.length):=by rcases h with⟨rfl,rfl⟩ | ⟨id,off,⟨c,rfl,_⟩ | rfl,_⟩<;>rfl
theorem jQ.lenOf {m:Mem}{v:d9}{xs:List d9}(h:jQ m v xs):Go.AM.lenOf v=some xs.length:=by rcases h with⟨rfl,rfl⟩ | ⟨id,off,⟨c,rfl,_⟩ | rfl,_⟩<;>rfl
theorem jQ.at {m:Mem}{v:d9}{xs:List d9}(h:jQ m v xs){i:Nat}(a:i<xs.length):
  ∃id o,qj v none (λid off len _=>idx len (.int .i64 i) λk=>some (d9.ptr id (off+k))) (λid off len _=>idx len (.int .i64 i) λk=>some (d9.ptr id (off+k)))=some (.ptr id o)∧id<m.nx∧ld1 (m.get id) o=some xs[i]:=by
 rcases h with⟨_,rfl⟩ | ⟨id,off,h1,h2,h3⟩;simp at a;rcases h3 with rfl | ⟨n,rows,h4,h5,h6⟩;simp at a;refine⟨id,off+i,?_,h2,by rw [h4];exact Ph (by omega) (h6 i a)⟩;rcases h1 with⟨c,rfl,_⟩ | rfl;simp only [uq];rw [ow _ _ _ a];simp only [qL];rw [ow _ _ _ a]
theorem Dw.tail {m:Mem}{v x:d9}{xs:List d9}(h:Dw m v (x::xs)):∃v',Dw m v' xs∧(∀(y a:OF) (ls:List d9) (env:T d9) (nid:Nat),y ls env=v->a ls env=.int .i64 1->lSl 1 y (some a) none ls env nid=some (v',none))∧∀i o l c,v'=.slice i o l c->∃o2 l2 c2,v=.slice i o2 l2 c2:=by
 obtain⟨id,b,c,rfl,f,g,d⟩:=h;have k:xs.length+1<=c:=by simpa using f
 refine⟨.slice id (bi (Nat.beq 1 c) b (Nat.add b (Nat.mul 1 1))) xs.length (c-1),⟨id,_,c-1,rfl,by omega,g,?_⟩,λy a ls env nid p j=>?_,λi o l q h=>by cases h;exact⟨_,_,_,rfl⟩⟩;by_cases hx:xs=[];exact .inl hx;have s:=agt.2 hx;rcases d with d | ⟨n,rows,h4,h5,h6⟩;cases d;refine .inr ⟨n,rows,h4,?_⟩;rw [pX,if_neg (by omega)];have e:Nat.add b (Nat.mul 1 1)=b+1:=rfl;rw [e];refine⟨by simp at h5;omega,λi r=>?_⟩;have:=h6 (i+1) (by simp;omega);rw [show b+1+i=b+(i+1) from by omega,this];rfl;show iM (a ls env) (λl=>J6 nid 1 (y ls env) l none)=_;rw [j,p];show J6 nid 1 (.slice id b (xs.length+1) c) 1 none=_;show bi (Nat.ble 1 (xs.length+1)) (bi (Nat.ble (xs.length+1) c) (some (d9.slice id (bi (Nat.beq 1 c) b (Nat.add b (Nat.mul 1 1))) (Nat.sub (xs.length+1) 1) (Nat.sub c 1),none)) none) none=_;rw [show Nat.ble 1 (xs.length+1)=true from Z4 (by omega),show Nat.ble (xs.length+1) c=true from Z4 k];rfl
structure Fr (lo p:Nat)(m m':Mem):Prop where
 ok:T.Ok m'.t m'.nx
 nx:m.nx<=m'.nx
 lim:m'.lim=m.lim
 old:∀i,i<lo->i≠p->m'.get i=m.get i
theorem Fr.refl {lo p:Nat}{m:Mem}(h:T.Ok m.t m.nx):Fr lo p m m:=⟨h,lM _,rfl,λ_ _ _=>rfl⟩
theorem Fr.trans {lo p:Nat}{a b c:Mem}(h:Fr lo p a b)(k:Fr lo p b c):Fr lo p a c:=
 ⟨k.ok,J2 h.nx k.nx,k.lim.trans h.lim,λi d e=>(k.old i d e).trans (h.old i d e)⟩
theorem Ext.fr {lo p:Nat}{m m':Mem}(h:Ext m m')(a:lo<=m.nx):Fr lo p m m':=⟨h.ok,h.nx,h.lim,λi b _=>h.old i (by omega)⟩
theorem nL.fr {lo p:Nat}{m m':Mem}(h:nL p m m')(a:lo<=m.nx):Fr lo p m m':=⟨h.ok,h.nx,h.lim,λi c b=>h.old i (by omega) b⟩
theorem Fr.ext {lo p:Nat}{m m':Mem}(h:Fr lo p m m')(a:m.nx<=lo)(hp:lo<=p):Ext m m':=⟨h.ok,h.nx,h.lim,λi b=>h.old i (by omega) (by omega)⟩
theorem Fr.mono {lo p q:Nat}{m m':Mem}(h:Fr lo p m m')(hp:lo<=p):Fr lo q m m':=⟨h.ok,h.nx,h.lim,λi a _=>h.old i a (by omega)⟩
theorem Fr.down {lo a p:Nat}{m m':Mem}(h:Fr lo p m m')(d:a<=lo):Fr a p m m':=⟨h.ok,h.nx,h.lim,λi c b=>h.old i (by omega) b⟩
def Bf (lo:Nat)(m:Mem)(v:d9)(l:List d9):Prop:=
 (v=.nilSlice∧l=[])∨∃id,lo<=id∧id<m.nx∧K4 l=true∧Em m id 1 (l.map ([·]))∧(v=.slice id 0 l.length l.length∨v=.sliceU id 0 l.length 1)
theorem Bf.nil (lo:Nat)(m:Mem):Bf lo m .nilSlice []:=.inl ⟨rfl,rfl⟩
theorem Bf.keep {lo:Nat}{m m':Mem}{v:d9}{l:List d9}(h:Bf lo m v l)(a:m.nx<=m'.nx)(b:∀i,lo<=i->i<m.nx->m'.get i=m.get i):Bf lo m' v l:=by rcases h with h | ⟨id,h1,h2,h3,h4,h5⟩;exact .inl h;exact .inr ⟨id,h1,q9 h2 a,h3,h4.same (b id h1 h2),h5⟩
theorem Bf.ext {lo:Nat}{m m':Mem}{v:d9}{l:List d9}(h:Bf lo m v l)(e:Ext m m'):Bf lo m' v l:=h.keep e.nx λi _ a=>e.old i a
theorem Bf.vs {lo:Nat}{m:Mem}{v:d9}{l:List d9}(h:Bf lo m v l):jQ m v l:=by rcases h with h | ⟨id,h1,h2,h3,h4,h5⟩;exact .inl h;obtain⟨p,g,c,t,f,b,d,j,k,e⟩:=h4;refine .inr ⟨id,0,?_,h2,.inr ⟨c,t,b,by simpa using d,λi a=>?_⟩⟩;rcases h5 with h5 | h5;exact .inl ⟨_,h5,lM _⟩;exact .inr h5;rw [Z8,e i (by simpa using a)];simp
theorem Bf.sl {lo:Nat}{m:Mem}{v:d9}{xs:List Int}(h:Bf lo m v (ints xs)):uM m v xs:=by
 have a:(ints xs).length=xs.length:=by simp [ints]
 rcases h with⟨h,h'⟩ | ⟨id,h1,h2,h3,h4,h5⟩;exact .inl ⟨h,by simpa [ints] using h'⟩;obtain⟨p,j,c,t,g,d,e,k,l,f⟩:=h4;rw [a] at h5;refine .inr ⟨(id,0),?_,h2,.inr ⟨c,t,d,by simpa [ints] using e,λi b=>?_⟩⟩;rcases h5 with h5 | h5;exact .inl ⟨_,h5⟩;exact .inr ⟨_,h5⟩;rw [Z8,f i (by simpa [ints] using b)];simp [ints]
theorem Fr.new {lo:Nat}{m:Mem}(c:m.Ok)(a:lo<=m.nx)(b:N7):Fr lo lo m (m.new b):=((Ext.refl c).new b).fr a
theorem K8:∀a b:List UInt8,strEq a b=decide (a=b)
 | [],[]=>rfl
 | [],_ :: _=>rfl
 | _ :: _,[]=>rfl
 | x::a,y::b=>by show bi (Nat.beq x.toNat y.toNat) (strEq a b) false=_;rw [pX,K8 a b];by_cases h:x=y;subst h;rw [if_pos rfl];simp;rw [if_neg (λe=>h (ajN.1 e))];simp [h]
@[simp] theorem ali (a b:List UInt8):cO a b=some (.bool (decide (a=b))):=by rw [← K8];rfl
@[simp] theorem alj (a b:List UInt8):zS a b=some (.bool (!decide (a=b))):=by rw [← K8];rfl
@[simp] theorem qb (a b:List UInt8):eqStr (.str a) (.str b)=some (decide (a=b)):=by rw [← K8];rfl
section
variable {x lo hi:OF}{ls:List d9}{env:T d9}{s:List UInt8}{l h:Nat}
theorem Dx (d:x ls env=.str s)(c:lo ls env=.int .i64 (l:Int))(a:l<s.length):rO x lo ls env=some (.int .u8 (s[l].toNat:Nat)):=by show nI (x ls env) (λs=>iM (lo ls env) λk=>ob (pq k s) λb=>some (d9.int .u8 b.toNat))=_;rw [d,XM,c,XO,Uo,gW,gy a];rfl
end
def strs (l:List (List UInt8)):List d9:=l.map d9.str
theorem nA (l:List (List UInt8)):(strs l).length=l.length:=by simp [strs]
def aR (m:Mem)(rs:Nat)(v:d9)(l:List (List d9)):Prop:=
 (v=.nilSlice∧l=[])∨∃id o,((∃c,v=.slice id (o*rs) l.length c∧l.length<=c)∨v=.sliceU id (o*rs) l.length rs)∧id<m.nx∧
  (l=[]∨∃n rows,m.get id=some (.cells rs n rows)∧o+l.length<=n∧(∀r,r∈l->r.length=rs)∧∀i (h:i<l.length),rows.get (o+i)=some l[i])
section
variable {m m':Mem}{rs:Nat}{v:d9}{l:List (List d9)}
theorem aR.keep (a:aR m rs v l)(b:m.nx<=m'.nx)(h:∀id n rows,id<m.nx->m.get id=some (.cells rs n rows)->(∃o l c,v=.slice id o l c)∨(∃o l e,v=.sliceU id o l e)->m'.get id=m.get id):aR m' rs v l:=by rcases a with a | ⟨id,o,h1,h2,h3⟩;exact .inl a;refine .inr ⟨id,o,h1,q9 h2 b,?_⟩;rcases h3 with h3 | ⟨n,rows,h4,h5⟩;exact .inl h3;refine .inr ⟨n,rows,(h id n rows h2 h4 ?_).trans h4,h5⟩;rcases h1 with⟨c,rfl,_⟩ | rfl;exact .inl ⟨_,_,_,rfl⟩;exact .inr ⟨_,_,_,rfl⟩
theorem aR.ext (h:Ext m m')(b:aR m rs v l):aR m' rs v l:=b.keep h.nx λid _ _ a _ _=>h.old id a
theorem aR.cells (h:aR m rs v l):v.cells=[v]:=by rcases h with⟨rfl,rfl⟩ | ⟨id,off,⟨c,rfl,_⟩ | rfl,_⟩<;>rfl
theorem aR.ng (h:aR m rs v l){β:Type}(p:d9->β)(q:β):bW v p q=q:=by rcases h with⟨rfl,rfl⟩ | ⟨id,off,⟨c,rfl,_⟩ | rfl,_⟩<;>rfl
theorem aR.G9 (h:aR m rs v l):Go.AM.G9 v=true:=by rcases h with⟨rfl,rfl⟩ | ⟨id,off,⟨c,rfl,_⟩ | rfl,_⟩<;>rfl
theorem aR.len (h:aR m rs v l):qj v (some (d9.int .i64 0)) (λ_ _ n _=>some (.int .i64 n)) (λ_ _ n _=>some (.int .i64 n))=some (.int .i64 l.length):=by rcases h with⟨rfl,rfl⟩ | ⟨id,off,⟨c,rfl,_⟩ | rfl,_⟩<;>rfl
theorem aR.lenOf (h:aR m rs v l):Go.AM.lenOf v=some l.length:=by rcases h with⟨rfl,rfl⟩ | ⟨id,off,⟨c,rfl,_⟩ | rfl,_⟩<;>rfl
theorem RG {n i rs:Nat}{rows:T (List d9)}{r:List d9}(b:i<n)(h:rows.get i=some r)(e:r.length=rs){j k:Nat}(c:j<rs)(d:j+k<=rs):MG (some (.cells rs n rows)) (i*rs+j) k=some (.agg ((r.drop j).take k)):=by show R4 (some (N7.cells rs n rows)) (λa n rows=>ob (iO a n rows (i*rs+j) k) λl=>some (d9.agg l))=_;rw [jO,wG c b h e d,K5]
theorem aR.at (h:aR m rs v l){i:Nat}(d:i<l.length):
  ∃id o,qj v none (λid off len _=>idx len (.int .i64 i) λk=>some (d9.ptr id (off+k*rs))) (λid off len _=>idx len (.int .i64 i) λk=>some (d9.ptr id (off+k*rs)))=some (.ptr id o)∧id<m.nx∧
   (l[i]).length=rs∧(∀j k,j<rs->j+k<=rs->MG (m.get id) (o+j) k=some (.agg (((l[i]).drop j).take k)))∧∀j,j<rs->ld1 (m.get id) (o+j)=(l[i])[j]?:=by
 rcases h with⟨_,rfl⟩ | ⟨id,off,h1,h2,h3⟩;simp at d;rcases h3 with rfl | ⟨n,a,h4,h5,h7,h6⟩;simp at d;have b:=h7 l[i] (aaA d);refine⟨id,off*rs+i*rs,?_,h2,b,λj k e g=>?_,λj e=>?_⟩;rcases h1 with⟨c,rfl,_⟩ | rfl;simp only [uq];rw [ow _ _ _ d];simp only [qL];rw [ow _ _ _ d];rw [← adw,h4];exact RG (by omega) (h6 i d) b e g;rw [← adw,h4];show R4 (some (N7.cells rs n a)) (λf n a=>cell1 f n a ((off+i)*rs+j))=_;rw [jO,uw e (by omega) (h6 i d)]
end
def fT (lo rs:Nat)(m:Mem)(v:d9)(l:List (List d9)):Prop:=
 (v=.nilSlice∧l=[])∨∃id,lo<=id∧id<m.nx∧K4 l.flatten=true∧Em m id rs l∧l≠[]∧(v=.slice id 0 l.length l.length∨v=.sliceU id 0 l.length rs)
section
variable {m m':Mem}{lo rs:Nat}{v:d9}{l:List (List d9)}
theorem fT.nil (lo rs:Nat)(m:Mem):fT lo rs m .nilSlice []:=.inl ⟨rfl,rfl⟩
theorem fT.keep (h:fT lo rs m v l)(a:m.nx<=m'.nx)(b:∀i,lo<=i->i<m.nx->m'.get i=m.get i):fT lo rs m' v l:=by rcases h with h | ⟨id,h1,h2,h3,h4,h5⟩;exact .inl h;exact .inr ⟨id,h1,q9 h2 a,h3,h4.same (b id h1 h2),h5⟩
theorem fT.ext (h:fT lo rs m v l)(e:Ext m m'):fT lo rs m' v l:=h.keep e.nx λi _ a=>e.old i a
theorem fT.lt (h:fT lo rs m v l){i o n e:Nat}(a:v=.sliceU i o n e):lo<=i∧i<m.nx:=by rcases h with⟨rfl,_⟩ | ⟨id,h1,h2,_,_,_,rfl | rfl⟩;cases a;cases a;cases a;exact⟨h1,h2⟩
theorem fT.down {a:Nat}(h:fT lo rs m v l)(b:a<=lo):fT a rs m v l:=by rcases h with h | ⟨id,h1,h2⟩;exact .inl h;exact .inr ⟨id,J2 b h1,h2⟩
theorem fT.slice (h:fT lo rs m v l):aR m rs v l:=by rcases h with h | ⟨id,h1,h2,h3,h4,_,h5⟩;exact .inl h;obtain⟨p,b,c,t,g,d,e,j,k,f⟩:=h4;refine .inr ⟨id,0,?_,h2,.inr ⟨c,t,d,by simpa using e,b,λi a=>?_⟩⟩;rw [ac7];rcases h5 with h5 | h5;exact .inl ⟨_,h5,lM _⟩;exact .inr h5;simp only [Z8];exact f i a
theorem UJ {n bytes es:Nat}(h:n<=100000)(hb:1<=bytes∧bytes<=1000)(a:1<=es):big n bytes es=true:=by show bi (Nat.ble ((2*n+2048)*bytes) 281474976710656) (bi (Nat.ble 1 es) (Nat.ble 1 bytes) false) false=true;rw [show Nat.ble ((2*n+2048)*bytes) 281474976710656=true from Z4 (J2 (Nat.mul_le_mul (show 2*n+2048<=202048 by omega) hb.2) (by decide)),show Nat.ble 1 bytes=true from Z4 hb.1,show Nat.ble 1 es=true from Z4 a];rfl
theorem LA (e:m.Ok)(a:lo<=m.nx)(hp:0<rs)(c:∀r,r∈l->r.length=rs)(d:K4 l.flatten=true)(b:l≠[]):grown m rs l.length l.flatten=some [⟨.sliceU m.nx 0 l.length rs,m.new (.cells rs l.length (T.ofList l))⟩]∧fT lo rs (m.new (.cells rs l.length (T.ofList l))) (.sliceU m.nx 0 l.length rs) l:=
 ⟨NV (m:=m) c,.inr ⟨m.nx,a,by simp,d,Yk e hp c,b,.inr rfl⟩⟩
theorem UK {bytes:Nat}{r:List d9}(f:m.Ok)(N:m.lim<=lo)(y:lo<=m.nx)(hp:0<rs)(h:fT lo rs m v l)(I:r.length=rs)(F:K4 r=true)(hb:l.length+1<=100000)(q:1<=bytes∧bytes<=1000):
  ∃v' m',Fj m rs bytes 1 r v=some [⟨v',m'⟩]∧fT m.nx rs m' v' (l ++ [r])∧Fr lo lo m m'∧(∀i,i<m.nx->(∀o n e,v≠.sliceU i o n e)->m'.get i=m.get i):=by
 have B:∀b,∀i,i<m.nx->(∀o n e,v≠.sliceU i o n e)->(m.new b).get i=m.get i:=λb i C _=>by rw [Mem.J9 f,if_neg (by omega)]
 have s:[r].flatten=r:=by simp
 rcases h with⟨rfl,rfl⟩ | ⟨id,i1,i2,i3,ha,hne,K⟩;obtain⟨g,o⟩:=LA (lo:=m.nx) (rs:=rs) (l:=[r]) f (lM _) hp (by simpa using I) (by rw [s];exact F) (by simp);refine⟨_,_,?_,by rw [agm];exact o,Fr.new f y _,B _⟩;rw [← g,s];show bi (big 1 bytes rs) _ none=_;rw [UJ (by simp) q hp];rfl;have u:K4 (l ++ [r]).flatten=true:=by rw [List.flatten_append,s,vE,i3,F];rfl
 have z:∀x,x∈l ++ [r]->x.length=rs:=λx V=>by rcases Z5.1 V with h | h;exact ha.len x h;rw [aA.1 h];exact I
 obtain⟨p,U,c,t,E,O,P,Z,D,Q⟩:=ha;have k:0<l.length:=agt.2 hne;have J:P5 rs c t (l.length*rs) 0=some l.flatten:=by
  have:=EW (rs:=rs) (n:=c) (rows:=t) U Q P l.length 0 (by simp)
  rwa [ac7,J4] at this
 rcases K with rfl | rfl;obtain⟨g,o⟩:=LA (lo:=m.nx) (rs:=rs) (l:=l ++ [r]) f (lM _) hp z u (by simp);refine⟨_,_,?_,o,Fr.new f y _,B _⟩;rw [← g];show BR m rs bytes 1 r id 0 l.length l.length=_;unfold BR;have R:Nat.ble (Nat.add l.length 1) l.length=false:=by rw [aaB];intro e;have:l.length+1<=l.length:=K9 e;omega
 have S:R8 m id 0 (Nat.mul l.length rs)=some l.flatten:=by have e:Nat.mul l.length rs=l.length*rs:=rfl;rw [e];obtain⟨j,M⟩:∃j,l.length*rs=j+1:=⟨l.length*rs-1,by have:=Nat.mul_pos k hp;omega⟩;rw [M];show R4 (m.get id) (λL W rows=>P5 L W rows (j+1) 0)=_;rw [O,jO,← M,J]
 rw [R,O6,show Nat.add l.length 1=(l ++ [r]).length from by simp,UJ (by simpa using hb) q hp,U0,S,K5,Q8];simp;have a:(m.set id .dead).Ok:=Mem.Ok.set f i2 _;have G:∀b,Fr lo lo m ((m.set id .dead).new b):=λb=>⟨Mem.Ok.new a _,by simp,by simp,λi C _=>by
  rw [Mem.J9 a,if_neg (by simp;omega),Mem.U1 f i2,if_neg (by omega)]⟩
 have w:Nat.ble m.lim id=true:=Z4 (by omega);have A:∃c'',l.length+1<=c''∧T.Ok (t.put l.length r) c'':=by
  by_cases hc:l.length<E;exact⟨E,hc,T.Ok.put D _ _ hc⟩;obtain rfl:E=l.length:=by omega
  exact⟨l.length+1,lM _,T.Ok.push D _⟩
 obtain⟨c'',X,Y⟩:=A;refine⟨.sliceU m.nx 0 (l.length+1) rs,(m.set id .dead).new (.cells rs (l.length+1) (t.put l.length r)),?_,.inr ⟨m.nx,lM _,by simp,u,⟨hp,z,l.length+1,t.put l.length r,c'',?_,by simp,X,Y,λi C=>?_⟩,by simp,.inr (by simp)⟩,G _,λi C K=>?_⟩;show Ta m rs bytes 1 r id 0 l.length rs=_;show bi (Nat.beq rs rs) (bi (big (l.length+1) bytes rs) (bi (Nat.ble m.lim id) (bi (K4 r) (JI (m.get id) _ _) none) none) none) none=_;rw [UJ (by simpa using hb) q hp,w,F,O,show Nat.beq rs rs=true from aat rs];show bi (bi (Nat.beq rs rs) (bi (Nat.beq 0 0) (bi (Nat.ble l.length c) (bi (Nat.beq 1 1) (bi (Nat.beq (len' r) rs) (Nat.blt 0 l.length) false) false) false) false) false) _ _=_;rw [show Nat.ble l.length c=true from Z4 P,show Nat.blt 0 l.length=true from Eq.mpr Xb k,I4,I,show Nat.beq rs rs=true from aat rs];rfl;rw [Mem.J9 a];simp;by_cases hil:i=l.length;subst hil;rw [T.aO D _ _ (by omega)];simp;have d:i<l.length:=by simp at C;omega
 rw [T.aZ D _ _ _ (by omega) (af4 hil),Q i d];simp [List.getElem_append_left,d];have H:i≠id:=by rintro rfl;exact K _ _ _ rfl
 rw [Mem.J9 a,if_neg (by simp;omega),Mem.U1 f i2,if_neg H]
theorem Yl {bytes:Nat}{x:d9}{r:List d9}(F:m.Ok)(a:m.lim<=lo)(g:lo<=m.nx)(hp:0<rs)(h:fT lo rs m v l)(w:aR m rs x [r])(u:r.length=rs)(D:K4 r=true)(hb:l.length+1<=100000)(b:1<=bytes∧bytes<=1000):
  ∃v' m',(∀(s y:OF) (cf:D7) (ls:List d9) (env:T d9),s ls env=v->y ls env=x->oK rs bytes s y cf ls env m=some [⟨v',m'⟩])∧fT m.nx rs m' v' (l ++ [r])∧Fr lo lo m m'∧(∀i,i<m.nx->(∀o n e,v≠.sliceU i o n e)->m'.get i=m.get i):=by
 obtain⟨v',m',z,A,B,C⟩:=UK F a g hp h u D hb b;refine⟨v',m',λs y cf ls env G H=>?_,A,B,C⟩;have k:gV m rs 1 x=some r:=by
  rcases w with⟨_,h⟩ | ⟨id,o,q1,q2,q3⟩;cases h;rcases q3 with h | ⟨n,rows,e1,e2,e3,e4⟩;cases h;have p:R8 m id (o*rs) (Nat.mul 1 rs)=some r:=by
   have e:Nat.mul 1 rs=1*rs:=rfl;have f:=yG (rs:=rs) (n:=n) (rows:=rows) (i:=o) (by simp at e2;omega) (by simpa using e4 0 (by simp)) u;obtain⟨j,E⟩:∃j,1*rs=j+1:=⟨rs-1,by omega⟩;have d:rs=j+1:=by omega
   rw [e,E];show R4 (m.get id) (λt I rows=>P5 t I rows (j+1) (o*rs))=_;rw [e1,jO,← d];have:=f rs 0 (by omega)
   rwa [Y5,J4] at this
  rcases q1 with⟨c,rfl,_⟩ | rfl<;>exact p
 show ob (AM.lenOf (y ls env)) (λn=>ob (gV m rs n (y ls env)) λq=>Fj m rs bytes n q (s ls env))=_;rw [H,G,w.lenOf,K5];show ob (gV m rs 1 x) _=_;rw [k,K5];exact z
theorem UL {bytes:Nat}{x:d9}{r:List d9}(k:m.Ok)(a:m.lim<=lo)(b:lo<=m.nx)(hp:0<rs)(h:fT lo rs m v l)(q:aR m rs x [r])(p:r.length=rs)(j:K4 r=true)(hb:l.length+1<=100000)(c:1<=bytes∧bytes<=1000):
  ∃v' m',(∀(s y:OF) (cf:D7) (ls:List d9) (env:T d9),s ls env=v->y ls env=x->oK rs bytes s y cf ls env m=some [⟨v',m'⟩])∧fT lo rs m' v' (l ++ [r])∧Fr lo lo m m'∧(∀i,i<m.nx->(∀o n e,v≠.sliceU i o n e)->m'.get i=m.get i):=by
 obtain⟨v',m',d,f,g⟩:=Yl k a b hp h q p j hb c;exact⟨v',m',d,f.down b,g⟩
theorem UM (b:m.Ok)(r:List d9)(hp:0<r.length):aR (m.new (r9 r)) r.length (.slice m.nx 0 1 1) [r]:=
 .inr ⟨m.nx,0,.inl ⟨1,by simp,by simp⟩,by simp,.inr ⟨1,T.ofList [r],by rw [Mem.J9 b,if_pos rfl];simp [r9];rfl,by simp,by simp,λi a=>by
  obtain rfl:i=0:=by simpa using a
  rw [T.aG];rfl⟩⟩
end
def oW (m:Mem)(S:Nat->Prop)(rs:Nat)(v:d9)(l:List (List d9)):Prop:=
 (v=.nilSlice∧l=[])∨∃id o,S id∧((∃c,v=.slice id (o*rs) l.length c∧l.length<=c)∨v=.sliceU id (o*rs) l.length rs)∧id<m.nx∧
  (l=[]∨∃n rows,m.get id=some (.cells rs n rows)∧o+l.length<=n∧(∀r,r∈l->r.length=rs)∧∀i (h:i<l.length),rows.get (o+i)=some l[i])
section
variable {m m':Mem}{S S':Nat->Prop}{rs:Nat}{v:d9}{l:List (List d9)}
theorem oW.slice (h:oW m S rs v l):aR m rs v l:=by rcases h with h | ⟨id,o,_,h⟩;exact .inl h;exact .inr ⟨id,o,h⟩
theorem oW.mono (h:oW m S rs v l)(hn:m.nx<=m'.nx)(ho:∀i,i<m.nx->S i->m'.get i=m.get i)(hS:∀i,i<m.nx->S i->S' i):oW m' S' rs v l:=by rcases h with h | ⟨id,o,h0,h1,h2,h3⟩;exact .inl h;refine .inr ⟨id,o,hS _ h2 h0,h1,q9 h2 hn,?_⟩;rcases h3 with h3 | ⟨n,rows,h4,h5⟩;exact .inl h3;exact .inr ⟨n,rows,(ho id h2 h0).trans h4,h5⟩
theorem aR.all (h:aR m rs v l):oW m (λi=>i<m.nx) rs v l:=by rcases h with h | ⟨id,o,h1,h2,h3⟩;exact .inl h;exact .inr ⟨id,o,h2,h1,h2,h3⟩
theorem fT.s {lo:Nat}(h:fT lo rs m v l):oW m (λi=>lo<=i) rs v l:=by rcases h with h | ⟨id,h1,h2,h3,h4,_,h5⟩;exact .inl h;obtain⟨p,b,c,t,g,d,e,j,k,f⟩:=h4;refine .inr ⟨id,0,h1,?_,h2,.inr ⟨c,t,d,by simpa using e,b,λi a=>?_⟩⟩;rw [ac7];rcases h5 with h5 | h5;exact .inl ⟨_,h5,lM _⟩;exact .inr h5;simp only [Z8];exact f i a
end
inductive Ex where
 | mk (k n:Int) (s:List UInt8) (a:List Ex)
inductive kG where
 | mk (k:Int) (s:List UInt8) (e:List Ex) (t f:List kG)
mutual
def bU (m:Mem)(S:Nat->Prop):Ex->List d9->Prop
 | .mk k n s a,row=>∃v rows,row=[.int .i64 k,.int .i64 n,.str s,v]∧oW m S 4 v rows∧G8 m S a rows
def G8 (m:Mem)(S:Nat->Prop):List Ex->List (List d9)->Prop
 | [],rows=>rows=[]
 | e::es,rows=>∃r rs,rows=r::rs∧bU m S e r∧G8 m S es rs
end
mutual
def Bg (m:Mem)(S:Nat->Prop):kG->List d9->Prop
 | .mk k s e t f,row=>∃ve vt vf re rt rf,row=[.int .i64 k,.str s,ve,vt,vf]∧oW m S 4 ve re∧G8 m S e re∧oW m S 5 vt rt∧bA m S t rt∧oW m S 5 vf rf∧bA m S f rf
def bA (m:Mem)(S:Nat->Prop):List kG->List (List d9)->Prop
 | [],rows=>rows=[]
 | s::ss,rows=>∃r rs,rows=r::rs∧Bg m S s r∧bA m S ss rs
end
section
variable {m m':Mem}{S S':Nat->Prop}(hn:m.nx<=m'.nx)(ho:∀i,i<m.nx->S i->m'.get i=m.get i)(hS:∀i,i<m.nx->S i->S' i)
include hn ho hS
mutual
theorem bU.mono:∀(e:Ex) (row:List d9),bU m S e row->bU m' S' e row
 | .mk k n s a,row,⟨v,rows,h1,h2,h3⟩=>⟨v,rows,h1,h2.mono hn ho hS,G8.mono a rows h3⟩
theorem G8.mono:∀(l:List Ex) (rows:List (List d9)),G8 m S l rows->G8 m' S' l rows
 | [],_,h=>h
 | e::es,_,⟨r,rs,h1,h2,h3⟩=>⟨r,rs,h1,bU.mono e r h2,G8.mono es rs h3⟩
end
mutual
theorem Bg.mono:∀(e:kG) (row:List d9),Bg m S e row->Bg m' S' e row
 | .mk k s e t f,row,⟨ve,vt,vf,re,rt,rf,h1,h2,h3,h4,h5,h6,h7⟩=>⟨ve,vt,vf,re,rt,rf,h1,h2.mono hn ho hS,G8.mono hn ho hS e re h3,h4.mono hn ho hS,bA.mono t rt h5,h6.mono hn ho hS,bA.mono f rf h7⟩
theorem bA.mono:∀(l:List kG) (rows:List (List d9)),bA m S l rows->bA m' S' l rows
 | [],_,h=>h
 | e::es,_,⟨r,rs,h1,h2,h3⟩=>⟨r,rs,h1,Bg.mono e r h2,bA.mono es rs h3⟩
end
end
section
variable {m m':Mem}{S:Nat->Prop}
theorem G8.len:∀{l:List Ex} {rows:List (List d9)},G8 m S l rows->rows.length=l.length
 | [],_,h=>by cases h;rfl
 | e::es,_,⟨r,rs,h1,h2,h3⟩=>by rw [h1,Y3,G8.len h3];rfl
theorem bA.len:∀{l:List kG} {rows:List (List d9)},bA m S l rows->rows.length=l.length
 | [],_,h=>by cases h;rfl
 | e::es,_,⟨r,rs,h1,h2,h3⟩=>by rw [h1,Y3,bA.len h3];rfl
theorem G8.get:∀{l:List Ex} {rows:List (List d9)},G8 m S l rows->∀i (h:i<l.length) (h':i<rows.length),bU m S l[i] rows[i]
 | e::es,_,⟨r,rs,h1,h2,h3⟩,0,h,h'=>by subst h1;exact h2
 | e::es,_,⟨r,rs,h1,h2,h3⟩,i+1,h,h'=>by subst h1;exact G8.get h3 i (by simpa using h) (by simpa using h')
theorem bA.get:∀{l:List kG} {rows:List (List d9)},bA m S l rows->∀i (h:i<l.length) (h':i<rows.length),Bg m S l[i] rows[i]
 | e::es,_,⟨r,rs,h1,h2,h3⟩,0,h,h'=>by subst h1;exact h2
 | e::es,_,⟨r,rs,h1,h2,h3⟩,i+1,h,h'=>by subst h1;exact bA.get h3 i (by simpa using h) (by simpa using h')
def vF (m:Mem)(S:Nat->Prop)(l:List Ex)(v:d9):Prop:=∃rows,oW m S 4 v rows∧G8 m S l rows
def UN (m:Mem)(S:Nat->Prop)(l:List kG)(v:d9):Prop:=∃rows,oW m S 5 v rows∧bA m S l rows
theorem bU.row {e:Ex}{row:List d9}(h:bU m S e row):row.length=4∧K4 row=true:=by obtain⟨k,n,s,a⟩:=e;obtain⟨v,b,rfl,c,_⟩:=h;refine⟨rfl,?_⟩;have d:=c.slice.G9;rw [bT,bT,bT,bT,d];rfl
theorem Bg.row {e:kG}{row:List d9}(h:Bg m S e row):row.length=5∧K4 row=true:=by obtain⟨k,s,e,t,f⟩:=e;obtain⟨o,q,p,j,n,l,rfl,d,_,g,_,i,_⟩:=h;refine⟨rfl,?_⟩;have a:=d.slice.G9;have b:=g.slice.G9;have c:=i.slice.G9;rw [bT,bT,bT,bT,bT,a,b,c];rfl
end
open Go Go.RowKit
section
variable {P:Program}{G:Mem}{ι:H6}{m:Mem}{w w':World}
theorem Dy (h:RM P G ι m w.heap)(hb:Below w.heap.size w w'):Step P G ι m w ι m w':=by refine⟨⟨h.ok,λi x a=>?_,λi x o a d=>?_,h.glim,h.limn,h.gle,h.base,h.ghas,h.glob,h.spot,h.JY λk p _=>hb.block k p⟩,λ_ _=>rfl,λ_ h=>h,lM _,rfl,λ_ _=>rfl,hb.size,λb f _=>hb.block b f,λ_ h=>.inl h,hb.os,hb.output,hb.tape⟩;exact (h.blk i x a).mono (n:=m.nm ι) (λ_ _=>rfl) (Mem.U2 (λ_ h=>h) λ_ _=>rfl) λd=>hb.block _ (dB (h.blk i x a) d);have j:=h.own i x o a d;refine⟨j.alone,λc e l g=>?_⟩;rw [hb.block _ (dB (h.blk i x a) d)] at g;exact j.free c e l g
end
section
variable {P:Program}{G:Mem}
theorem qc {f:FuncId}{args:List d9}{v:d9}(a:zV (layAll [] G).nx ⟨v,R5 G []⟩=some ⟨v,[]⟩)(c:∀n:Nm,v.lt n)(h:∀ι ι',l7 ι v=l7 ι' v)
  (g:∀(ι:H6) (w:World),RM P G ι (R5 G []) w.heap->Calls P f (o9 ι args).toArray w λe w'=>e=.returned (l7 ι v)∧Below w.heap.size w w'):jh P G f args [] ⟨v,[]⟩:=by
 intro ι w d b;refine callsIn_wide.2 ((g ι w d).mono ?_);rintro e w' ⟨rfl,hb⟩;exact⟨ι,⟨v,R5 G []⟩,Dy d hb,c _,rfl,a⟩
end
end
end Go.AM
namespace Go.AM
open Go Go.RowKit
noncomputable section
theorem Dz (m:Mem)(lo n:Nat)(a:List (Nat×NB)):reach m lo (n+1) [] a=some a.reverse:=rfl
section
variable {G:Mem}
end
theorem NW {lo:Nat}{v:d9}(m:Mem)(b:vR lo [v]=[])(c:∀r,jD r [v]=some [v]):jS lo [v] m=some ⟨[],[v],[]⟩:=by show ob (reach m lo (99999+1) (vR lo [v]) []) _=_;rw [b,Dz];show ob (jD (yT lo []) [v]) (λd=>ob (some []) λa=>some (⟨[],d,a⟩:CO))=_;rw [c];rfl
theorem Ym {K:Known}{cf:D7}{b:Nat}{f:FuncId}{sf:M9}{args:List d9}{m:Mem}{c:CO}{a:AV}(g:jS K.base.nx args m=some c)(d:K.sum f c.vs c.bs=some a):
  gD K cf b f sf args m=ob (dK (kN K.base.nx c.ids m.nx) a.v) λv=>ob (uT (kN K.base.nx c.ids m.nx) a.bs) λbs=>one v (layAll bs m):=by
 show ob (jS K.base.nx args m) (λc=>ob (zW K cf b f sf c.vs c.bs) λa=>ob (dK (kN K.base.nx c.ids m.nx) a.v) λv=>ob (uT (kN K.base.nx c.ids m.nx) a.bs) λbs=>one v (layAll bs m))=_;rw [g,K5];have e:zW K cf b f sf c.vs c.bs=some a:=by unfold zW;rw [d]
 rw [e,K5]
open Go
def Bh (lo:Nat)(m:Mem)(v:d9)(l:List (List UInt8)):Prop:=
 (v=.nilSlice∧l=[])∨∃id t c,lo<=id∧id<m.nx∧l≠[]∧v=.sliceU id 0 l.length 1∧m.get id=some (.cells 1 l.length t)∧T.Ok t c∧l.length<=c∧∀i (h:i<l.length),t.get i=some [.str l[i]]
section
variable {lo:Nat}{m m':Mem}{v:d9}{l:List (List UInt8)}
theorem Bh.keep (h:Bh lo m v l)(a:m.nx<=m'.nx)(b:∀i,lo<=i->i<m.nx->m'.get i=m.get i):Bh lo m' v l:=by rcases h with h | ⟨id,t,c,h1,h2,h3,h4,h5,h6⟩;exact .inl h;exact .inr ⟨id,t,c,h1,q9 h2 a,h3,h4,(b id h1 h2).trans h5,h6⟩
theorem Bh.ext (h:Bh lo m v l)(e:Ext m m'):Bh lo m' v l:=h.keep e.nx λi _ a=>e.old i a
theorem Bh.cells (h:Bh lo m v l):v.cells=[v]:=by rcases h with⟨rfl,_⟩ | ⟨id,t,c,_,_,_,rfl,_⟩<;>rfl
theorem Bh.G9 (h:Bh lo m v l):Go.AM.G9 v=true:=by rcases h with⟨rfl,_⟩ | ⟨id,t,c,_,_,_,rfl,_⟩<;>rfl
theorem Bh.ng (h:Bh lo m v l){β:Type}(p:d9->β)(q:β):bW v p q=q:=by rcases h with⟨rfl,_⟩ | ⟨id,t,c,_,_,_,rfl,_⟩<;>rfl
end
section
variable (cf:D7)(fu:Nat)(ls:List d9)(env:T d9)(m:Mem)(k:List Mk)
@[simp] theorem aep (x:OF):GY x cf ls env m=Xe (x ls env) m:=id rfl
@[simp] theorem abQ (t:TypeId)(v:d9):Xe (.iface t v) m=some [⟨.ng (.iface t v),m⟩]:=id rfl
@[simp] theorem abR (x:d9):eT k ⟨env,m,some x,[]⟩=some [⟨.ret,env,m,k,some x⟩]:=id rfl
@[simp] theorem abS (x:Mk):eT k ⟨env,m,none,[x]⟩=some [⟨.normal,env,m,x::k,none⟩]:=id rfl
@[simp] theorem aer (a:iR)(rs:List nH)(x:d9):leave a rs ⟨.ret,env,m,[],some x⟩=some [⟨.ng x,m⟩]:=id rfl
@[simp] theorem aan:lF .nilIface .nilIface=some true:=id rfl
@[simp] theorem Yn (t:TypeId)(v:d9):lF (.iface t v) .nilIface=some false:=id rfl
@[simp] theorem aes (r:RC):He r cf fu none env m k=bnd (r cf [] env m) (eT k):=id rfl
@[simp] theorem ag0 (g:OF)(args:List OF):JL g args cf ls env m=JA (g ls env) λfn a b=>some [⟨env,m,none,[.d (.func fn a b) (evs args ls env)]⟩]:=id rfl
def behind (rs:List nH)(env:T d9)(r:Mem×Option d9):eO:=vQ rs env r.2 r.1
@[simp] theorem aeu (rs:List nH):behind rs env (m,none)=ob (results rs env m) λl=>some [⟨result l,m⟩]:=id rfl
def ag1 (b:P9)(r:JQ):Option (List JQ):=match r.o.x with
 | .normal=>match r.o.marks with
  | []=>OE b cf fu r.o.env r.o.m r.md
  | _=>none
 | _=>some [r]
variable (md:Option d9)
def ag2 (r:EM×Option d9):Option (List JQ):=some [⟨⟨.normal,r.1.env,r.1.m,[],none⟩,r.2⟩]
def alk (md:Option d9)(o:Out):Option (List JQ):=some [⟨o,md⟩]
@[simp] theorem ag3 (b:P9):ag1 cf fu b ⟨⟨.normal,env,m,[],none⟩,md⟩=OE b cf fu env m md:=id rfl
@[simp] theorem ajz (o:Out):alk md o=some [⟨o,md⟩]:=id rfl
@[simp] theorem ag4 (e:EM):ag2 (e,md)=some [⟨⟨.normal,e.env,e.m,[],none⟩,md⟩]:=id rfl
end
theorem zI (b c:UInt8):Nat.beq b.toNat c.toNat=decide (b=c):=by
 by_cases h:b=c;subst h;rw [decide_eq_true rfl];exact aat _;rw [decide_eq_false h];cases hb:Nat.beq b.toNat c.toNat with
 | false=>rfl
 | true=>exact absurd (ajN.1 (aP hb)) h
theorem DF (c:UInt8):∀s:List UInt8,Yd c s=decide (0<=Lib.indexByte s c)
 | []=>rfl
 | b::l=>by show bi (Nat.beq b.toNat c.toNat) true (Yd c l)=_;rw [zI,DF c l];have hg:=Lib.indexByte_ge l c;rw [show Lib.indexByte (b::l) c=if b==c then 0 else if Lib.indexByte l c == -1 then -1 else Lib.indexByte l c+1 from rfl];by_cases h:b=c;rw [decide_eq_true h,if_pos (beq_iff_eq.2 h)];rfl;rw [decide_eq_false h,if_neg (by simpa using h)];show decide _=_;by_cases h2:Lib.indexByte l c=-1;rw [if_pos (beq_iff_eq.2 h2),h2];rw [if_neg (by simpa using h2)];exact decide_eq_decide.2 (by omega)
section
variable {P:Program}{G:Mem}
theorem UO (n:Nat)(b:Bool)(m:Mem):zV n ⟨.bool b,m⟩=some ⟨.bool b,[]⟩:=rfl
theorem Yo (n:Nat)(s:List UInt8)(m:Mem):zV n ⟨.str s,m⟩=some ⟨.str s,[]⟩:=rfl
theorem IY {f:FuncId}(a:∀(s:ByteArray)(c:UInt8)(w:World),Calls P f #[.string s,.string ⟨#[c]⟩] w λe w'=>e=.returned (.bool (decide (0<=Lib.indexByte s.data.toList c)))∧w'=w)
  (s:List UInt8) (c:UInt8):jh P G f [.str s,.str [c]] [] ⟨.bool (Yd c s),[]⟩:=
 qc (UO _ _ _) (λ_=>trivial) (λ_ _=>by simp [l7]) λb w _=>by refine aeR (a ⟨s.toArray⟩ c w) ?_;rintro e w' ⟨rfl,rfl⟩;exact⟨by simp [l7,DF],Below.refl _ _⟩
theorem Gi (c:UInt8):∀s:List UInt8,Dp c s=Lib.indexByte s c
 | []=>rfl
 | b::l=>by show bi (Nat.beq b.toNat c.toNat) 0 (bi (aX (Dp c l) (Int.negSucc 0)) (Int.negSucc 0) (Dp c l+1))=_;rw [zI,Gi c l,dW];rw [show Lib.indexByte (b::l) c=if b==c then 0 else if Lib.indexByte l c == -1 then -1 else Lib.indexByte l c+1 from rfl];by_cases h:b=c;rw [decide_eq_true h,if_pos (beq_iff_eq.2 h)];rfl;rw [decide_eq_false h,if_neg (by simpa using h)];show bi (Lib.indexByte l c == -1) (-1) (Lib.indexByte l c+1)=_;cases Lib.indexByte l c == -1<;>rfl
theorem Gj (c:UInt8):∀s:List UInt8,Dq c s=Lib.countByte s c
 | []=>rfl
 | b::l=>by show bi (Nat.beq b.toNat c.toNat) (Nat.succ (Dq c l)) (Dq c l)=_;rw [zI,Gj c l];unfold Lib.countByte;rw [List.count_cons];by_cases h:b=c;rw [decide_eq_true h,if_pos (by simpa using h)];rfl;rw [decide_eq_false h,if_neg (by simpa using h)];rfl
theorem RH {f:FuncId}(a:∀(s:ByteArray)(c:UInt8)(w:World),Calls P f #[.string s,.string ⟨#[c]⟩] w λe w'=>e=.returned (.int .i64 (Lib.indexByte s.data.toList c))∧w'=w)
  (s:List UInt8) (c:UInt8):jh P G f [.str s,.str [c]] [] ⟨.int .i64 (Dp c s),[]⟩:=
 qc rfl (λ_=>trivial) (λ_ _=>by simp [l7]) λb w _=>by refine aeR (a ⟨s.toArray⟩ c w) ?_;rintro e w' ⟨rfl,rfl⟩;exact⟨by simp [l7,Gi],Below.refl _ _⟩
theorem RI {f:FuncId}(a:∀(s:ByteArray)(c:UInt8)(w:World),Calls P f #[.string s,.string ⟨#[c]⟩] w λe w'=>e=.returned (.int .i64 (Lib.countByte s.data.toList c))∧w'=w)
  (s:List UInt8) (c:UInt8):jh P G f [.str s,.str [c]] [] ⟨.int .i64 (.ofNat (Dq c s)),[]⟩:=
 qc rfl (λ_=>trivial) (λ_ _=>by simp [l7]) λb w _=>by refine aeR (a ⟨s.toArray⟩ c w) ?_;rintro e w' ⟨rfl,rfl⟩;exact⟨by simp [l7,Gj],Below.refl _ _⟩
theorem DI (sep:List UInt8):∀ws,fK sep ws=Lib.join ws sep
 | []=>rfl
 | [x]=>(Lib.join_one x sep).symm
 | x::y::r=>by have ih:=DI sep (y::r);have e:fK sep (x::y::r)=ah x (ah sep (fK sep (y::r))):=rfl;rw [e,ih,Q8,Q8,Lib.join_cons,Lib.join_cons];simp [Lib.joinTail]
theorem Aw:∀{l:List (List d9)} {ws:List (List UInt8)},zD l=some ws->l=ws.map λw=>[d9.str w]
 | [],ws,h=>by have h:some ([]:List (List UInt8))=some ws:=h;cases h;rfl
 | r::l,ws,h=>by
  match r,h with
  | [.str s],h=>have h:ob (zD l) (λt=>some (s::t))=some ws:=h;obtain⟨t,h1,h2⟩:=z8 h;cases h2;rw [Aw h1];rfl
theorem NY {α:Type}(n:Nat):∀(l:List α) {r:List α},takeN n l=some r->r=l.take n∧n<=l.length:=by
 intro l r h;by_cases a:n<=l.length;rw [mK n l a] at h;cases h;exact⟨rfl,a⟩;exfalso;revert l r;induction n with
 | zero=>intro l r _ a;exact a (aeN _)
 | succ n ih=>
  intro l r h a;cases l with
  | nil=>cases h
  | cons x l=>have h:ob (takeN n l) (λt=>some (x::t))=some r:=h;obtain⟨t,b,_⟩:=z8 h;exact ih l b (by simp at a;omega)
theorem UQ {f:FuncId}(hG:T.Ok G.t G.nx)
  (Y:∀(a:Option Addr) (c:Nat) (d:ByteArray) (w:World),Calls P f #[.slice a 0 c,.string d] w λe w'=>e=.returned (.string ⟨#[]⟩)∧w'=w)
  (Z:∀(bk o c:Nat) (x d:ByteArray) (w:World),w.cell? ⟨bk,o,none⟩=some (.string x)->Calls P f #[.slice (some ⟨bk,o,none⟩) 1 c,.string d] w λe w'=>e=.returned (.string x)∧w'=w)
  (c2:∀(bk o c:Nat) (xs:List ByteArray) (d:ByteArray) (w:World),(∀(j:Nat) x,xs[j]?=some x->w.cell? ⟨bk,o+j,none⟩=some (.string x))->bk<w.heap.size->2<=xs.length->xs.length<=140737488355328->xs.length<=c->
   (Lib.join (xs.map (·.data.toList)) d.data.toList).length<=140737488355328->Calls P f #[.slice (some ⟨bk,o,none⟩) xs.length c,.string d] w λe w'=>e=.returned (.string ⟨(Lib.join (xs.map (·.data.toList)) d.data.toList).toArray⟩)∧Below w.heap.size w w')
  {v:d9} {off n:Nat} (hv:(∃c,v=.slice G.nx off n c∧n<=c)∨∃es,v=.sliceU G.nx off n es) {rows l:List (List d9)} {A:List (List UInt8)} {d:List UInt8} (hn:n<1000000)
  (V:takeN n (jX off rows)=some l) (hw:zD l=some A) (B:(fK d A).length<1000000):jh P G f [v,.str d] [.cells 1 rows] ⟨.str (fK d A),[]⟩:=by
 intro i w Q D;rw [ku] at V;obtain⟨F,a0⟩:=NY n _ V;have H:=Aw hw;have h:A.length=n:=by have:=congrArg List.length H;rw [F,ai1,aev] at this;omega
 have U:(R5 G [.cells 1 rows]).get G.nx=some (.cells 1 (len' rows) (T.ofList rows)):=by show (G.new (fZ (.cells 1 rows))).get G.nx=_;rw [Mem.J9 (m:=G) hG];exact if_pos rfl
 have q:=Q.spot G.nx _ U rfl;obtain⟨c,e,fz,R,h1,_,hr⟩:=Q.blk G.nx _ U;have g:∀j (x:List UInt8),A[j]?=some x->w.cell? ⟨(i G.nx).b,(i G.nx).base+off+j,none⟩=some (.string ⟨x.toArray⟩):=λj x K=>by
  have hj:j<n:=by rw [← h];exact (gq.1 K).1
  have C:rows[off+j]?=some [d9.str x]:=by
   have I:l[j]?=some [d9.str x]:=by rw [H,aas,K];rfl
   rw [F,aeC,if_pos hj,aeJ] at I;exact I
  obtain⟨a1,X,q2,q3,q4⟩:=hr (off+j) (by rw [I4];exact (gq.1 C).1);rw [T.aG,C] at X;cases X;have:=q4 0 (by omega);rw [ajT,Y5] at this;have J:c[(i G.nx).base+off+j]?=some (.string ⟨x.toArray⟩):=by rw [aez,this];simp [l7]
  simp [World.cell?,R,J]
 have E:(i G.nx).b<w.heap.size:=(q8.1 R).1;have k:∀(x:ByteArray) (w':World),x=⟨(fK d A).toArray⟩->Below w.heap.size w w'->∃ι' r,Step P G i (R5 G [.cells 1 rows]) w ι' r.m w'∧r.v.lt (r.m.nm ι')∧Ending.returned (.string x)=.returned (l7 ι' r.v)∧
   zV (layAll [.cells 1 rows] G).nx r=some ⟨.str (fK d A),[]⟩:=λx w' K L=>
  ⟨i,⟨.str (fK d A),R5 G [.cells 1 rows]⟩,Dy Q L,trivial,by rw [K];simp [l7],rfl⟩
 have M:∃cap,n<=cap∧l7 i v=.slice (some ⟨(i G.nx).b,(i G.nx).base+off,none⟩) n cap:=by rcases hv with⟨cap,rfl,p⟩ | ⟨es,rfl⟩;exact⟨cap,p,by simp [l7,H6.xA q]⟩;have O:d9.lt ((R5 G [.cells 1 rows]).nm i) (.sliceU G.nx off n es):=D.1;obtain⟨_,I,J⟩:=O;refine⟨((i G.nx).cap-off) / es,?_,by simp [l7,H6.xA q]⟩;have J:off+n*es<=(i G.nx).cap:=J;exact (adD I).2 (by omega)
 obtain⟨cap,p,N⟩:=M;have s:(o9 i [v,.str d]).toArray=#[.slice (some ⟨(i G.nx).b,(i G.nx).base+off,none⟩) n cap,.string ⟨d.toArray⟩]:=by simp [o9,N,l7]
 rw [s];refine callsIn_wide.2 ?_;match A,h,g,B,k with
 | [],h,_,_,k=>obtain rfl:n=0:=h.symm;refine aeR (Y _ cap ⟨d.toArray⟩ w) ?_;rintro e w' ⟨rfl,rfl⟩;exact k _ _ rfl (Below.refl _ _)
 | [x],h,g,_,k=>obtain rfl:n=1:=h.symm;refine aeR (Z _ _ cap ⟨x.toArray⟩ ⟨d.toArray⟩ w (g 0 x rfl)) ?_;rintro e w' ⟨rfl,rfl⟩;exact k _ _ rfl (Below.refl _ _)
 | x::y::t,h,g,B,k=>
  have S:((x::y::t).map λz:List UInt8=>(⟨z.toArray⟩:ByteArray)).map (λb:ByteArray=>b.data.toList)=x::y::t:=by rw [aeP];exact List.map_id'' (λ_=>rfl) _
  have:=c2 (i G.nx).b ((i G.nx).base+off) cap ((x::y::t).map λz:List UInt8=>(⟨z.toArray⟩:ByteArray)) ⟨d.toArray⟩ w (λj z W=>by
   rw [aas] at W;obtain⟨u,hu,rfl⟩:=aay.1 W;exact g j u hu) E (by simp) (by rw [aev,h];omega) (by rw [aev,h];exact p) (by
    rw [S];show (Lib.join (x::y::t) d).length<=_;rw [← DI];omega)
  rw [S,aev,h] at this;refine aeR this ?_;rintro e w' ⟨rfl,L⟩;refine k _ _ ?_ L;rw [DI]
end
end
end Go.AM
