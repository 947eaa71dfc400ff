/- A part of an evaluator for the model, proved sound: what it answers holds of the model; it speaks of every program, no condition. -/
import Derived.Test.YteecnooaopfkeaaGreatDoorPA4
import Derived.Below
import Derived.Lib.SplitLaws
import Derived.Lib.Join
import Derived.Lib.SmallJoins
set_option linter.all false
namespace Go.AM
open Go
noncomputable section
def YB (P:Program)(S:List TypeId):Bool:=S.all λt=>match P.underlying t with
 | some .bool=>true
 | some (.int _)=>true
 | some .string=>true
 | some (.slice e)=>S.contains e&&Nat.blt 0 (P.cellsOf e)
 | some (.struct fs)=>fs.toList.all (λf=>S.contains f.type)&&Mt P fs.toList 0 (P.cellsOf t)
 | _=>false
section
variable {P:Program}{G:Mem}{H:Type}{enc:TypeId×Value->H}{w:World}{held:Bool}
end
def wJ (S:TypeId->Nat->List o7->Prop):List Field->Nat->List o7->Prop
 | [],b,vs=>vs=[]∧1<=b
 | f::fs,b,vs=>∃a c b1 b2,vs=a++c∧S f.type b1 a∧wJ S fs b2 c∧b1+b2<=b
def VP (bs:Nat->Nat):Nat->Nat->Nat
 | _,0=>0
 | j,k+1=>bs j+VP bs (j+1) k
def jJ (P:Program)(m:Mem):Nat->TypeId->Nat->List o7->Prop
 | 0,_,_,_=>False
 | n+1,t,b,vs=>match P.underlying t with
  | some .bool=>∃b,vs=[.bool b]
  | some (.int k)=>∃i,vs=[.int k i]∧(Lit.int k i).wf=true
  | some .string=>∃s:List UInt8,vs=[.str s]∧s.length+1<=b
  | some (.slice e)=>vs=[.nilSlice]∨∃id len cap,vs=[.slice id 0 len cap]∧len<=cap∧
    ((cap=0∧m.get id=some .dead)∨∃rows bs,0<cap∧m.get id=some (.cells (P.cellsOf e) cap rows)∧VP bs 0 len+1<=b∧∀i,i<cap->∃row,rows.get i=some row∧row.length=P.cellsOf e∧(i<len->jJ P m n e (bs i) row))
  | some (.struct fs)=>wJ (jJ P m n) fs.toList b vs
  | _=>False
theorem DR {S S':TypeId->Nat->List o7->Prop}(h:∀t b vs,S t b vs->S' t b vs):∀fs b vs,wJ S fs b vs->wJ S' fs b vs
 | [],_,_,hv=>hv
 | _::fs,_,_,⟨a,c,b1,b2,e,h1,h2,h3⟩=>⟨a,c,b1,b2,e,h _ _ _ h1,DR h fs b2 c h2,h3⟩
theorem CJ {P:Program}{m m':Mem}(h:∀i b,m.get i=some b->m'.get i=some b):∀n t b vs,jJ P m n t b vs->jJ P m' n t b vs:=by
 intro n;induction n with
 | zero=>intro t b vs a;exact a
 | succ n ih=>
  intro t b vs a;unfold jJ at a ⊢;split at a;exact a;exact a;exact a;rcases a with a | ⟨id,len,cap,h1,h2,h4⟩;exact .inl a;refine .inr ⟨id,len,cap,h1,h2,?_⟩;rcases h4 with⟨h4,h5⟩ | ⟨rows,bs,h4,h5,h7,h6⟩;exact .inl ⟨h4,h _ _ h5⟩;exact .inr ⟨rows,bs,h4,h _ _ h5,h7,λi g=>by
   obtain⟨c,d,e,f⟩:=h6 i g;exact⟨c,d,e,λj=>ih _ _ _ (f j)⟩⟩
  exact DR (λt b vs=>ih t b vs) _ _ _ a;exact a
theorem VQ {S:TypeId->Nat->List o7->Prop}:∀{fs:List Field} {b b':Nat} (_:b<=b') (vs:List o7),wJ S fs b vs->wJ S fs b' vs
 | [],_,_,h,_,hv=>⟨hv.1,gI hv.2 h⟩
 | _ :: _,_,_,h,_,⟨a,c,b1,b2,e,h1,h2,h3⟩=>⟨a,c,b1,b2,e,h1,h2,gI h3 h⟩
theorem Pz {α:Type}(f:α->Nat)(d:Nat->Nat):∀(l:List α) (j:Nat),(∀i (h:i<l.length),d (j+i)=f l[i])->VP d j l.length=(l.map f).sum
 | [],_,_=>rfl
 | x::l,j,h=>by
  have h0:=h 0 (by simp);simp only [Y7,ae4] at h0;simp only [J6,VP,Z5,afq,h0];rw [Pz f d l (j+1) (λi hi=>by
   have:=h (i+1) (by simp;omega);simp only [agD] at this;rw [show j+1+i=j+(i+1) from by omega];exact this)]
section
variable {P:Program}{G:Mem}{hp:Array Obj}{H:Type}{enc:TypeId×Value->H}{w:World}{held:Bool}
theorem Mv {cs:List Value}{S:Mem->TypeId->Nat->List o7->Prop}(A:∀m m' t b vs,(∀i x,m.get i=some x->m'.get i=some x)->S m t b vs->S m' t b vs):
  ∀(fs:List Field) (bs:List Nat) (o:Nat),bs.length=fs.length->(∀(i:Nat) (f:Field) (b:Nat),fs[i]?=some f->bs[i]?=some b->∀ι m,RM P G ι m hp->m.lim=m.nx->Gets P G hp ι m ((cs.drop f.offset).take (P.cellsOf f.type)) (λm' vs=>S m' f.type b vs))->Mt P fs o cs.length=true->
   ∀ι m,RM P G ι m hp->m.lim=m.nx->Gets P G hp ι m (cs.drop o) (λm' vs=>wJ (S m') fs (bs.sum+1) vs):=by
 intro fs;induction fs with
 | nil=>intro bs o _ _ d ι m l k;have:o=cs.length:=q9 d;exact⟨ι,m,[],Lifts.refl l k,by rw [this];simp [z8],trivial,rfl,by omega⟩
 | cons f fs ih=>
  intro bs o r s d ι m l k;cases bs with
  | nil=>simp at r
  | cons b bs=>simp only [Mt,l9] at d;have z:f.offset=o:=q9 d.1;obtain⟨n,E,a,g,w,q,y⟩:=s 0 f b rfl rfl ι m l k;obtain⟨p,F,c,e,B,C,D⟩:=ih bs (o+P.cellsOf f.type) (by simpa using r) (λi v u j h=>s (i+1) v u j h) d.2 n E g.rm g.lim;refine⟨p,F,a++c,g.trans e,?_,jT (e.lt q) C,a,c,b,bs.sum+1,rfl,A _ _ _ _ _ e.get y,D,by simp;omega⟩;rw [kS,e.u6 q,w,B,z,← adS,List.take_append_drop]
theorem Sg {n:Nat}{row:Nat->List Value}{S:Mem->Nat->List o7->Prop}(q:∀m m' i vs,(∀i b,m.get i=some b->m'.get i=some b)->S m i vs->S m' i vs)
  (h:∀i,i<n->∀ι m,RM P G ι m hp->m.lim=m.nx->Gets P G hp ι m (row i) (λm' vs=>S m' i vs)):∀c,c<=n->∀ι m,RM P G ι m hp->m.lim=m.nx->
   ∃(ι':K7) (m':Mem) (rl:List (List o7)),Lifts P G hp ι m ι' m'∧rl.length=c∧∀i r,rl[i]?=some r->z8 ι' r=row i∧bB (m'.nm ι') r∧S m' i r:=by
 intro c;induction c with
 | zero=>intro _ ι m g f;exact⟨ι,m,[],Lifts.refl g f,rfl,λi r a=>by simp at a⟩
 | succ c ih=>
  intro A ι m g f;obtain⟨j,v,rl,e,o,p⟩:=ih (by omega) ι m g f;obtain⟨k,w,r,d,s,t,u⟩:=h c (by omega) j v e.rm e.lim;refine⟨k,w,rl ++ [r],e.trans d,by simp [o],λi z a=>?_⟩;by_cases hi:i<rl.length;rw [aan hi] at a;obtain⟨x,l,y⟩:=p i z a;exact⟨by rw [d.u6 l,x],d.lt l,q _ _ _ _ d.get y⟩;rw [aaC (by omega)] at a;have:i-rl.length=0:=by have:=(y8.1 a).1;simp at this;omega
  rw [this] at a;simp at a;subst a;obtain rfl:i=c:=by omega
  exact⟨s,t,u⟩
theorem Mw {mu:DataW H->Nat}(j:∀e s,((e.map mu).sum+1<=mu (.slice e s))){t e:TypeId}{n:Nat}{cs:List Value}{x:DataW H×List MemPlace}(m:P.underlying t=some (.slice e))(h:DataW.trod enc P w 0 (λ_=>true) held (n+1) t cs=some x):
  cs=[.slice none 0 0]∨∃(a:Addr) (len cap:Nat) (bs:Nat->Nat),cs=[.slice (some a) len cap]∧len<=cap∧cap<=maxLen∧VP bs 0 len+1<=mu x.1∧
   ∀i,i<cap->∃row d,w.cells? 0 (a.add (i*P.cellsOf e)) (P.cellsOf e)=some row∧DataW.trod enc P w 0 (λ_=>true) held n e row=some d∧(i<len->mu d.1=bs i):=by
 rcases DataW.trod_slice m h with⟨h0,_⟩ | ⟨a,len,cap,elems,rest,n',hn,rfl,rfl,_,hl,hm,hlen,hel,hsp,_⟩;exact .inl h0;obtain rfl:n'=n:=by omega
 obtain⟨q,k⟩:=hsp rfl;have b:∀(o:Option (List Value)) (d:DataW H×List MemPlace),o.bind (DataW.trod enc P w 0 (λ_=>true) held n' e)=some d->∃row,o=some row∧DataW.trod enc P w 0 (λ_=>true) held n' e row=some d:=λo d h=>by obtain⟨row,c,l⟩:=aa3.1 h;exact⟨row,c,l⟩
 refine .inr ⟨a,len,cap,λi=>((elems[i]?).map λd=>mu d.1).getD 0,rfl,hl,hm,?_,λi p=>?_⟩;have:=Pz (λd:DataW H×List MemPlace=>mu d.1) (λi=>((elems[i]?).map λd=>mu d.1).getD 0) elems 0 (λi h=>by simp [h]);rw [hlen] at this;rw [this];have:=j (elems.map (·.1)) (rest.map (·.1));rw [ae5] at this;exact this;by_cases c:i<len;have:=hel i c;rw [y7 (by omega)] at this;obtain⟨row,f,g⟩:=b _ _ this;exact⟨row,_,f,g,λ_=>by simp [y7 (show i<elems.length by omega)]⟩;have:=k (i-len) (by omega);rw [y7 (by omega),show len+(i-len)=i from by omega] at this;obtain⟨row,f,g⟩:=b _ _ this;exact⟨row,_,f,g,λh=>absurd h c⟩
theorem adC {mu:DataW H->Nat}(ac:∀e s,((e.map mu).sum+1<=mu (.slice e s)))(aa:∀p,(p.map mu).sum+1<=mu (.agg p))(ab:∀b,b.length+1<=mu (.lit (.string b))){S:List TypeId}(hS:YB P S=true):∀(n:Nat) (t:TypeId) (cs:List Value) (x:DataW H×List MemPlace),DataW.trod enc P w 0 (λ_=>true) held n t cs=some x->S.contains t=true->
  ∀ι m,RM P G ι m w.heap->m.lim=m.nx->Gets P G w.heap ι m cs (λm' vs=>jJ P m' n t (mu x.1) vs):=by
 intro n;induction n with
 | zero=>intro t cs x z;simp [DataW.trod] at z
 | succ k ih=>
  intro t cs x z hp ι m J y;have hp:=aaI.1 hS t (List.elem_iff.1 hp);have A:∀vs:List o7,z8 ι vs=cs->bB (m.nm ι) vs->jJ P m (k+1) t (mu x.1) vs->Gets P G w.heap ι m cs (λm' vs=>jJ P m' (k+1) t (mu x.1) vs):=λvs X h2 h3=>⟨ι,m,vs,Lifts.refl J y,X,h2,h3⟩;split at hp;rename_i q;obtain⟨b,rfl,_⟩:=DataW.trod_bool q z;exact A [.bool b] rfl ⟨trivial,trivial⟩ (by unfold jJ;rw [q];exact⟨b,rfl⟩);rename_i ik q;obtain⟨i,rfl,_,hw⟩:=DataW.trod_int q z;exact A [.int ik i] rfl ⟨trivial,trivial⟩ (by unfold jJ;rw [q];exact⟨i,rfl,hw⟩);rename_i q;obtain⟨s,rfl,rfl,_⟩:=DataW.trod_string q z;have ad:=ab s.data.toList;exact A [.str s.data.toList] (by simp [z8,u6]) ⟨trivial,trivial⟩ (by unfold jJ;rw [q];exact⟨s.data.toList,rfl,ad⟩);rename_i e q;simp only [l9] at hp;have C:0<P.cellsOf e:=Y3.mp hp.2;rcases Mw ac q z with rfl | ⟨a,len,mm,bs,rfl,D,hcap,hsum,hel⟩;exact A [.nilSlice] rfl ⟨trivial,trivial⟩ (by unfold jJ;rw [q];exact .inl rfl);by_cases h0:mm=0;subst h0;have D:len=0:=by omega
  subst D;have L:=Lifts.push (b:=.dead) (l:=⟨a.block,a.off,0,a.spot⟩) J y rfl (by intro h;cases h) trivial;refine⟨_,_,[.slice m.nx 0 0 0],L,?_,⟨⟨.dead,by rw [Mem.wI,Mem.K6 J.ok,if_pos rfl],rfl⟩,trivial⟩,?_⟩;simp [z8,u6,K7.at];unfold jJ;rw [q];exact .inr ⟨m.nx,0,0,rfl,aP _,.inl ⟨rfl,by rw [Mem.wI,Mem.K6 J.ok,if_pos rfl]⟩⟩;obtain⟨row,R⟩:=Deep.choose_lt hel;obtain⟨B,F,U,V,g2,g3⟩:=Sg (n:=mm) (row:=row) (S:=λm' i vs=>i<len->jJ P m' k e (bs i) vs) (λm m' i vs h hs y=>CJ h k e (bs i) vs (hs y))
   (λi o ι m J y=>by
    obtain⟨d,_,hd,hb⟩:=R i o;obtain⟨ag,m9,ae,K,M,I,Y⟩:=ih e (row i) d hd hp.1 ι m J y;exact⟨ag,m9,ae,K,M,I,λy=>hb y▸Y⟩) mm (aP _) ι m J y
  have g:∀i j,i<mm->j<P.cellsOf e->w.cell? ((a.add (i*P.cellsOf e)).add j)=(row i)[j]?∧(row i).length=P.cellsOf e:=λi j o Q=>by obtain⟨d,q0,_,_⟩:=R i o;obtain⟨_,M,I⟩:=World.cells?_some q0;exact⟨I j Q,M⟩
  have u:∀i j,i<mm->j<P.cellsOf e->∃v,(row i)[j]?=some v:=λi j o Q=>⟨_,y7 (by rw [(g i j o Q).2];exact Q)⟩;have E:a.spot=none:=by
   obtain⟨v,W⟩:=u 0 0 (by omega) C;have:=(g 0 0 (by omega) C).1;rw [W] at this;unfold World.cell? at this;split at this;split at this;cases this;rename_i hn;simp only [adR,Addr.add,if_true] at hn;cases hs:a.spot with
   | none=>rfl
   | some s=>rw [hs] at hn;simp at hn
   cases this
  obtain⟨c,Z,fz,hc⟩:∃c Z fz,w.heap[a.block]?=some (.cells c Z fz):=by obtain⟨v,W⟩:=u 0 0 (by omega) C;have:=(g 0 0 (by omega) C).1;rw [W] at this;unfold World.cell? at this;split at this;rename_i c Z fz hh;simp only [adR,Addr.add,if_true] at hh;exact⟨c,Z,fz,hh⟩;cases this
  have a0:∀i j,(a.add (i*P.cellsOf e)).add j=⟨a.block,a.off+(i*P.cellsOf e+j),none⟩:=λi j=>by rw [Deep.add_add];unfold Addr.add;split;rename_i h;rw [h,Y7,← E];rfl
  have a1:∀i j,i<mm->j<P.cellsOf e->c[a.off+(i*P.cellsOf e+j)]?=(row i)[j]?:=λi j o Q=>by have:=(g i j o Q).1;rw [a0] at this;simpa [World.cell?,hc] using this
  have N:a.off+mm*P.cellsOf e<=c.size:=by
   obtain⟨v,W⟩:=u (mm-1) (P.cellsOf e-1) (by omega) (by omega);have:=a1 (mm-1) (P.cellsOf e-1) (by omega) (by omega);rw [W] at this;have X:=(J4.1 this).1;have h2:(mm-1)*P.cellsOf e+P.cellsOf e=mm*P.cellsOf e:=by rw [← abF];congr 1;omega
   omega
  have a6:∀i,i<mm->∃r,U[i]?=some r∧z8 B r=row i∧bB (F.nm B) r∧(i<len->jJ P F k e (bs i) r)∧r.length=P.cellsOf e:=λi o=>by have hh:U[i]?=some U[i]:=y7 (by omega);obtain⟨K,M,I⟩:=g3 i _ hh;refine⟨_,hh,K,M,I,?_⟩;have:=congrArg List.length K;rw [Y9] at this;rw [this,(g i 0 o C).2]
  have a5:∀i x,F.get i=some x->i≠F.nx:=λi x z e=>by have:=Mem.I8 V.rm.ok z;omega
  have O:∀j,F.has j->(B.upd F.nx ⟨a.block,a.off,mm*P.cellsOf e,none⟩) j=B j:=λj ⟨x,z,_⟩=>B.upd_ne _ (a5 j x z);have a2:∀i,F.has i->(F.new (.cells (P.cellsOf e) mm (T.ofList U))).has i:=λi ⟨x,z,W⟩=>⟨x,by rw [Mem.K6 V.rm.ok,if_neg (a5 i x z)];exact z,W⟩;have L:=Lifts.push (b:=.cells (P.cellsOf e) mm (T.ofList U)) (l:=⟨a.block,a.off,mm*P.cellsOf e,none⟩) V.rm V.lim rfl (λ_=>rfl)
   ⟨c,Z,fz,hc,N,⟨aP _,U.length,by omega,T.fO U,yU λX=>by
    rw [T.au];exact afn (by omega)⟩,λi o=>by
    obtain⟨r,K,M,I,Y,q5⟩:=a6 i o;refine⟨r,by rw [T.au];exact K,q5,eF (Mem.aH a2 O) r I,λj Q=>?_⟩;show c[a.off+(i*P.cellsOf e+j)]?=_;rw [a1 i j o Q,← M,aX];cases hr:r[j]? with
    | none=>rfl
    | some v=>simp [U0 (n:=F.nm B) O v (dR.1 I v (Xb hr))]⟩
  refine⟨_,_,[.slice F.nx 0 len mm],V.trans L,?_,⟨⟨_,by rw [Mem.wI,Mem.K6 V.rm.ok,if_pos rfl],rfl⟩,trivial⟩,?_⟩;simp only [z8,u6];rw [K7.zX (by rw [K7.U3]),K7.U3];simp only [Y7];rw [← E];unfold jJ;rw [q];refine .inr ⟨F.nx,len,mm,rfl,D,.inr ⟨T.ofList U,bs,by omega,by rw [Mem.wI,Mem.K6 V.rm.ok,if_pos rfl],hsum,λi o=>?_⟩⟩;obtain⟨r,K,M,I,Y,q5⟩:=a6 i o;exact⟨r,by rw [T.au];exact K,q5,λy=>CJ L.get k e (bs i) r (Y y)⟩;rename_i fs q;simp only [l9,aaI] at hp;obtain⟨xs,n',hn,rfl,a8,a7,hf⟩:=DataW.trod_struct q z;obtain rfl:n'=k:=by omega
  have:=Mv (P:=P) (G:=G) (hp:=w.heap) (cs:=cs) (S:=λm' t b vs=>jJ P m' n' t b vs) (λm m' t b vs h hs=>CJ h n' t b vs hs) fs.toList (xs.map λd=>mu d.1) 0 (by simp [a7])
   (λi f b o hb ι m J y=>by
    have a9:=Xb o;have a3:fs[i]?=some f:=(by simpa using o);have X:=hf i f a3;have a4:i<xs.length:=(by rw [a7];exact (J4.1 a3).1);rw [y7 a4] at X;rw [aaB,y7 a4] at hb;cases hb;exact ih f.type _ _ X (hp.1 f a9) ι m J y) (by rw [a8];exact hp.2) ι m J y
  obtain⟨af,m',vs,K,M,I,Y⟩:=this;refine⟨af,m',vs,K,by simpa using M,I,?_⟩;unfold jJ;rw [q];have hg:=aa (xs.map (·.1));rw [ae5] at hg;exact VQ hg _ Y;cases hp
end
def MB (P:Program)(slots:List Nat)(ops:Array Oper):Option V8:=
 match kI P slots ops [] (canon (FD ops) (masks ops.toList) ops.size) with
 | none=>none
 | some insts=>some (.dreg (Li insts) (numbered (masks ops.toList) ((canon (FD ops) (masks ops.toList) ops.size).zip insts) [] 0))
theorem Ke {P:Program}{slots:List Nat}{ops:Array Oper}{c:V8}(h:zV P slots ops=some c):MB P slots ops=some c:=by unfold zV at h;unfold MB;split at h;cases h;rename_i a b;rw [b];split at h;exact h;cases h
def MC (P:Program)(slots:List Nat)(ops:Array Oper):Option V8:=
 match MB P slots (ops.extract 0 (ops.size-3)) with
 | some (.dreg n l)=>ED (qA P slots [] ops (ops.size-3)) (qA P slots [(ops[ops.size-3]?).bind (·.dst)] ops (ops.size-2)) (qA P slots [] ops (ops.size-1)) n l
 | _=>none
theorem Si {P:Program}{slots:List Nat}{ops:Array Oper}{c:V8}(h:FE P slots ops=some c):MC P slots ops=some c:=by unfold FE at h;unfold MC;split at h;rename_i n l a;rw [Ke a];split at h;exact h;cases h;cases h
def jy (P:Program)(slots:List Nat):Code->Option V8
 | .skip=>some .skip
 | .region _ ops false=>match kI P slots ops [] (List.range ops.size) with
  | some l=>some (.reg l)
  | none=>none
 | .region _ ops true=>if splits ops then MC P slots ops else MB P slots ops
 | .seq a b=>match jy P slots a,jy P slots b with
  | some x,some y=>some (.seq x y)
  | _,_=>none
 | .cond c a b=>match N8 P slots [] c,jy P slots a,jy P slots b with
  | some z,some x,some y=>some (.cond z x y)
  | _,_,_=>none
 | .block id a=>match jy P slots a with
  | some x=>some (.block id x)
  | none=>none
 | .loop a=>match jy P slots a with
  | some x=>some (.loop x)
  | none=>none
 | .exit id=>some (.exit id)
 | .ret=>some .ret
 | .rangeFunc f ps a b=>match N8 P slots [] f,jy P slots a,jy P slots b with
  | some z,some x,some y=>some (.rangeFunc z (ps.toList.map λt=>idxOf t slots 0) x y)
  | _,_,_=>none
 | .refuse _=>some (.reg [⟨.e .bad,none,none⟩])
 | _=>none
theorem jl {P:Program}{slots:List Nat}:∀(k:Code) {c:V8},U2 P slots k=some c->jy P slots k=some c
 | .skip,_,h=>h
 | .region _ _ false,_,h=>h
 | .region _ ops true,_,h=>by unfold U2 at h;unfold jy;split at h;rename_i hs;rw [if_pos hs];exact Si h;rename_i hs;rw [if_neg hs];exact Ke h
 | .seq a b,c,h=>by unfold U2 at h;split at h;rename_i x y hx hy;unfold jy;rw [jl a hx,jl b hy];exact h;cases h
 | .cond z a b,c,h=>by unfold U2 at h;split at h;rename_i w x y hw hx hy;unfold jy;rw [hw,jl a hx,jl b hy];exact h;cases h
 | .block _ a,c,h=>by unfold U2 at h;split at h;rename_i x hx;unfold jy;rw [jl a hx];exact h;cases h
 | .loop a,c,h=>by unfold U2 at h;split at h;rename_i x hx;unfold jy;rw [jl a hx];exact h;cases h
 | .rangeFunc z _ a b,c,h=>by unfold U2 at h;split at h;rename_i w x y hw hx hy;unfold jy;rw [hw,jl a hx,jl b hy];exact h;cases h
 | .exit _,_,h=>h
 | .ret,_,h=>h
 | .scope _,_,h=>by cases h
 | .label _,_,h=>by cases h
 | .goto _,_,h=>by cases h
 | .refuse _,_,h=>h
def afe (P:Program)(slots:List Nat)(f:FuncId):Option AFn:=
 match P.funcs[f]? with
 | none=>none
 | some fn=>match fn.body with
  | none=>none
  | some c=>match jy P slots c,El P slots fn.results.toList with
   | some b,some r=>some ⟨fn.params.size+fn.nfree,(List.range (fn.params.size+fn.nfree)).map λt=>idxOf t slots 0,slots.length,r,b⟩
   | _,_=>none
theorem abq {P:Program}{slots:List Nat}{f:FuncId}{a:AFn}(h:Ri P slots f=some a):afe P slots f=some a:=by unfold Ri at h;unfold afe;split at h;cases h;rename_i j g;rw [g];split at h;cases h;rename_i c e;simp only [e];split at h;rename_i b r d i;rw [jl _ d,i];split at h;exact h;cases h;cases h
def cT (P:Program)(slots:List Nat)(pure rc:Bool)(f:FuncId):aW:=VF pure rc ((afe P slots f).getD ⟨0,[],0,[],.skip⟩)
theorem iJ {P:Program}{slots:List Nat}{f:FuncId}{pure rc:Bool}(h:(Ri P slots f).isSome=true):ql P f (cT P slots pure rc f):=by
 obtain⟨a,b⟩:=amd.1 h;have:cT P slots pure rc f=VF pure rc a:=by unfold cT;rw [abq b];rfl
 rw [this];exact TM b pure rc
def TS (ops:Array Oper)(done:List (Option Nat))(i:Nat):List Nat:=
 match ops[i]? with
 | none=>[]
 | some o=>o.op.operands.toList.filterMap fun
  | .tmp t=>match jw t done 0 with
   | none=>some t
   | some _=>none
  | _=>none
def YC (ops:Array Oper):List Nat->List (Option Nat)->List Nat
 | [],_=>[]
 | i::l,done=>TS ops done i++YC ops l (((ops[i]?).bind (·.dst))::done)
def aiM:Operand->List Nat
 | .tmp t=>[t]
 | _=>[]
def AX:Code->List Nat
 | .region _ ops false=>YC ops (List.range ops.size) []
 | .region _ ops true=>YC ops (canon (FD ops) (masks ops.toList) ops.size) []++(if splits ops then TS ops [] (ops.size-3)++(TS ops [(ops[ops.size-3]?).bind (·.dst)] (ops.size-2)++TS ops [] (ops.size-1)) else [])
 | .seq a b=>AX a++AX b
 | .cond c a b=>aiM c++(AX a++AX b)
 | .block _ b=>AX b
 | .loop b=>AX b
 | .rangeFunc f _ a b=>aiM f++(AX a++AX b)
 | _=>[]
def aiN (x:Nat):List Nat->Bool
 | []=>false
 | y::l=>bif Nat.beq x y then true else aiN x l
def aff:List Nat->List Nat->List Nat
 | [],acc=>acc.reverse
 | x::l,acc=>bif aiN x acc then aff l acc else aff l (x::acc)
def afg:List ResultVar->List Nat
 | []=>[]
 | .tmp t::l=>t::afg l
 | .cell t _::l=>t::afg l
def wK (P:Program)(f:FuncId):List Nat:=match P.funcs[f]? with
 | none=>[]
 | some fn=>match fn.body with
  | none=>[]
  | some c=>aff (AX c++afg fn.results.toList) []
def fnQ (P:Program)(M PM RM:Nat)(f:FuncId):Option aW:=bif Nat.testBit M f then some (cT P (wK P f) (Nat.testBit PM f) (Nat.testBit RM f) f) else none
def PD (P:Program)(M a n:Nat):Bool:=Nat.rec true (λi ih=>bif bif Nat.testBit M (a+i) then (Ri P (wK P (a+i)) (a+i)).isSome else true then ih else false) n
theorem xO {P:Program}{M a:Nat}:∀{n:Nat},PD P M a n=true->∀i,i<n->Nat.testBit M (a+i)=true->(Ri P (wK P (a+i)) (a+i)).isSome=true:=by
 intro n;induction n with
 | zero=>intro _ i c;omega
 | succ n ih=>
  intro h i c b;have h:(bif (bif Nat.testBit M (a+n) then (Ri P (wK P (a+n)) (a+n)).isSome else true) then PD P M a n else false)=true:=h;cases h1:(bif Nat.testBit M (a+n) then (Ri P (wK P (a+n)) (a+n)).isSome else true) with
  | false=>rw [h1] at h;cases h
  | true=>rw [h1] at h;by_cases hn:i=n;subst hn;rw [b] at h1;exact h1;exact ih h i (by omega) b
def orQ (o:Option (Option aW))(q:Option aW):Option aW:=Option.rec q (λx=>Option.rec q (λy=>some y) x) o
theorem afh {P:Program}{t:T (Option aW)}{M a b:Nat}(e:TOk P (λi=>i) t)(d:∀f,Nat.testBit M f=true->(Ri P (wK P f) f).isSome=true):∀f sf,orQ (t.get f) (fnQ P M a b f)=some sf->ql P f sf:=by
 intro f sf h;have c:fnQ P M a b f=some sf->ql P f sf:=λh=>by
  unfold fnQ at h;cases hb:Nat.testBit M f with
  | false=>rw [hb] at h;cases h
  | true=>rw [hb] at h;cases h;exact iJ (d f hb)
 cases ho:t.get f with
 | none=>rw [ho] at h;exact c h
 | some x=>
  rw [ho] at h;cases x with
  | none=>exact c h
  | some y=>cases h;exact e f _ ho
structure Weak (m1 m2:Mem):Prop where
 nx:m2.nx=m1.nx
 lim:m2.lim=m1.lim
 ok:T.Ok m2.t m2.nx
 old:∀i,i<m1.lim->m2.get i=m1.get i
 blk:∀i b,m2.get i=some b->∃b1,m1.get i=some b1∧(b=b1∨(b=.dead∧dO b1=false)∨
  ∃es es1,(b1=.map es1∨b1=.mapU es1)∧b=.mapU es∧es.Perm es1∧(∀e∈es,∃s,e.1=.str s)∧(es.map (·.1)).Nodup)
theorem Weak.void {m1 c:Mem}(h:Weak m1 c){i:Nat}{b b1:P9}(j:c.get i=some b)(f:m1.get i=some b1):dO b=dO b1:=by obtain⟨d,a,e⟩:=h.blk i b j;rw [f] at a;cases a;rcases e with rfl | ⟨rfl,g⟩ | ⟨es,es1,rfl | rfl,rfl,_⟩;rfl;rw [g];rfl;rfl;rfl
theorem Weak.live {m1 c:Mem}(h:Weak m1 c){i:Nat}{b:P9}(f:c.get i=some b)(a:U8 b=true):∃b1,m1.get i=some b1∧U8 b1=true:=by obtain⟨b1,d,e⟩:=h.blk i b f;refine⟨b1,d,?_⟩;rcases e with rfl | ⟨rfl,g⟩ | ⟨es,es1,rfl | rfl,rfl,_⟩;exact a;cases a;rfl;rfl
theorem Weak.get {m1 d:Mem}(h:Weak m1 d)(a:T.Ok m1.t m1.nx){i:Nat}{c:P9}(e:m1.get i=some c):∃b,d.get i=some b:=
 (h.ok.get i).2 (by rw [h.nx];exact (a.get i).1 ⟨c,e⟩)
theorem Weak.has {m1 f:Mem}(h:Weak m1 f)(c:T.Ok m1.t m1.nx)(i:Nat):f.has i↔m1.has i:=by constructor;rintro⟨b,a,hv⟩;obtain⟨d,e,_⟩:=h.blk i b a;exact⟨d,e,by rw [← h.void a e];exact hv⟩;rintro⟨d,h1,hv⟩;obtain⟨b,a⟩:=h.get c h1;exact⟨b,a,by rw [h.void a h1];exact hv⟩
theorem Weak.nm {m1 b:Mem}(h:Weak m1 b)(a:T.Ok m1.t m1.nx)(ι:K7):b.nm ι=m1.nm ι:=by unfold Mem.nm;congr 1;funext i;exact propext (h.has a i)
theorem yL (ι:K7):∀(es:List (o7×o7)) (i:Nat),(J5 ι es i).map (λx=>(x.key,x.val))=es.map λe=>(u6 ι e.1,u6 ι e.2)
 | [],_=>rfl
 | e::es,i=>by simp [J5,yL ι es (i+1)]
section
variable {P:Program}{G:Mem}{ι:K7}
theorem Weak.rm {m1 t:Mem}{h:Array Obj}(k:Weak m1 t)(a:RM P G ι m1 h):RM P G ι t h where
 ok:=k.ok
 blk i b hb:=by rw [k.nm a.ok];obtain⟨c,d,f⟩:=k.blk i b hb;have l:=a.blk i c d;rcases f with rfl | ⟨rfl,_⟩ | ⟨es,es1,hb1,rfl,hp,hs,hn⟩;exact l;trivial;have g:(es1.map λe=>(u6 ι e.1,u6 ι e.2)).Perm (es.map λe=>(u6 ι e.1,u6 ι e.2)):=(hp.map _).symm;rcases hb1 with rfl | rfl;exact⟨J5 ι es1 0,es1.length,l.1,⟨by rw [yL];exact g,hs,hn⟩,λe q=>l.2 e (hp.subset q)⟩;obtain⟨L,x,u,v,w⟩:=l;exact⟨L,x,u,⟨v.1.trans g,hs,hn⟩,λe q=>w e (hp.subset q)⟩
 own i b hi hb hl:=by
  obtain⟨c,d,f⟩:=k.live hb hl;obtain⟨y,z⟩:=a.own i c (by rw [← k.lim];exact hi) d f;exact⟨λj A s p r=>by
   obtain⟨m,n,o⟩:=k.live p r;exact y j m s n o,z⟩
 glim:=by rw [k.lim];exact a.glim
 limn:=by rw [k.lim,k.nx];exact a.limn
 gle:=a.gle
 base i hi:=(k.old i (J3 hi a.glim)).trans (a.base i hi)
 ghas i hi:=(k.has a.ok i).2 (a.ghas i hi)
 glob:=a.glob
 spot i b hb hl:=by obtain⟨c,d,f⟩:=k.live hb hl;exact a.spot i c d f
 gsz:=a.gsz
theorem Step.weak {ι':K7}{m m1 a:Mem}{w w':World}(h:Step P G ι m w ι' m1 w')(k:Weak m1 a):Step P G ι m w ι' a w' where
 rm:=k.rm h.rm
 ext:=h.ext
 has i hi:=(k.has h.rm.ok i).2 (h.has i hi)
 nx:=by rw [k.nx];exact h.nx
 lim:=k.lim.trans h.lim
 old i hi:=(k.old i (by rw [h.lim];exact hi)).trans (h.old i hi)
 size:=h.size
 frame:=h.frame
 own b:=by rintro⟨i,x,h1,h2,h3,h4⟩;obtain⟨c,d,e⟩:=k.live h2 h3;exact h.own b ⟨i,c,by rw [← k.lim];exact h1,d,e,h4⟩
 os:=h.os
 out:=h.out
 tape:=h.tape
theorem S9.weak {m:Mem}{w w':World}{a b:List VM}{e:Ending}(h:S9 P G ι m w a e w')(k:∀o∈a,∃o'∈b,o'.v=o.v∧Weak o.m o'.m):S9 P G ι m w b e w':=by rcases h with⟨v,he,r,hr,ι',hst,hlt,hv⟩ | ⟨r,hr,x,ι',hx,hst,hlt,he⟩;obtain⟨o',f,d,c⟩:=k r hr;exact .inl ⟨v,he,o',f,ι',hst.weak c,by rw [d,c.nm hst.rm.ok];exact hlt,by rw [d];exact hv⟩;obtain⟨o',f,d,c⟩:=k r hr;exact .inr ⟨o',f,x,ι',d.trans hx,hst.weak c,by rw [c.nm hst.rm.ok];exact hlt,he⟩
theorem Sj {K:Known}(j:Yt P K){c n:Nat}{f:FuncId}{args:List o7}{m:Mem}{a b:List VM}(h:r9 K c n (.func f) args m=some a)
  (k:∀o∈a,∃o'∈b,o'.v=o.v∧Weak o.m o'.m):
  Cn P f∧∀{ι:K7} {w:World},RM P K.base ι m w.heap->bB (m.nm ι) args->CallsIn Fence.wide 0 P f (z8 ι args).toArray w (S9 P K.base ι m w b):=by
 obtain⟨g,i⟩:=(Cy j c n).func h;exact⟨g,λp d=>(i p d).mono λe q l=>l.weak k⟩
theorem wL {K:Known}(b:Yt P K){f:FuncId}{sf:aW}(e:K.fns f=some sf){args:List o7}{m:Mem}{a:List VM}
  (h:T.Ok m.t m.nx->m.lim<=m.nx->∃fuel n outs1,r9 K fuel n (.func f) args m=some outs1∧∀o∈outs1,∃o'∈a,o'.v=o.v∧Weak o.m o'.m):
  Cn P f∧∀{ι:K7} {w:World},RM P K.base ι m w.heap->bB (m.nm ι) args->CallsIn Fence.wide 0 P f (z8 ι args).toArray w (S9 P K.base ι m w a):=by
 refine⟨(b.fns f sf e).ok,λ{ι w} hm hargs=>?_⟩;obtain⟨fuel,n,outs1,c,d⟩:=h hm.ok hm.limn;exact (Sj b c d).2 hm hargs
end
theorem PE {α β:Type}{f:α->Option (List β)}{g:β->Prop}:∀{l:List α},(∀r∈l,∃os,f r=some os∧∀o∈os,g o)->∃outs,Fx f l=some outs∧∀o∈outs,g o
 | [],_=>⟨[],rfl,λo ho=>by cases ho⟩
 | a::l,h=>by obtain⟨os,h1,h2⟩:=h a (ab1 ..);obtain⟨outs,h3,h4⟩:=PE (l:=l) λr hr=>h r (Z4 _ hr);refine⟨os++outs,by rw [ze,h1,h3];rfl,λo ho=>?_⟩;rcases aau.1 ho with ho | ho;exact h2 o ho;exact h4 o ho
theorem afi {α β:Type}{l:List α}{f:α->Option (List β)}{g:β->Prop}(h:∀r∈l,∃os,f r=some os∧∀o∈os,g o):∃outs,bnd (some l) f=some outs∧∀o∈outs,g o:=by
 match l,h with
 | [],_=>exact⟨[],rfl,λo c=>by cases c⟩
 | [a],h=>exact h a (aA.2 rfl)
 | a::b::t,h=>exact PE (l:=a::b::t) h
theorem dQ {α β:Type}{x:Option (List α)}{f:α->Option (List β)}{g1:α->Prop}{g:β->Prop}(c:∃l,x=some l∧∀r∈l,g1 r)(h:∀r,g1 r->∃os,f r=some os∧∀o∈os,g o):∃outs,bnd x f=some outs∧∀o∈outs,g o:=by obtain⟨l,rfl,a⟩:=c;exact afi λr b=>h r (a r b)
def V5 (n:Nat)(m:Mem):Mem:=Nat.rec (λm=>m) (λ_ ih m=>ih (m.new .dead)) n m
def ME (k:o7)(l:List (o7×o7)):Bool:=match k with
 | .str s=>List.rec true (λe _ ih=>match e.1 with
  | .str t=>bi (strEq s t) false ih
  | _=>false) l
 | _=>false
def strKeys (l:List (o7×o7)):Bool:=List.rec true (λe t ih=>bi (ME e.1 t) ih false) l
def MF (l:List (o7×o7)):Bool:=List.rec true (λe _ ih=>match e.2 with
 | .agg [a,b]=>bi (H6 a) (bi (H6 b) ih false) false
 | _=>false) l
def EL (args:List o7)(m:Mem):dU:=match args with
 | [.map d,.map s]=>bi (Nat.blt d m.lim) none (bi (Nat.beq d s) none (QW (m.get s) λes=>KT (m.get d) λds=>
   bi (strKeys (aJ ds es)) (bi (MF es) (bi (Nat.blt (len' es) 100000) (one (.tuple []) ((V5 (Nat.succ (len' es)) m).set d (.mapU (aJ ds es)))) none) none) none))
 | _=>none
def aN:List (Int×Int×List UInt8×Int):=
 [(5,3,[42],6),(5,3,[47],7),(5,3,[37],8),(4,3,[43],9),(4,3,[45],10),(3,3,[60],11),(3,3,[60,61],12),(3,3,[62],13),(3,3,[62,61],14),(3,3,[61,61],15),(3,3,[33,61],16),
  (1,1,[97,110,100],17),(0,1,[111,114],18)]
def nH (lv k:Int)(s:List UInt8):Option Int:=List.rec none (λe _ ih=>bi (bJ e.1 lv) (bi (bJ e.2.1 k) (bi (strEq e.2.2.1 s) (some e.2.2.2) ih) ih) ih) aN
def dD (args:List o7)(m:Mem):dU:=match args with
 | [.ptr r off,.int .i64 lv]=>P6 (m.get r) λrs n rows=>ob (cell1 rs n rows off) λv=>ob (lenOf v) λlen=>Nat.rec (lG v (one (.int .i64 0) (V5 2 m)) (λ_ _ _ _=>one (.int .i64 0) (V5 2 m)) (λ_ _ _ _=>one (.int .i64 0) (V5 2 m))) (λ_ _=>lG v none (λid o _ _=>tok id o v r off lv) (λid o _ _=>tok id o v r off lv)) len
 | _=>none
where
 tok (id o:Nat) (v:o7) (r off:Nat) (lv:Int):dU:=P6 (m.get id) λrs n rows=>ob (gK rs n rows o 2) λl=>match l with
  | [.int .i64 k,.str s]=>Option.rec (one (.int .i64 0) (V5 2 m)) (λkd=>ob (L9 (V5 2 m).nx 2 v 1 none) λp=>storeAt (dI (V5 2 m) p.2) r off [p.1] λm'=>one (.int .i64 kd) m') (nH lv k s)
  | _=>none
def aI (sep:List UInt8)(l:List (List UInt8)):List UInt8:=List.rec [] (λs t ih=>List.rec s (λ_ _ _=>aJ s (aJ sep ih)) t) l
def uo (l:List (List o7)):Option (List (List UInt8)):=List.rec (some []) (λr _ ih=>match r with
 | [.str s]=>ob ih λt=>some (s::t)
 | _=>none) l
def MG (c:UInt8)(s:List UInt8):Bool:=List.rec false (λb _ ih=>bi (Nat.beq b.toNat c.toNat) true ih) s
def GK (c:UInt8)(s:List UInt8):Int:=List.rec (Int.negSucc 0) (λb _ ih=>bi (Nat.beq b.toNat c.toNat) 0 (bi (bJ ih (Int.negSucc 0)) (Int.negSucc 0) (ih+1))) s
def GL (c:UInt8)(s:List UInt8):Nat:=List.rec 0 (λb _ ih=>bi (Nat.beq b.toNat c.toNat) (Nat.succ ih) ih) s
def YD (fi fn fj nx:Nat)(f:FuncId)(args:List o7)(bs:List NB):Option BX:=
 bi (Nat.beq f fi) (match args,bs with
  | [.str s,.str [c]],[]=>bi (Nat.blt (len' s) 1000000) (some ⟨.int .i64 (GK c s),[]⟩) none
  | _,_=>none)
 (bi (Nat.beq f fn) (match args,bs with
  | [.str s,.str [c]],[]=>bi (Nat.blt (len' s) 1000000) (some ⟨.int .i64 (.ofNat (GL c s)),[]⟩) none
  | _,_=>none)
 (bi (Nat.beq f fj) (match args,bs with
  | [v,.str sep],[.cells 1 rows]=>lG v none
    (λid off n c=>bi (Nat.beq id nx) (bi (Nat.ble n c) (bi (Nat.blt n 1000000) (ob (takeN n (kF off rows)) λl=>ob (uo l) λws=>bi (Nat.blt (len' (aI sep ws)) 1000000) (some ⟨.str (aI sep ws),[]⟩) none) none) none) none)
    (λid off n _=>bi (Nat.beq id nx) (bi (Nat.blt n 1000000) (ob (takeN n (kF off rows)) λl=>ob (uo l) λws=>bi (Nat.blt (len' (aI sep ws)) 1000000) (some ⟨.str (aI sep ws),[]⟩) none) none) none)
  | [.nilSlice,.str _],[]=>some ⟨.str [],[]⟩
  | _,_=>none) none))
set_option maxRecDepth 100000
set_option maxHeartbeats 1000000
def left (seen:List Nat):List (o7×o7)->Nat->List (Nat×(o7×o7))
 | [],_=>[]
 | e::es,i=>if tF i seen=true then left seen es (i+1) else (i,e)::left seen es (i+1)
theorem Kg (n x:Nat)(l:List Nat):tF n (x::l)=bi (Nat.beq x n) true (tF n l):=rfl
theorem VR (n:Nat)(l:List Nat):tF n (n::l)=true:=by rw [Kg,aaz];rfl
theorem EN {n x:Nat}(h:x≠n)(l:List Nat):tF n (x::l)=tF n l:=by
 rw [Kg,show Nat.beq x n=false from by
  cases hb:Nat.beq x n with
  | false=>rfl
  | true=>exact absurd (q9 hb) h];rfl
theorem left_skip (j:Nat)(seen:List Nat):∀(es:List (o7×o7)) (k:Nat),j<k->left (j::seen) es k=left seen es k
 | [],_,_=>rfl
 | e::es,k,h=>by simp only [left];rw [EN (by omega),left_skip j seen es (k+1) (by omega)]
theorem wM {seen:List Nat}:∀{es:List (o7×o7)} {i:Nat} {p:Nat×(o7×o7)},p∈left seen es i->i<=p.1∧es[p.1-i]?=some p.2∧tF p.1 seen=false
 | e::es,i,p,h=>by
  simp only [left] at h;have next:p∈left seen es (i+1)->i<=p.1∧(e::es)[p.1-i]?=some p.2∧tF p.1 seen=false:=λh=>by obtain⟨h1,h2,h3⟩:=wM h;refine⟨by omega,?_,h3⟩;rw [show p.1-i=(p.1-(i+1))+1 from by omega,abB];exact h2
  split at h;exact next h;rename_i hs;rcases Y4.1 h with rfl | h;exact⟨aP _,by simp,by simpa using hs⟩;exact next h
theorem sw {seen:List Nat}:∀{es:List (o7×o7)} {i:Nat} {p:Nat×(o7×o7)},p∈left seen es i->(left seen es i).Perm (p::left (p.1::seen) es i)
 | e::es,i,p,h=>by
  have hm:=wM h;simp only [left] at h ⊢;by_cases hs:tF i seen=true;rw [if_pos hs] at h ⊢;have hne:p.1≠i:=λe=>by rw [e,hs] at hm;cases hm.2.2
  rw [EN hne,if_pos hs];exact sw h
  ·rw [if_neg hs] at h ⊢;rcases Y4.1 h with rfl | h;rw [VR,if_pos rfl,left_skip _ _ _ _ (al6 _)]
   ·have:=(wM h).1;rw [EN (by omega),if_neg hs];exact ((sw h).cons _).trans (List.Perm.swap ..)
theorem PG (es:List (o7×o7)):∀i,(left [] es i).map (·.2)=es:=by
 induction es with
 | nil=>intro i;rfl
 | cons e es ih=>intro i;simp [left,ih,tF]
theorem GN (es:List (o7×o7)):∀i,(left [] es i).length=es.length:=λi=>by have:=congrArg List.length (PG es i);simpa using this
theorem GQ (m:Mem)(id mp since:Nat)(seen:List Nat):∀(es:List (o7×o7)) (i:Nat),
  nexts m id mp since seen es i=(left seen es i).map λp=>⟨.tuple [.bool true,p.2.1,p.2.2],m.set id (.iter (some mp) since (p.1::seen))⟩
 | [],_=>rfl
 | e::es,i=>by have h:nexts m id mp since seen (e::es) i=bi (tF i seen) (nexts m id mp since seen es (i+1)) (⟨.tuple [.bool true,e.1,e.2],m.set id (.iter (some mp) since (i::seen))⟩::nexts m id mp since seen es (i+1)):=rfl;rw [h,GQ m id mp since seen es (i+1)];simp only [left];cases tF i seen<;>rfl
theorem PI {it:OF}{cf:F8}{ls:List o7}{env:T o7}{m:Mem}{i s:Nat}{a:List Nat}{es:List (o7×o7)}(h:it ls env=.ptr i 0)(c:m.lim<=i)
  (hi:m.get i=some (.iter (some s) es.length a)) (hs:m.get s=some (.map es)):
  ∃l,Di it cf ls env m=some l∧∀r∈l,(left a es 0=[]∧r=⟨.tuple [.bool false],m⟩)∨∃p∈left a es 0,r=⟨.tuple [.bool true,p.2.1,p.2.2],m.set i (.iter (some s) es.length (p.1::a))⟩:=by
 have e:Di it cf ls env m=some (La m (nexts m i s es.length a es 0)):=by
  show iM (it ls env) _=_;rw [h];show bi (Nat.beq 0 0) (bi (Nat.blt i m.lim) none _) none=_;rw [show Nat.blt i m.lim=false from by
   cases hb:Nat.blt i m.lim with
   | false=>rfl
   | true=>have:=Y3.mp hb;omega]
  show Jq (m.get i) _ _=_;rw [hi];show QW (m.get s) _=_;rw [hs];show bi (Nat.beq (len' es) es.length) _ _=_;rw [I9,aaz];rfl
 refine⟨_,e,λr b=>?_⟩;rw [GQ] at b;match c:left a es 0 with
 | []=>rw [c] at b;exact .inl ⟨rfl,aA.1 b⟩
 | q::t=>rw [c] at b;have b:r∈(q::t).map λp=>(⟨.tuple [.bool true,p.2.1,p.2.2],m.set i (.iter (some s) es.length (p.1::a))⟩:VM):=b;obtain⟨p,d,f⟩:=adP.1 b;exact .inr ⟨p,d,f.symm⟩
theorem Kh {it:OF}{ls:List o7}{env:T o7}{m:Mem}{i s j:Nat}{a:List Nat}{es:List (o7×o7)}{e:o7×o7}(h:it ls env=.ptr i 0)
  (hi:m.get i=some (.iter (some s) es.length (j::a))) (hs:m.get s=some (.map es)) (b:es[j]?=some e):tq it ls env m=some (.tuple [e.1,e.2]):=by
 show iM (it ls env) _=_;rw [h];show bi (Nat.beq 0 0) (Jq (m.get i) none _) none=_;rw [hi];show QW (m.get s) _=_;rw [hs];show bi (Nat.beq (len' es) es.length) (ob (nO j es) _) _=_;rw [I9,aaz,jN,b];rfl
theorem DT (k:List UInt8):∀(es:List (o7×o7)) (i:Nat),(∀e∈es,∃s,e.1=.str s∧s≠k)->findKey eqStr (.str k) es i=some none
 | [],_,_=>rfl
 | e::es,i,h=>by obtain⟨s,h1,h2⟩:=h e (ab1 ..);show ob (eqStr (.str k) e.1) _=_;rw [h1];show bi (strEq k s) _ _=_;rw [iT,beq_eq_false_iff_ne.2 (ahE h2)];exact DT k es (i+1) λe he=>h e (Z4 _ he)
theorem MH (k:List UInt8)(es:List (o7×o7))(h:∀e∈es,∃s,e.1=.str s∧s≠k):V9 eqStr 1 (.str k) es=some none:=by
 cases es with
 | nil=>rw [Mr];rfl
 | cons e es=>rw [Jj];exact DT k (e::es) 0 h
theorem PL {k:o7}{l:List (o7×o7)}(h:ME k l=true):∃s,k=.str s∧∀e∈l,∃t,e.1=.str t∧s≠t:=by
 cases k with
 | str s=>
  refine⟨s,rfl,?_⟩;induction l with
  | nil=>intro e a;cases a
  | cons x l ih=>
   obtain⟨b,c⟩:=x;intro e a;cases b with
   | str t=>have h:bi (strEq s t) false (ME (.str s) l)=true:=h;rw [iT] at h;by_cases hst:s=t;rw [beq_iff_eq.2 hst] at h;cases h;rw [beq_eq_false_iff_ne.2 hst] at h;rcases Y4.1 a with rfl | a;exact⟨t,rfl,hst⟩;exact ih h e a
   | _=>cases h
 | _=>cases h
theorem AY:∀{l:List (o7×o7)},strKeys l=true->(∀e∈l,∃s,e.1=.str s)∧(l.map (·.1)).Nodup
 | [],_=>⟨λe he=>(by cases he),List.nodup_nil⟩
 | x::l,h=>by obtain⟨h1,h2⟩:=dX (show bi (ME x.1 l) (strKeys l) false=true from h);obtain⟨s,hs,hl⟩:=PL h1;obtain⟨g1,g2⟩:=AY h2;refine⟨λe he=>?_,?_⟩;rcases Y4.1 he with rfl | he;exact⟨s,hs⟩;exact g1 e he;rw [Z5];refine ad1.2 ⟨λhm=>?_,g2⟩;obtain⟨e,he,hk⟩:=adP.1 hm;obtain⟨t,ht,hne⟩:=hl e he;rw [hs] at hk;rw [ht] at hk;cases hk;exact hne rfl
theorem Ki:∀{l:List (o7×o7)},MF l=true->∀e∈l,∃a b,e.2=.agg [a,b]∧H6 a=true∧H6 b=true
 | (k,.agg [a,b])::l,h,e,he=>by obtain⟨h1,h2⟩:=dX (show bi (H6 a) (bi (H6 b) (MF l) false) false=true from h);obtain⟨h2,h3⟩:=dX h2;rcases Y4.1 he with rfl | he;exact⟨a,b,rfl,h1,h2⟩;exact Ki h3 e he
def CK:SC:=o8 (p8 (D9 (Di (K3 (gL gH))) (K5 (pExt G8 0) (sR sH) u7))) (o8 (C9 (K3 (gR gH)) F9 (oM 0)) (H8 1 (o8 (p8 (I5 (tq (K3 (gL gH))) (p9 (pExt G8 0) (p9 (pExt dx 1)
 (oK (jv [(.int .i64 (.ofNat 0)),.nilFunc]) (sL (sR sH)) (K5 (Q5 dV) (sR (sL sH)) (D9 (L8 2 dx dV) u7))))))) (p8 (I5 (bX 2 (K3 (gL (gR gH)))) (D9 (T9 eqStr 1 (K3 (gL (gL gH))) (K3 (gR (gL gH))) G8) u7))))))
def YE:aW:=⟨false,[(some 3),(some 0)],6,[],(o8 (p8 (EA (oJ (K3 gH)) (sL sH) u7)) (H8 0 (ak CK))),none⟩
def pK (s it d b k p:o7):T o7:=.nd (.nd (.nd .e d .e) it (.nd .e p .e)) s (.nd (.nd .e k .e) b .e)
def mkB (u:Bool)(l:List (o7×o7)):P9:=match u with
 | false=>.map l
 | true=>.mapU l
structure TU (m0:Mem)(d s it:Nat)(u:Bool)(es:List (o7×o7))(m:Mem)(seen:List Nat)(cur:List (o7×o7)):Prop where
 ok:m.Ok
 lim:m.lim=m0.lim
 dl:m0.lim<=d
 dn:d<m0.nx
 ds:d≠s
 sn:s<m0.nx
 itn:it=m0.nx
 mn:m0.nx<m.nx
 gs:m.get s=some (.map es)
 gi:m.get it=some (.iter (some s) es.length seen)
 gd:m.get d=some (mkB u cur)
 old:∀i,i<m0.nx->i≠d->m.get i=m0.get i
 new:∀i,m0.nx<=i->∀b,m.get i=some b->dO b=false
 len:m.nx+(left seen es 0).length=m0.nx+1+es.length
structure YF (m0:Mem)(d:Nat)(u:Bool)(all:List (o7×o7))(n:Nat)(m:Mem):Prop where
 ok:m.Ok
 lim:m.lim=m0.lim
 nx:m.nx=m0.nx+1+n
 gd:∃l,m.get d=some (mkB u l)∧all.Perm l
 old:∀i,i<m0.nx->i≠d->m.get i=m0.get i
 new:∀i,m0.nx<=i->∀b,m.get i=some b->dO b=false
theorem YG {a b:Nat}(h:b<=a):Nat.blt a b=false:=by
 cases hb:Nat.blt a b with
 | false=>rfl
 | true=>have:=Y3.mp hb;omega
theorem PN {C:Mem}{d s it:Nat}{u:Bool}{es:List (o7×o7)}{m:Mem}{f:List Nat}{g:List (o7×o7)}(h:TU C d s it u es m f g)(I:C.lim<=C.nx)(h2:∀e∈es,∃a b,e.2=.agg [a,b]∧H6 a=true∧H6 b=true)
  (R:(∀e∈g++(left f es 0).map (·.2),∃t,e.1=.str t)∧((g++(left f es 0).map (·.2)).map (·.1)).Nodup) (cf:F8) (fu:Nat) (b k p:o7):
  ∃outs,CK cf fu none (pK (.map s) (.ptr it 0) (.map d) b k p) m []=some outs∧∀o∈outs,
   (left f es 0=[]∧∃env,o=⟨.exit 0,env,m,[],none⟩)∨
   ∃q∈left f es 0,∃m' b' k' p',o=⟨.normal,pK (.map s) (.ptr it 0) (.map d) b' k' p',m',[],none⟩∧TU C d s it u es m' (q.1::f) (g ++ [q.2]):=by
 unfold CK;rw [wG,AQ];refine dQ (g1:=λo:Out=>(left f es 0=[]∧o=⟨.normal,pK (.map s) (.ptr it 0) (.map d) (.bool false) k p,m,[],none⟩)∨
  ∃q∈left f es 0,o=⟨.normal,pK (.map s) (.ptr it 0) (.map d) (.bool true) k p,m.set it (.iter (some s) es.length (q.1::f)),[],none⟩) ?_ ?_
 refine dQ (g1:=λe:EM=>(left f es 0=[]∧e=⟨pK (.map s) (.ptr it 0) (.map d) (.bool false) k p,m,none,[]⟩)∨
  ∃q∈left f es 0,e=⟨pK (.map s) (.ptr it 0) (.map d) (.bool true) k p,m.set it (.iter (some s) es.length (q.1::f)),none,[]⟩) ?_ ?_
 rw [Mj];refine dQ (PI (it:=K3 (gL gH)) (env:=pK (.map s) (.ptr it 0) (.map d) b k p) rfl (by rw [h.lim,h.itn];exact I) h.gi h.gs) ?_;rintro r (⟨h1,rfl⟩ | ⟨q,h1,rfl⟩);exact⟨_,rfl,λo n=>.inl ⟨h1,aA.1 n⟩⟩;exact⟨_,rfl,λo n=>.inr ⟨q,h1,aA.1 n⟩⟩;rintro e (⟨h1,rfl⟩ | ⟨q,h1,rfl⟩);exact⟨_,rfl,λo n=>.inl ⟨h1,aA.1 n⟩⟩;exact⟨_,rfl,λo n=>.inr ⟨q,h1,aA.1 n⟩⟩;rintro o (⟨h1,rfl⟩ | ⟨q,h1,rfl⟩);exact⟨_,rfl,λo n=>.inl ⟨h1,_,aA.1 n⟩⟩;obtain⟨_,B,a1⟩:=wM h1;rw [amc] at B;have V:q.2∈es:=Xb B;obtain⟨x,y,O,Z,a0⟩:=h2 q.2 V;have hp:=sw h1;have U:(g++(left f es 0).map (·.2)).Perm (g++q.2::(left (q.1::f) es 0).map (·.2)):=(hp.map _).append_left _;have J:q.2∈g++(left f es 0).map (·.2):=adM _ (ahw h1);obtain⟨t,Y⟩:=R.1 q.2 J;have l:V9 eqStr 1 (.str t) g=some none:=MH t g λe P=>by obtain⟨t',N⟩:=R.1 e (ac1 _ P);refine⟨t',N,λe'=>?_⟩;have hn:((g++q.2::(left (q.1::f) es 0).map (·.2)).map (·.1)).Nodup:=(U.map _).nodup R.2;rw [adJ,List.nodup_append] at hn;exact hn.2.2 _ (ahw P) _ (by rw [Z5];exact ab1 ..) (by rw [N,Y,e'])
 have A:it<m.nx:=by rw [h.itn];exact h.mn
 have L:s≠it:=by rw [h.itn];exact aiV h.sn
 have E:d≠it:=by rw [h.itn];exact aiV h.dn
 have W:s<m.nx:=Nat.lt_trans h.sn h.mn;have F:d<m.nx:=Nat.lt_trans h.dn h.mn;generalize hM:m.set it (.iter (some s) es.length (q.1::f))=M;have Mok:M.Ok:=by rw [← hM];exact Mem.Ok.set h.ok A _
 have Mn:M.nx=m.nx:=by rw [← hM];rfl
 have Ml:M.lim=C.lim:=by rw [← hM];exact h.lim
 have Mg:∀i,M.get i=if i=it then some (.iter (some s) es.length (q.1::f)) else m.get i:=λi=>by rw [← hM,Mem.aB h.ok A]
 have Ms:M.get s=some (.map es):=by rw [Mg,if_neg L];exact h.gs
 have Mi:M.get it=some (.iter (some s) es.length (q.1::f)):=by rw [Mg,if_pos rfl]
 have Md:M.get d=some (mkB u g):=by rw [Mg,if_neg E];exact h.gd
 have G:∀(env:T o7),gL gH env=.ptr it 0->tq (K3 (gL gH)) [] env M=some (.tuple [q.2.1,q.2.2]):=λenv P=>Kh (it:=K3 (gL gH)) P Mi Ms B;have Mlim:M.lim<=M.nx:=by rw [Ml,Mn];exact gI I (ahs h.mn)
 have g1:(M.new (o9 [x,y])).get d=some (mkB u g):=by rw [Mem.K6 Mok,if_neg (by rw [Mn];exact aiV F)];exact Md
 have K:∀(env:T o7) (ls:List o7),env=pK (.map s) (.ptr it 0) (.map d) (.bool true) (.str t) (.ptr M.nx 0)->ls=[.agg [x,y]]->
   T9 eqStr 1 (K3 (gL (gL gH))) (K3 (gR (gL gH))) G8 cf ls env (M.new (o9 [x,y]))=some [⟨.undef,(M.new (o9 [x,y])).set d (mkB u (g ++ [(.str t,.agg [x,y])]))⟩]:=by
  rintro env ls rfl rfl;rw [GJ];show bi (Nat.blt d M.lim) none (ob (msB ((M.new (o9 [x,y])).get d) eqStr 1 (.str t) (.agg [x,y])) _)=_;rw [YG (by rw [Ml];exact h.dl),g1];cases u with
  | false=>show ob (ob (V9 eqStr 1 (.str t) g) _) _=_;rw [l];rfl
  | true=>show ob (ob (V9 eqStr 1 (.str t) g) _) _=_;rw [l];rfl
 refine⟨[⟨.normal,pK (.map s) (.ptr it 0) (.map d) (.bool true) (.str t) (.ptr M.nx 0),(M.new (o9 [x,y])).set d (mkB u (g ++ [(.str t,.agg [x,y])])),[],none⟩],?_,λo n=>.inr ⟨q,h1,_,_,_,_,aA.1 n,?_⟩⟩;have X:∀(env:T o7) (c:o7),L8 2 dx dV cf [.str t,.ptr M.nx 0,.agg [x,y],.str t,.tuple [.str t,.agg [x,y]]] env (M.new (o9 [c,.nilFunc]))=some [⟨.undef,M.new (o9 [x,y])⟩]:=λenv c=>by show storeAt (M.new (o9 [c,.nilFunc])) M.nx 0 [x,y] (λm'=>one .undef m')=_;rw [mh (m:=M.new (o9 [c,.nilFunc])) Mlim (by show bi (H6 x) (bi (H6 y) true false) false=true;rw [Z,a0];rfl),Mem.K6 Mok,if_pos rfl,iY (by simp) (by simp),O0,Mem.EK Mok];rfl
 have j:=G (pK (.map s) (.ptr it 0) (.map d) (.bool true) k p) rfl;have v:=K _ _ rfl rfl;have S:AO ((M.new (o9 [x,y])).get M.nx) 0 2=some (.agg [x,y]):=by rw [Mem.K6 Mok,if_pos rfl,eX (by simp) (by simp)];rfl
 rw [Y,O] at j;simp only [pK] at j v ⊢;simp [j,X,v,S,jv];have hq:q.2=(.str t,.agg [x,y]):=by rw [← Y,← O]
 rw [← hq];have Nok:(M.new (o9 [x,y])).Ok:=Mem.Ok.new Mok _;have z:d<(M.new (o9 [x,y])).nx:=by show d<M.nx+1;rw [Mn];exact Nat.lt_succ_of_lt F
 have D:∀i,((M.new (o9 [x,y])).set d (mkB u (g ++ [q.2]))).get i=if i=d then some (mkB u (g ++ [q.2])) else if i=M.nx then some (o9 [x,y]) else if i=it then some (.iter (some s) es.length (q.1::f)) else m.get i:=λi=>by rw [Mem.aB Nok z,Mem.K6 Mok,Mg]
 exact {
  ok:=Mem.Ok.set Nok z _
  lim:=Ml
  dl:=h.dl
  dn:=h.dn
  ds:=h.ds
  sn:=h.sn
  itn:=h.itn
  mn:=by show C.nx<M.nx+1;rw [Mn];exact Nat.lt_succ_of_lt h.mn
  gs:=by rw [D,if_neg (ahE h.ds),if_neg (by rw [Mn];exact aiV W),if_neg L];exact h.gs
  gi:=by rw [D,if_neg (ahE E),if_neg (by rw [Mn];exact aiV A),if_pos rfl]
  gd:=by rw [D,if_pos rfl]
  old:=λi Q H=>by rw [D,if_neg H,if_neg (by rw [Mn];have:=h.mn;omega),if_neg (by rw [h.itn];omega)];exact h.old i Q H
  new:=λi Q b' w=>by
   rw [D] at w;split at w;cases w;cases u<;>rfl
   split at w;cases w;rfl;split at w;cases w;rfl;exact h.new i Q b' w
  len:=by
   have:=h.len;have hl:=hp.length_eq;rw [J6] at hl;show M.nx+1 + _=_;rw [Mn];omega}
theorem abt {r:Mem}{d s it:Nat}{u:Bool}{es:List (o7×o7)}(i:r.lim<=r.nx)(w:∀e∈es,∃a b,e.2=.agg [a,b]∧H6 a=true∧H6 b=true)(cf:F8)(fu:Nat){all:List (o7×o7)}
  (l:(∀e∈all,∃t,e.1=.str t)∧(all.map (·.1)).Nodup):
  ∀(n:Nat) (m:Mem) (seen:List Nat) (cur:List (o7×o7)) (b k p:o7),TU r d s it u es m seen cur->(left seen es 0).length=n->all.Perm (cur++(left seen es 0).map (·.2))->∀N,n<N->
   ∃outs,K8 (λenv m k=>CK cf fu none env m k) N (pK (.map s) (.ptr it 0) (.map d) b k p) m []=some outs∧∀o∈outs,∃env m',o=⟨.exit 0,env,m',[],none⟩∧YF r d u all es.length m':=by
 intro n;induction n with
 | zero=>intro m seen cur b k p h g f N x;obtain⟨N,rfl⟩:∃N',N=N'+1:=⟨N-1,by omega⟩;have c:left seen es 0=[]:=Z8.1 g;rw [A8];refine dQ (PN h i w ⟨λe v=>l.1 e (f.symm.subset v),(f.map _).nodup l.2⟩ cf fu b k p) ?_;rintro o (⟨_,env,rfl⟩ | ⟨q,hq,_⟩);refine⟨_,rfl,λo y=>?_⟩;obtain rfl:=aA.1 y;refine⟨env,m,rfl,h.ok,h.lim,?_,⟨cur,h.gd,by rw [c] at f;simpa using f⟩,h.old,h.new⟩;have:=h.len;rw [g] at this;exact this;rw [c] at hq;cases hq
 | succ n ih=>intro m seen cur b k p h g f N x;obtain⟨N,rfl⟩:∃N',N=N'+1:=⟨N-1,by omega⟩;rw [A8];refine dQ (PN h i w ⟨λe v=>l.1 e (f.symm.subset v),(f.map _).nodup l.2⟩ cf fu b k p) ?_;rintro o (⟨c,_⟩ | ⟨q,hq,m',b',k',p',rfl,h'⟩);rw [c] at g;cases g;rw [AR];have j:=sw hq;refine ih m' (q.1::seen) (cur ++ [q.2]) b' k' p' h' ?_ ?_ N (by omega);have:=j.length_eq;rw [g,J6] at this;omega;refine f.trans (((j.map _).append_left cur).trans ?_);rw [aao];exact List.Perm.refl _
theorem zw (n:Nat)(m:Mem):(V5 n m).nx=m.nx+n∧(V5 n m).lim=m.lim:=by
 induction n generalizing m with
 | zero=>exact⟨rfl,rfl⟩
 | succ n ih=>have:V5 (n+1) m=V5 n (m.new .dead):=rfl;rw [this];obtain⟨a,b⟩:=ih (m.new .dead);exact⟨by rw [a];show m.nx+1+n=_;omega,b⟩
theorem CQ (n:Nat){m:Mem}(a:m.Ok):(V5 n m).Ok∧∀i,(V5 n m).get i=if m.nx<=i∧i<m.nx+n then some .dead else m.get i:=by
 induction n generalizing m with
 | zero=>exact⟨a,λi=>by rw [if_neg (by omega)];rfl⟩
 | succ n ih=>have:V5 (n+1) m=V5 n (m.new .dead):=rfl;rw [this];obtain⟨b,c⟩:=ih (Mem.Ok.new a .dead);refine⟨b,λi=>?_⟩;rw [c,Mem.K6 a];show (if m.nx+1<=i∧i<m.nx+1+n then _ else if i=m.nx then some P9.dead else m.get i)=_;by_cases h:i=m.nx;rw [if_neg (by omega),if_pos h,if_pos (by omega)];by_cases h':m.nx+1<=i∧i<m.nx+1+n;rw [if_pos h',if_pos (by omega)];rw [if_neg h',if_neg h,if_neg (by omega)]
theorem YH {P:Program}{K:Known}(hK:Yt P K){f:FuncId}(V:K.fns f=some YE)(he:∀args m,K.eff f args m=none){args:List o7}{m:Mem}{outs:List VM}(h:EL args m=some outs):
  Cn P f∧∀{ι:K7} {w:World},RM P K.base ι m w.heap->bB (m.nm ι) args->CallsIn Fence.wide 0 P f (z8 ι args).toArray w (S9 P K.base ι m w outs):=by
 obtain⟨d,s,rfl⟩:∃d s,args=[.map d,.map s]:=by unfold EL at h;split at h;exact⟨_,_,rfl⟩;cases h
 have h:bi (Nat.blt d m.lim) none (bi (Nat.beq d s) none (QW (m.get s) λa=>KT (m.get d) λds=>bi (strKeys (aJ ds a)) (bi (MF a) (bi (Nat.blt (len' a) 100000) (one (.tuple []) ((V5 (Nat.succ (len' a)) m).set d (.mapU (aJ ds a)))) none) none) none))=some outs:=h;obtain⟨O,h⟩:=kJ h;obtain⟨Q,h⟩:=kJ h;obtain⟨a,x,h⟩:=Ce h;obtain⟨ds,v,h⟩:=EH h;obtain⟨R,h⟩:=D8 h;obtain⟨X,h⟩:=D8 h;obtain⟨_,h⟩:=D8 h;cases h;rw [P8] at R ⊢;rw [I9];have C:=AY R;have h2:=Ki X;have A:d≠s:=λe=>by rw [e,aaz] at Q;cases Q
 have y:m.lim<=d:=adN λhh=>by rw [show Nat.blt d m.lim=true from Y3▸hh] at O;cases O
 obtain⟨u,W⟩:∃u,m.get d=some (mkB u ds):=by rcases v with v | v;exact⟨false,v⟩;exact⟨true,v⟩
 refine wL hK V λg F=>?_;have g:m.Ok:=g;have I:=Mem.I8 g x;have z:=Mem.I8 g W;have g1:∀i,(m.new (.iter (some s) a.length [])).get i=if i=m.nx then some (.iter (some s) a.length []) else m.get i:=λi=>Mem.K6 g _ i
 have J:TU m d s m.nx u a (m.new (.iter (some s) a.length [])) [] ds:={
  ok:=Mem.Ok.new g _
  lim:=rfl
  dl:=y
  dn:=z
  ds:=A
  sn:=I
  itn:=rfl
  mn:=al6 _
  gs:=by rw [g1,if_neg (by omega)];exact x
  gi:=by rw [g1,if_pos rfl]
  gd:=by rw [g1,if_neg (by omega)];exact W
  old:=λi B _=>by rw [g1,if_neg (by omega)]
  new:=λi B b n=>by rw [g1] at n;split at n;cases n;rfl;have:=Mem.I8 g n;omega
  len:=by show m.nx+1 + _=_;rw [GN]}
 obtain⟨outs,G,H⟩:=abt (all:=ds++a) F h2 (r9 K (a.length+1) 0) (a.length+1) C a.length _ [] ds .undef .undef .undef J (GN a 0) (by rw [PG]) (a.length+1) (al6 _);have L:∃l,r9 K (a.length+1) 1 (.func f) [.map d,.map s] m=some l∧∀r∈l,∃m',r=⟨.tuple [],m'⟩∧YF m d u (ds++a) a.length m':=by
  rw [eT];show ∃l,(Option.rec (ob (K.fns f) λM=>bi M.pure (jD K (r9 K (a.length+1) 0) (a.length+1) f M [.map d,.map s] m) (mU (r9 K (a.length+1) 0) (qz K (r9 K (a.length+1) 0) (a.length+1)) (a.length+1) M [.map d,.map s] m)) (λl=>some l) (K.eff f [.map d,.map s] m):dU)=some l∧_;rw [he,V];show ∃l,bnd (o8 (p8 (EA (oJ (K3 gH)) (sL sH) u7)) (H8 0 (ak CK)) (r9 K (a.length+1) 0) (a.length+1) none (pK (.map s) .undef (.map d) .undef .undef .undef) m []) (leave _ [])=some l∧_;refine dQ (g1:=λo:Out=>∃j m',o=⟨.normal,j,m',[],none⟩∧YF m d u (ds++a) a.length m') ?_ ?_;rw [wG,AQ,aeU];have t:oJ (K3 gH) (r9 K (a.length+1) 0) [] (pK (.map s) .undef (.map d) .undef .undef .undef) m=some [⟨.ptr m.nx 0,m.new (.iter (some s) a.length [])⟩]:=by show QW (m.get s) _=_;rw [x];show one _ (m.new (.iter (some s) (len' a) []))=_;rw [I9];rfl
  rw [t];show ∃l,bnd (K8 (λj m k=>CK (r9 K (a.length+1) 0) (a.length+1) none j m k) (a.length+1) (pK (.map s) (.ptr m.nx 0) (.map d) .undef .undef .undef) (m.new (.iter (some s) a.length [])) []) (VH 0)=some l∧_;refine dQ ⟨outs,G,H⟩ ?_;rintro o ⟨j,m',rfl,c⟩;exact⟨_,rfl,λr t=>by
   obtain rfl:=aA.1 t;exact⟨j,m',rfl,c⟩⟩
  rintro o ⟨j,m',rfl,c⟩;exact⟨_,rfl,λr t=>by
   obtain rfl:=aA.1 t;exact⟨m',rfl,c⟩⟩
 obtain⟨l,D,E⟩:=L;refine⟨_,_,l,D,λo ho=>?_⟩;obtain⟨m',rfl,c⟩:=E o ho;refine⟨_,aA.2 rfl,rfl,?_⟩;obtain⟨S,Y⟩:=zw (a.length+1) m;obtain⟨T,Z⟩:=CQ (a.length+1) g;have p:d<(V5 (a.length+1) m).nx:=by rw [S];omega
 have U:∀i,((V5 (a.length+1) m).set d (.mapU (ds++a))).get i=if i=d then some (.mapU (ds++a)) else if m.nx<=i∧i<m.nx+(a.length+1) then some .dead else m.get i:=λi=>by rw [Mem.aB T p,Z]
 exact {
  nx:=by show (V5 (a.length+1) m).nx=m'.nx;rw [S,c.nx];omega
  lim:=by show (V5 (a.length+1) m).lim=m'.lim;rw [Y,c.lim]
  ok:=Mem.Ok.set T p _
  old:=λi B=>by rw [c.lim] at B;rw [U,if_neg (by omega),if_neg (by omega),c.old i (by omega) (by omega)]
  blk:=λi b n=>by
   rw [U] at n;split at n;rename_i q;subst q;cases n;obtain⟨l',g1,g2⟩:=c.gd;refine⟨_,g1,.inr (.inr ⟨ds++a,l',?_,rfl,g2,C.1,C.2⟩)⟩;cases u;exact .inl rfl;exact .inr rfl;rename_i q;split at n;rename_i t;cases n;obtain⟨N,g1⟩:=(c.ok.get i).2 (by rw [c.nx];omega);exact⟨N,g1,.inr (.inl ⟨rfl,c.new i t.1 N g1⟩)⟩;have:=Mem.I8 g n;exact⟨b,by rw [c.old i this q];exact n,.inl rfl⟩}
def aO:List (o7×o7):=aN.map λe=>(.int .i64 e.2.2.2,.str e.2.2.1)
def VT (tok:Option (Int×List UInt8))(e:Int×Int×List UInt8×Int):Bool:=match tok with
 | some (k,s)=>decide (e.2.1=k)&&(e.2.2.1==s)
 | none=>false
def jA (lv:Int)(tok:Option (Int×List UInt8))(e:Int×Int×List UInt8×Int):Bool:=decide (e.1=lv)&&VT tok e
def CR (fl fa:Nat):SC:=o8 (p8 (D9 (Di (K3 gH)) (K5 (pExt G8 0) (sL sH) u7))) (o8 (C9 (K3 (gL gH)) F9 (oM 0)) (H8 1 (o8 (p8 (I5 (tq (K3 gH)) (p9 (pExt G8 0) (p9 (pExt dx 1) (K5 (Q5 dx) (sR sH) (K5 (Q5 dx) (sL (sR sH)) u7))))))
 (o8 (p8 (D9 (E9 fl [(K3 (gR gH))]) (p9 (O8 iO iP G8 (K3 (gL (gL gH)))) (p9 (gP G8 true (Q5 (K3 (gR (gL gH))))) (p9 (gP dx true (Q5 (K3 (gL (gR gH))))) (D9 (gE dV true (E9 fa [dx,G8])) (K5 (gy vo G8 (G6 (.bool false))) (sR (sR sH)) u7)))))))
  (C9 (K3 (gR (gR gH))) (o8 (p8 (p9 (bV (K3 (gR (gL gH)))) (p9 (N9 0 G8) (I5 (qP G8) (kZ (lSl 2 G8 (some (G6 (.int .i64 (.ofNat 1)))) none) (p9 (bV (K3 (gR (gL gH)))) (p9 (N9 0 G8) (D9 (L8 1 G8 dV) u7))))))))
   (o8 (p8 (K5 (Q5 (K3 (gR gH))) (sL (sL (sL sH))) u7)) G7)) F9)))))
def MI (fs fl fa:Nat):aW:=⟨false,[(some 4),(some 3)],8,[.tmp 7],(o8 (p8 (K5 (Q5 (G6 (.int .i64 (.ofNat 0)))) (sL (sL (sL sH))) u7)) (o8 (o8 (p8 (D9 (E9 fs []) (EA (oJ G8) sH u7))) (H8 0 (ak (CR fl fa))))
 (o8 (p8 (K5 (Q5 (G6 (.int .i64 (.ofNat 0)))) (sL (sL (sL sH))) u7)) G7))),none⟩
def fD (it b kd lv r sg cd res:o7):T o7:=.nd (.nd (.nd (.nd .e res .e) lv .e) b (.nd .e sg .e)) it (.nd (.nd .e r .e) kd (.nd .e cd .e))
structure wN (m0 m:Mem)(seen:List Nat):Prop where
 ok:m.Ok
 lim:m.lim=m0.lim
 ll:m0.lim<=m0.nx
 mn:m.nx=m0.nx+2
 gs:m.get m0.nx=some (.map aO)
 gi:m.get (m0.nx+1)=some (.iter (some m0.nx) aO.length seen)
 old:∀i,i<m0.nx->m.get i=m0.get i
theorem abu {j:Nat}{x:o7×o7}(h:aO[j]?=some x):∃e∈aN,aN[j]?=some e∧x=(.int .i64 e.2.2.2,.str e.2.2.1):=by unfold aO at h;rw [aaB] at h;obtain⟨e,a,b⟩:=abr.1 h;exact⟨e,Xb a,a,b.symm⟩
theorem PO {c m:Mem}{a:List Nat}(h:wN c m a){r off Q P:Nat}{lv:Int}{k:Option (Int×List UInt8)}{cf:F8}{v v':o7}{p:Option P9}{B:P9}
  (S:∀e∈aN,∀M,cf (.func Q) [.int .i64 e.2.2.2] M=some [⟨.int .i64 e.1,M⟩])
  (R:∀e∈aN,∀M:Mem,(∀i,i<c.nx->M.get i=c.get i)->cf (.func P) [.ptr r off,.str e.2.2.1] M=some [⟨.bool (VT k e),M⟩])
  (J:ld1 (c.get r) off=some v) (X:r<c.nx)
  (L:∀e∈aN,jA lv k e=true->L9 (c.nx+2) 2 v 1 none=some (v',p)∧H6 v'=true∧v'.cells=[v']∧wF (c.get r) off [v']=some B∧c.lim<=r) (fu:Nat) (b t u l g:o7):
  ∃outs,CR Q P cf fu none (fD (.ptr (c.nx+1) 0) b t (.int .i64 lv) (.ptr r off) u l g) m []=some outs∧∀o∈outs,
   (left a aO 0=[]∧∃env,o=⟨.exit 0,fD (.ptr (c.nx+1) 0) (.bool false) t (.int .i64 lv) (.ptr r off) u l g,m,[],none⟩∧env=())∨
   ∃q∈left a aO 0,∃e∈aN,aN[q.1]?=some e∧∃M,wN c M (q.1::a)∧
    ((jA lv k e=false∧∃b' kd' sg' cd',o=⟨.normal,fD (.ptr (c.nx+1) 0) b' kd' (.int .i64 lv) (.ptr r off) sg' cd' g,M,[],none⟩)∨
     (jA lv k e=true∧∃b' kd' sg' cd',o=⟨.ret,fD (.ptr (c.nx+1) 0) b' kd' (.int .i64 lv) (.ptr r off) sg' cd' (.int .i64 e.2.2.2),(dI M p).set r B,[],none⟩)):=by
 unfold CR;rw [wG,AQ];refine dQ (g1:=λo:Out=>(left a aO 0=[]∧o=⟨.normal,fD (.ptr (c.nx+1) 0) (.bool false) t (.int .i64 lv) (.ptr r off) u l g,m,[],none⟩)∨
  ∃q∈left a aO 0,o=⟨.normal,fD (.ptr (c.nx+1) 0) (.bool true) t (.int .i64 lv) (.ptr r off) u l g,m.set (c.nx+1) (.iter (some c.nx) aO.length (q.1::a)),[],none⟩) ?_ ?_
 refine dQ (g1:=λe:EM=>(left a aO 0=[]∧e=⟨fD (.ptr (c.nx+1) 0) (.bool false) t (.int .i64 lv) (.ptr r off) u l g,m,none,[]⟩)∨
  ∃q∈left a aO 0,e=⟨fD (.ptr (c.nx+1) 0) (.bool true) t (.int .i64 lv) (.ptr r off) u l g,m.set (c.nx+1) (.iter (some c.nx) aO.length (q.1::a)),none,[]⟩) ?_ ?_
 rw [Mj];refine dQ (PI (it:=K3 gH) (env:=fD (.ptr (c.nx+1) 0) b t (.int .i64 lv) (.ptr r off) u l g) rfl (by rw [h.lim];have:=h.ll;omega) h.gi h.gs) ?_;rintro r (⟨h1,rfl⟩ | ⟨q,h1,rfl⟩);exact⟨_,rfl,λo j=>.inl ⟨h1,aA.1 j⟩⟩;exact⟨_,rfl,λo j=>.inr ⟨q,h1,aA.1 j⟩⟩;rintro e (⟨h1,rfl⟩ | ⟨q,h1,rfl⟩);exact⟨_,rfl,λo j=>.inl ⟨h1,aA.1 j⟩⟩;exact⟨_,rfl,λo j=>.inr ⟨q,h1,aA.1 j⟩⟩;rintro o (⟨h1,rfl⟩ | ⟨q,h1,rfl⟩);exact⟨_,rfl,λo j=>.inl ⟨h1,(),aA.1 j,rfl⟩⟩;obtain⟨_,z,W⟩:=wM h1;rw [amc] at z;obtain⟨e,n,y,H⟩:=abu z;have D:c.nx+1<m.nx:=by rw [h.mn];omega
 generalize hM:m.set (c.nx+1) (.iter (some c.nx) aO.length (q.1::a))=M;have Mg:∀i,M.get i=if i=c.nx+1 then some (.iter (some c.nx) aO.length (q.1::a)) else m.get i:=λi=>by rw [← hM,Mem.aB h.ok D]
 have f:wN c M (q.1::a):={
  ok:=by rw [← hM];exact Mem.Ok.set h.ok D _
  lim:=by rw [← hM];exact h.lim
  ll:=h.ll
  mn:=by rw [← hM];exact h.mn
  gs:=by rw [Mg,if_neg (by omega)];exact h.gs
  gi:=by rw [Mg,if_pos rfl]
  old:=λi V=>by rw [Mg,if_neg (by omega)];exact h.old i V}
 have s:∀(env:T o7),gH env=.ptr (c.nx+1) 0->tq (K3 gH) [] env M=some (.tuple [q.2.1,q.2.2]):=λenv n=>Kh (it:=K3 gH) n f.gi f.gs z;rw [H] at s;have d:=s (fD (.ptr (c.nx+1) 0) (.bool true) t (.int .i64 lv) (.ptr r off) u l g) rfl;have I:=S e n M;have C:=R e n M f.old;have w:M.get r=c.get r:=f.old r X;cases hlv:decide (e.1=lv) with
 | false=>refine⟨[⟨.normal,fD (.ptr (c.nx+1) 0) (.bool true) (.int .i64 e.2.2.2) (.int .i64 lv) (.ptr r off) (.str e.2.2.1) (.bool false) g,M,[],none⟩],?_,λo j=>.inr ⟨q,h1,e,n,y,M,f,.inl ⟨by simp [jA,hlv],_,_,_,_,aA.1 j⟩⟩⟩;simp only [fD] at d ⊢;simp [d,E9,I,C,hlv]
 | true=>
  cases hat:VT k e with
  | false=>refine⟨[⟨.normal,fD (.ptr (c.nx+1) 0) (.bool true) (.int .i64 e.2.2.2) (.int .i64 lv) (.ptr r off) (.str e.2.2.1) (.bool false) g,M,[],none⟩],?_,λo j=>.inr ⟨q,h1,e,n,y,M,f,.inl ⟨by simp [jA,hlv,hat],_,_,_,_,aA.1 j⟩⟩⟩;rw [hat] at C;simp only [fD] at d ⊢;simp [d,E9,I,C,hlv]
  | true=>
   obtain⟨Y,Z,s3,s4,E⟩:=L e n (by simp [jA,hlv,hat]);refine⟨[⟨.ret,fD (.ptr (c.nx+1) 0) (.bool true) (.int .i64 e.2.2.2) (.int .i64 lv) (.ptr r off) (.str e.2.2.1) (.bool true) (.int .i64 e.2.2.2),(dI M p).set r B,[],none⟩],?_,λo j=>.inr ⟨q,h1,e,n,y,M,f,.inr ⟨by simp [jA,hlv,hat],_,_,_,_,aA.1 j⟩⟩⟩;rw [hat] at C;simp only [fD] at d ⊢;have A:M.nx=c.nx+2:=f.mn;have F:∀(env:T o7) (G:List o7),lSl 2 G8 (some (G6 (.int .i64 1))) none (v::G) env M.nx=some (v',p):=λenv G=>by rw [A];exact Y
   have U:(dI M p).get r=c.get r:=by
    cases p with
    | none=>exact w
    | some x=>show (M.new x).get r=_;rw [Mem.K6 f.ok,if_neg (by rw [A];omega)];exact w
   have K:(dI M p).lim<=r:=by
    cases p with
    | none=>show M.lim<=r;rw [f.lim];exact E
    | some x=>show M.lim<=r;rw [f.lim];exact E
   have N:∀(env:T o7) (G:List o7) (O:o7),L8 1 G8 dV cf (.ptr r off::O::v'::G) env (dI M p)=some [⟨.undef,(dI M p).set r B⟩]:=λenv G O=>by show bi (Nat.beq (len' v'.cells) 1) (storeAt (dI M p) r off v'.cells _) none=_;rw [s3];show storeAt (dI M p) r off [v'] _=_;rw [mh K (by show bi (H6 v') true false=true;rw [Z];rfl),U,s4];rfl
   simp [d,E9,I,C,hlv,w,J,F,N]
theorem PS {seen:List Nat}:∀{es:List (o7×o7)} {i:Nat},left seen es i=[]->∀j,i<=j->j<i+es.length->tF j seen=true
 | [],i,_,j,h1,h2=>by simp at h2;omega
 | e::es,i,h,j,h1,h2=>by simp only [left] at h;split at h;rename_i hs;by_cases hj:j=i;rw [hj];exact hs;exact PS h j (by omega) (by simp at h2;omega);cases h
theorem abv {c:Mem}{r off D C:Nat}{lv:Int}{d:Option (Int×List UInt8)}{cf:F8}{v v':o7}{p:Option P9}{B:P9}
  (A:∀e∈aN,∀M,cf (.func D) [.int .i64 e.2.2.2] M=some [⟨.int .i64 e.1,M⟩])
  (z:∀e∈aN,∀M:Mem,(∀i,i<c.nx->M.get i=c.get i)->cf (.func C) [.ptr r off,.str e.2.2.1] M=some [⟨.bool (VT d e),M⟩])
  (t:ld1 (c.get r) off=some v) (E:r<c.nx)
  (u:∀e∈aN,jA lv d e=true->L9 (c.nx+2) 2 v 1 none=some (v',p)∧H6 v'=true∧v'.cells=[v']∧wF (c.get r) off [v']=some B∧c.lim<=r) (fu:Nat) (f:o7):
  ∀(n:Nat) (m:Mem) (seen:List Nat) (b kd sg cd:o7),wN c m seen->(left seen aO 0).length=n->(∀j e,tF j seen=true->aN[j]?=some e->jA lv d e=false)->∀N,n<N->
   ∃outs,K8 (λenv m k=>CR D C cf fu none env m k) N (fD (.ptr (c.nx+1) 0) b kd (.int .i64 lv) (.ptr r off) sg cd f) m []=some outs∧∀o∈outs,
    ((∀e∈aN,jA lv d e=false)∧∃b' kd' sg' cd' M seen',wN c M seen'∧o=⟨.exit 0,fD (.ptr (c.nx+1) 0) b' kd' (.int .i64 lv) (.ptr r off) sg' cd' f,M,[],none⟩)∨
    ∃e∈aN,jA lv d e=true∧∃b' kd' sg' cd' M seen',wN c M seen'∧o=⟨.ret,fD (.ptr (c.nx+1) 0) b' kd' (.int .i64 lv) (.ptr r off) sg' cd' (.int .i64 e.2.2.2),(dI M p).set r B,[],none⟩:=by
 intro n;induction n with
 | zero=>intro m seen b kd sg cd h s y N G;obtain⟨N,rfl⟩:∃N',N=N'+1:=⟨N-1,by omega⟩;have a:left seen aO 0=[]:=Z8.1 s;rw [A8];refine dQ (PO h A z t E u fu b kd sg cd f) ?_;rintro o (⟨_,_,rfl,_⟩ | ⟨q,hq,_⟩);refine⟨_,rfl,λo x=>.inl ⟨λe w=>?_,_,_,_,_,m,seen,h,aA.1 x⟩⟩;obtain⟨j,l⟩:=aax w;refine y j e (PS a j (by omega) ?_) l;have:=(y8.1 l).1;simp [aO];omega;rw [a] at hq;cases hq
 | succ n ih=>intro m seen b kd sg cd h s y N G;obtain⟨N,rfl⟩:∃N',N=N'+1:=⟨N-1,by omega⟩;rw [A8];refine dQ (PO h A z t E u fu b kd sg cd f) ?_;rintro o (⟨a,_⟩ | ⟨q,hq,e,w,hej,M,inv,⟨hh,b',kd',sg',cd',rfl⟩ | ⟨hh,b',kd',sg',cd',rfl⟩⟩);rw [a] at s;cases s;rw [AR];refine ih M (q.1::seen) b' kd' sg' cd' inv ?_ (λj F l g=>?_) N (by omega);have:=(sw hq).length_eq;rw [s,J6] at this;omega;by_cases hjq:q.1=j;rw [← hjq,hej] at g;cases g;exact hh;rw [EN hjq] at l;exact y j F l g;exact⟨_,rfl,λo x=>.inr ⟨e,w,hh,b',kd',sg',cd',M,_,inv,aA.1 x⟩⟩
def GR (M:Mem)(r off:Nat)(tok:Option (Int×List UInt8)):Prop:=∃v,ld1 (M.get r) off=some v∧
 ((tok=none∧(v=.nilSlice∨(∃id o c,v=.slice id o 0 c)∨∃id o es,v=.sliceU id o 0 es))∨∃k s id o len,((∃c,v=.slice id o (len+1) c)∨∃es,v=.sliceU id o (len+1) es)∧AO (M.get id) o 2=some (.agg [.int .i64 k,.str s])∧tok=some (k,s))
theorem GU {lv k:Int}{s:List UInt8}:∀(l:List (Int×Int×List UInt8×Int)),(∀e∈l,∀e'∈l,e.2.2.1=e'.2.2.1->e=e')->
  match (List.rec none (λe _ ih=>bi (bJ e.1 lv) (bi (bJ e.2.1 k) (bi (strEq e.2.2.1 s) (some e.2.2.2) ih) ih) ih) l:Option Int) with
  | none=>∀e∈l,jA lv (some (k,s)) e=false
  | some kd=>(∃e∈l,jA lv (some (k,s)) e=true)∧∀e∈l,jA lv (some (k,s)) e=true->e.2.2.2=kd
 | [],_=>λe he=>by cases he
 | e::l,hu=>by
  have ih:=GU (lv:=lv) (k:=k) (s:=s) l λa ha b hb=>hu a (Z4 _ ha) b (Z4 _ hb);have hb:jA lv (some (k,s)) e=(bJ e.1 lv&&(bJ e.2.1 k&&strEq e.2.2.1 s)):=by rw [iR,iR,iT];rfl
  have h0:(List.rec none (λe _ ih=>bi (bJ e.1 lv) (bi (bJ e.2.1 k) (bi (strEq e.2.2.1 s) (some e.2.2.2) ih) ih) ih) (e::l):Option Int) =
    bi (jA lv (some (k,s)) e) (some e.2.2.2) (List.rec none (λe _ ih=>bi (bJ e.1 lv) (bi (bJ e.2.1 k) (bi (strEq e.2.2.1 s) (some e.2.2.2) ih) ih) ih) l):=by
   rw [hb];show bi (bJ e.1 lv) (bi (bJ e.2.1 k) (bi (strEq e.2.2.1 s) _ _) _) _=_;cases bJ e.1 lv<;>cases bJ e.2.1 k<;>cases strEq e.2.2.1 s<;>rfl
  rw [h0];cases hh:jA lv (some (k,s)) e with
  | true=>
   refine⟨⟨e,ab1 ..,hh⟩,λe' he' h'=>?_⟩;have ht:∀x:Int×Int×List UInt8×Int,jA lv (some (k,s)) x=true->x.2.2.1=s:=λx hx=>by simp only [jA,VT,l9] at hx;simpa using hx.2.2
   rw [hu e' he' e (ab1 ..) (by rw [ht e' h',ht e hh])]
  | false=>
   show match (List.rec none _ l:Option Int) with
    | none=>_
    | some kd=>_
   revert ih;cases (List.rec none (λe _ ih=>bi (bJ e.1 lv) (bi (bJ e.2.1 k) (bi (strEq e.2.2.1 s) (some e.2.2.2) ih) ih) ih) l:Option Int) with
   | none=>intro ih e' he';rcases Y4.1 he' with rfl | he';exact hh;exact ih e' he'
   | some kd=>rintro⟨⟨x,hx1,hx2⟩,h2⟩;refine⟨⟨x,Z4 _ hx1,hx2⟩,λe' he' h'=>?_⟩;rcases Y4.1 he' with rfl | he';rw [hh] at h';cases h';exact h2 e' he' h'
theorem DU (lv k:Int)(s:List UInt8):match nH lv k s with
  | none=>∀e∈aN,jA lv (some (k,s)) e=false
  | some kd=>(∃e∈aN,jA lv (some (k,s)) e=true)∧∀e∈aN,jA lv (some (k,s)) e=true->e.2.2.2=kd:=GU aN (by decide)
theorem PU {K:Known}{f C A t:Nat}(X:K.fns f=some (MI C A t))(W:∀args m,K.eff f args m=none){N n:Nat}(hN:14<=N)
  (U:∀m:Mem,m.Ok->m.lim<=m.nx->r9 K N n (.func C) [] m=some [⟨.map m.nx,m.new (.map aO)⟩])
  (T:∀e∈aN,∀M,r9 K N n (.func A) [.int .i64 e.2.2.2] M=some [⟨.int .i64 e.1,M⟩])
  (S:∀a r off M,GR M r off a->∀e∈aN,r9 K N n (.func t) [.ptr r off,.str e.2.2.1] M=some [⟨.bool (VT a e),M⟩])
  {m:Mem} (d:m.Ok) (x:m.lim<=m.nx) {r off:Nat} {lv:Int} {a:Option (Int×List UInt8)} {v v':o7} {p:Option P9} {B:P9} (R:r<m.nx) (ht:GR m r off a) (G:ld1 (m.get r) off=some v)
  (L:∀e∈aN,jA lv a e=true->L9 (m.nx+2) 2 v 1 none=some (v',p)∧H6 v'=true∧v'.cells=[v']∧wF (m.get r) off [v']=some B∧m.lim<=r):
  ∃l,r9 K N (n+1) (.func f) [.ptr r off,.int .i64 lv] m=some l∧∀o∈l,∃M seen,wN m M seen∧
   (((∀e∈aN,jA lv a e=false)∧o=⟨.int .i64 0,M⟩)∨∃e∈aN,jA lv a e=true∧o=⟨.int .i64 e.2.2.2,(dI M p).set r B⟩):=by
 have Ha':∀e∈aN,∀M:Mem,(∀i,i<m.nx->M.get i=m.get i)->r9 K N n (.func t) [.ptr r off,.str e.2.2.1] M=some [⟨.bool (VT a e),M⟩]:=λe Z M Q=>by refine S a r off M ?_ e Z;obtain⟨w,b,h⟩:=ht;refine⟨w,by rw [Q r R];exact b,?_⟩;rcases h with h | ⟨k,s,id,o,len,h3,h4,h5⟩;exact .inl h;obtain⟨_,_,_,V,_⟩:=eu h4;have F:=Mem.I8 d V;exact .inr ⟨k,s,id,o,len,h3,by rw [Q id F];exact h4,h5⟩
 generalize hm2:(m.new (.map aO)).new (.iter (some m.nx) aO.length [])=mI;have y:=Mem.Ok.new d (.map aO);have E:∀i,mI.get i=if i=m.nx+1 then some (.iter (some m.nx) aO.length []) else if i=m.nx then some (.map aO) else m.get i:=λi=>by rw [← hm2,Mem.K6 y,Mem.K6 d];rfl
 have O:wN m mI []:={
  ok:=by rw [← hm2];exact Mem.Ok.new y _
  lim:=by rw [← hm2];rfl
  ll:=x
  mn:=by rw [← hm2];rfl
  gs:=by rw [E,if_neg (by omega),if_pos rfl]
  gi:=by rw [E,if_pos rfl]
  old:=λi g=>by rw [E,if_neg (by omega),if_neg (by omega)]}
 have u:aO.length=13:=by decide
 obtain⟨z,H,I⟩:=abv (fu:=N) T Ha' G R L (.int .i64 0) 13 mI [] .undef .undef .undef .undef O (by rw [GN,u]) (λj e Y=>by cases Y) N (by omega);rw [eT];show ∃l,(Option.rec (ob (K.fns f) λP=>bi P.pure (jD K (r9 K N n) N f P [.ptr r off,.int .i64 lv] m) (mU (r9 K N n) (qz K (r9 K N n) N) N P [.ptr r off,.int .i64 lv] m)) (λl=>some l) (K.eff f [.ptr r off,.int .i64 lv] m):dU)=some l∧_;rw [W,X];show ∃l,bnd (o8 (o8 (p8 (D9 (E9 C []) (EA (oJ G8) sH u7))) (H8 0 (ak (CR A t)))) (o8 (p8 (K5 (Q5 (G6 (.int .i64 (.ofNat 0)))) (sL (sL (sL sH))) u7)) G7) (r9 K N n) N none
  (fD .undef .undef .undef (.int .i64 lv) (.ptr r off) .undef .undef (.int .i64 0)) m []) (leave _ [.tmp 7])=some l∧_
 refine dQ (g1:=λo:Out=>∃b' kd' sg' cd' M seen',wN m M seen'∧(((∀e∈aN,jA lv a e=false)∧o=⟨.ret,fD (.ptr (m.nx+1) 0) b' kd' (.int .i64 lv) (.ptr r off) sg' cd' (.int .i64 0),M,[],none⟩)∨
  ∃e∈aN,jA lv a e=true∧o=⟨.ret,fD (.ptr (m.nx+1) 0) b' kd' (.int .i64 lv) (.ptr r off) sg' cd' (.int .i64 e.2.2.2),(dI M p).set r B,[],none⟩)) ?_ ?_
 rw [wG];refine dQ (g1:=λo:Out=>∃b' kd' sg' cd' M seen',wN m M seen'∧(((∀e∈aN,jA lv a e=false)∧o=⟨.normal,fD (.ptr (m.nx+1) 0) b' kd' (.int .i64 lv) (.ptr r off) sg' cd' (.int .i64 0),M,[],none⟩)∨
  ∃e∈aN,jA lv a e=true∧o=⟨.ret,fD (.ptr (m.nx+1) 0) b' kd' (.int .i64 lv) (.ptr r off) sg' cd' (.int .i64 e.2.2.2),(dI M p).set r B,[],none⟩)) ?_ ?_
 rw [wG,AQ,Mj];have q:E9 C [] (r9 K N n) [] (fD .undef .undef .undef (.int .i64 lv) (.ptr r off) .undef .undef (.int .i64 0)) m=some [⟨.map m.nx,m.new (.map aO)⟩]:=U m d x;rw [q];have J:oJ G8 (r9 K N n) [.map m.nx] (fD .undef .undef .undef (.int .i64 lv) (.ptr r off) .undef .undef (.int .i64 0)) (m.new (.map aO))=some [⟨.ptr (m.nx+1) 0,mI⟩]:=by show QW ((m.new (.map aO)).get m.nx) _=_;rw [Mem.K6 d,if_pos rfl];show one _ ((m.new (.map aO)).new (.iter (some m.nx) (len' aO) []))=_;rw [I9,hm2];rfl
 show ∃l,bnd (bnd (bnd (oJ G8 (r9 K N n) [.map m.nx] (fD .undef .undef .undef (.int .i64 lv) (.ptr r off) .undef .undef (.int .i64 0)) (m.new (.map aO))) _) (iQ [])) _=some l∧_;rw [J];show ∃l,bnd (K8 (λD m k=>CR A t (r9 K N n) N none D m k) N (fD (.ptr (m.nx+1) 0) .undef .undef (.int .i64 lv) (.ptr r off) .undef .undef (.int .i64 0)) mI []) (VH 0)=some l∧_;refine dQ ⟨z,H,I⟩ ?_;rintro o (⟨b,b',kd',sg',cd',M,seen',g,rfl⟩ | ⟨e,b,h,b',kd',sg',cd',M,seen',g,rfl⟩);exact⟨_,rfl,λo c=>⟨b',kd',sg',cd',M,seen',g,.inl ⟨b,aA.1 c⟩⟩⟩;exact⟨_,rfl,λo c=>⟨b',kd',sg',cd',M,seen',g,.inr ⟨e,b,h,aA.1 c⟩⟩⟩;rintro o ⟨b',kd',sg',cd',M,seen',g,⟨b,rfl⟩ | ⟨e,b,h,rfl⟩⟩;exact⟨_,rfl,λo c=>⟨b',kd',sg',cd',M,seen',g,.inl ⟨b,aA.1 c⟩⟩⟩;exact⟨_,rfl,λo c=>⟨b',kd',sg',cd',M,seen',g,.inr ⟨e,b,h,aA.1 c⟩⟩⟩;rintro o ⟨b',kd',sg',cd',M,seen',g,⟨b,rfl⟩ | ⟨e,b,h,rfl⟩⟩;exact⟨_,rfl,λo c=>⟨M,seen',g,.inl ⟨b,aA.1 c⟩⟩⟩;exact⟨_,rfl,λo c=>⟨M,seen',g,.inr ⟨e,b,h,aA.1 c⟩⟩⟩
theorem TV {m M:Mem}{d:List Nat}(c:m.Ok)(h:wN m M d):Weak M (V5 2 m):=by
 obtain⟨g,j⟩:=zw 2 m;obtain⟨k,f⟩:=CQ 2 c;exact {
  nx:=by rw [g,h.mn]
  lim:=by rw [j,h.lim]
  ok:=k
  old:=λi e=>by rw [h.lim] at e;have:=h.ll;rw [f,if_neg (by omega),h.old i (by omega)]
  blk:=λi b a=>by
   rw [f] at a;split at a;rename_i l;cases a;by_cases e:i=m.nx;rw [e];exact⟨_,h.gs,.inr (.inl ⟨rfl,rfl⟩)⟩;rw [show i=m.nx+1 from by omega];exact⟨_,h.gi,.inr (.inl ⟨rfl,rfl⟩)⟩;have:=Mem.I8 c a;exact⟨b,by rw [h.old i this];exact a,.inl rfl⟩}
theorem Weak.dI {m1 e:Mem}(h:Weak m1 e)(d:m1.Ok)(p:Option P9):Weak (dI m1 p) (dI e p):=by
 cases p with
 | none=>exact h
 | some x=>
  have c:e.Ok:=h.ok;exact {
   nx:=congrArg Nat.succ h.nx
   lim:=h.lim
   ok:=Mem.Ok.new c x
   old:=λi a=>by have a:i<m1.lim:=a;show (e.new x).get i=(m1.new x).get i;rw [Mem.K6 c,Mem.K6 d,h.nx,h.old i a]
   blk:=λi b hb=>by
    have hb:(e.new x).get i=some b:=hb;show ∃b1,(m1.new x).get i=some b1∧_;rw [Mem.K6 c,h.nx] at hb;rw [Mem.K6 d];split at hb;rename_i a;rw [if_pos a];exact⟨b,hb,.inl rfl⟩;rename_i a;rw [if_neg a];exact h.blk i b hb}
theorem Weak.set {m1 f:Mem}(h:Weak m1 f)(e:m1.Ok){r:Nat}(g:r<m1.nx)(j:m1.lim<=r)(B:P9):Weak (m1.set r B) (f.set r B):=by
 have d:f.Ok:=h.ok;have c:r<f.nx:=by rw [h.nx];exact g
 exact {
  nx:=h.nx
  lim:=h.lim
  ok:=Mem.Ok.set d c B
  old:=λi a=>by have a:i<m1.lim:=a;rw [Mem.aB d c,Mem.aB e g,h.old i a]
  blk:=λi b hb=>by
   rw [Mem.aB d c] at hb;rw [Mem.aB e g];split at hb;rename_i a;rw [if_pos a];exact⟨b,hb,.inl rfl⟩;rename_i a;rw [if_neg a];exact h.blk i b hb}
theorem YI {m:Mem}(a:m.Ok)(p:Option P9){i:Nat}(hi:i<m.nx):(dI m p).get i=m.get i:=by
 cases p with
 | none=>rfl
 | some x=>show (m.new x).get i=_;rw [Mem.K6 a,if_neg (by omega)]
theorem Kj (m:Mem)(p:Option P9):m.nx<=(dI m p).nx∧(dI m p).lim=m.lim:=by
 cases p with
 | none=>exact⟨aP _,rfl⟩
 | some x=>exact⟨amj _,rfl⟩
theorem abw {m:Mem}(a:m.Ok)(p:Option P9):(dI m p).Ok:=by
 cases p with
 | none=>exact a
 | some x=>exact Mem.Ok.new a x
theorem YJ {P:Program}{K:Known}(hK:Yt P K){f fs fl fa:Nat}(Q:K.fns f=some (MI fs fl fa))(he:∀args m,K.eff f args m=none){N n:Nat}(hN:14<=N)
  (Hs:∀m:Mem,m.Ok->m.lim<=m.nx->r9 K N n (.func fs) [] m=some [⟨.map m.nx,m.new (.map aO)⟩])
  (Z:∀e∈aN,∀M,r9 K N n (.func fl) [.int .i64 e.2.2.2] M=some [⟨.int .i64 e.1,M⟩])
  (Y:∀tok r off M,GR M r off tok->∀e∈aN,r9 K N n (.func fa) [.ptr r off,.str e.2.2.1] M=some [⟨.bool (VT tok e),M⟩])
  {args:List o7} {m:Mem} {outs:List VM} (h:dD args m=some outs):
  Cn P f∧∀{ι:K7} {w:World},RM P K.base ι m w.heap->bB (m.nm ι) args->CallsIn Fence.wide 0 P f (z8 ι args).toArray w (S9 P K.base ι m w outs):=by
 obtain⟨r,off,lv,rfl⟩:∃r off lv,args=[.ptr r off,.int .i64 lv]:=by unfold dD at h;split at h;exact⟨_,_,_,rfl⟩;cases h
 have h:(P6 (m.get r) λrs n A=>ob (cell1 rs n A off) λv=>ob (lenOf v) λg=>
   (Nat.rec (lG v (one (.int .i64 0) (V5 2 m)) (λ_ _ _ _=>one (.int .i64 0) (V5 2 m)) (λ_ _ _ _=>one (.int .i64 0) (V5 2 m))) (λ_ _=>lG v none (λid o _ _=>dD.tok m id o v r off lv) (λid o _ _=>dD.tok m id o v r off lv)) g:dU))=some outs:=h
 obtain⟨rs,nn,A,T,h⟩:=eu h;obtain⟨v,hv,h⟩:=D5 h;obtain⟨g,j,h⟩:=D5 h;have t:ld1 (m.get r) off=some v:=by rw [T];exact hv
 have a:∀tok,GR m r off tok->(∀e∈aN,jA lv tok e=false)->outs=[⟨.int .i64 0,V5 2 m⟩]->Cn P f∧∀{ι:K7} {w:World},RM P K.base ι m w.heap->bB (m.nm ι) [.ptr r off,.int .i64 lv]->CallsIn Fence.wide 0 P f (z8 ι [.ptr r off,.int .i64 lv]).toArray w (S9 P K.base ι m w outs):=by intro tok R y ho;refine wL hK Q λb E=>?_;have b:m.Ok:=b;obtain⟨l,C,D⟩:=PU (v':=.undef) (p:=none) (B:=.void) Q he hN Hs Z Y b E (Mem.I8 b T) R t (lv:=lv) (λe z q=>by rw [y e z] at q;cases q);refine⟨N,n+1,l,C,λo F=>?_⟩;obtain⟨M,L,i,⟨_,rfl⟩ | ⟨e,z,q,_⟩⟩:=D o F;exact⟨⟨.int .i64 0,V5 2 m⟩,by rw [ho];exact aA.2 rfl,rfl,TV b i⟩;rw [y e z] at q;cases q
 cases g with
 | zero=>
  cases v with
  | nilSlice=>have h:one (.int .i64 0) (V5 2 m)=some outs:=h;cases h;exact a none ⟨_,t,.inl ⟨rfl,.inl rfl⟩⟩ (λe _=>by simp [jA,VT]) rfl
  | slice id o l c=>obtain rfl:l=0:=Y5 j;have h:one (.int .i64 0) (V5 2 m)=some outs:=h;cases h;exact a none ⟨_,t,.inl ⟨rfl,.inr (.inl ⟨_,_,_,rfl⟩)⟩⟩ (λe _=>by simp [jA,VT]) rfl
  | sliceU id o l c=>obtain rfl:l=0:=Y5 j;have h:one (.int .i64 0) (V5 2 m)=some outs:=h;cases h;exact a none ⟨_,t,.inl ⟨rfl,.inr (.inr ⟨_,_,_,rfl⟩)⟩⟩ (λe _=>by simp [jA,VT]) rfl
  | _=>cases h
 | succ g=>
  have J:∀id o,((∃c,v=.slice id o (g+1) c)∨∃es,v=.sliceU id o (g+1) es)->dD.tok m id o v r off lv=some outs->
    Cn P f∧∀{ι:K7} {w:World},RM P K.base ι m w.heap->bB (m.nm ι) [.ptr r off,.int .i64 lv]->CallsIn Fence.wide 0 P f (z8 ι [.ptr r off,.int .i64 lv]).toArray w (S9 P K.base ι m w outs):=by
   intro id o W h;unfold dD.tok at h;obtain⟨X,n2,G,U,h⟩:=eu h;obtain⟨l,hl,h⟩:=D5 h;split at h;rename_i k s;have R:GR m r off (some (k,s)):=⟨v,t,.inr ⟨k,s,id,o,g,W,by rw [U];show ob (gK X n2 G o 2) _=_;rw [hl];rfl,rfl⟩⟩;have d:=DU lv k s;cases hfd:nH lv k s with
   | none=>rw [hfd] at h d;have h:one (.int .i64 0) (V5 2 m)=some outs:=h;cases h;exact a _ R d rfl
   | some kd=>
    rw [hfd] at h d;have h:(ob (L9 (V5 2 m).nx 2 v 1 none) λp=>storeAt (dI (V5 2 m) p.2) r off [p.1] λm'=>one (.int .i64 kd) m')=some outs:=h;obtain⟨⟨v',p⟩,hs,h⟩:=D5 h;have O:=h;obtain⟨c1,h⟩:=kJ h;obtain⟨c2,h⟩:=D8 h;have u:(dI (V5 2 m) p).lim<=r:=adN λq=>(by rw [show Nat.blt r (dI (V5 2 m) p).lim=true from Y3▸q] at c1;cases c1);rw [mh u c2] at O;obtain⟨B,hB,O⟩:=D5 O;cases O;have H:H6 v'=true:=(dX c2).1;have x:v'.cells=[v']:=by cases v'<;>first | rfl | cases H
    refine wL hK Q λb E=>?_;have b:m.Ok:=b;have V:=Mem.I8 b T;obtain⟨d1,d2⟩:=zw 2 m;obtain⟨d3,d4⟩:=CQ 2 b;have I:m.lim<=r:=(by rw [(Kj _ p).2,d2] at u;exact u);rw [YI d3 p (by rw [d1];omega),d4,if_neg (by omega)] at hB;obtain⟨l,C,D⟩:=PU (v':=v') (p:=p) (B:=B) Q he hN Hs Z Y b E V R t (lv:=lv) (λe z q=>⟨by rw [← d1];exact hs,H,x,hB,I⟩);refine⟨N,n+1,l,C,λo F=>?_⟩;obtain⟨M,L,i,⟨y,_⟩ | ⟨e,z,q,rfl⟩⟩:=D o F;obtain⟨⟨e,z,q⟩,_⟩:=d;rw [y e z] at q;cases q;refine⟨_,aA.2 rfl,by rw [d.2 e z q],?_⟩;have S:M.nx<=(dI M p).nx∧(dI M p).lim=M.lim:=Kj M p;exact ((TV b i).dI i.ok p).set (abw i.ok p) (by have:=i.mn;omega) (by rw [S.2,i.lim];exact I) B
   cases h
  cases v with
  | slice id o l c=>obtain rfl:l=g+1:=Y5 j;exact J id o (.inl ⟨c,rfl⟩) h
  | sliceU id o l c=>obtain rfl:l=g+1:=Y5 j;exact J id o (.inr ⟨c,rfl⟩) h
  | _=>cases h
set_option maxHeartbeats 2000000
def AZ:aW:=⟨false,[],1,[.tmp 0],(o8 (p8 (K5 (Q5 (G6 .nilMap)) sH u7)) (o8 (p8 (kZ (Fv) (D9 (T9 aK 1 G8 (G6 (.int .i64 (.ofNat 6))) (G6 (.str [42]))) (D9 (T9 aK 1 dx (G6 (.int .i64 (.ofNat 7))) (G6 (.str [47]))) (D9 (T9 aK 1 dV (G6 (.int .i64 (.ofNat 8))) (G6 (.str [37]))) (D9 (T9 aK 1 vo (G6 (.int .i64 (.ofNat 9))) (G6 (.str [43]))) (D9 (T9 aK 1 (dM 4) (G6 (.int .i64 (.ofNat 10))) (G6 (.str [45]))) (D9 (T9 aK 1 (dM 5) (G6 (.int .i64 (.ofNat 11))) (G6 (.str [60]))) (D9 (T9 aK 1 (dM 6) (G6 (.int .i64 (.ofNat 12))) (G6 (.str [60,61]))) (D9 (T9 aK 1 (dM 7) (G6 (.int .i64 (.ofNat 13))) (G6 (.str [62]))) (D9 (T9 aK 1 (dM 8) (G6 (.int .i64 (.ofNat 14))) (G6 (.str [62,61]))) (D9 (T9 aK 1 (dM 9) (G6 (.int .i64 (.ofNat 15))) (G6 (.str [61,61]))) (D9 (T9 aK 1 (dM 10) (G6 (.int .i64 (.ofNat 16))) (G6 (.str [33,61]))) (D9 (T9 aK 1 (dM 11) (G6 (.int .i64 (.ofNat 17))) (G6 (.str [97,110,100]))) (D9 (T9 aK 1 (dM 12) (G6 (.int .i64 (.ofNat 18))) (G6 (.str [111,114]))) (K5 (Q5 (dM 13)) sH u7)))))))))))))))) G7)),none⟩
def MJ:aW:=⟨false,[(some 0)],10,[.tmp 9],(o8 (p8 (K5 (Q5 (G6 (.int .i64 (.ofNat 0)))) (sL (sR (sL sH))) u7)) (o8 (o8 (p8 (K5 (Q5 (K3 gH)) (sL sH) u7)) (H8 0 (o8 (p8 (p9 (O8 iO iP (K3 (gL gH)) (G6 (.int .i64 (.ofNat 18)))) (K5 (Q5 G8) (sR sH) u7))) (C9 (K3 (gR gH)) (o8 (p8 (K5 (Q5 (G6 (.int .i64 (.ofNat 0)))) (sL (sR (sL sH))) u7)) G7) (o8 (p8 (p9 (O8 iO iP (K3 (gL gH)) (G6 (.int .i64 (.ofNat 17)))) (K5 (Q5 G8) (sL (sL sH)) u7))) (C9 (K3 (gL (gL gH))) (o8 (p8 (K5 (Q5 (G6 (.int .i64 (.ofNat 1)))) (sL (sR (sL sH))) u7)) G7) (o8 (p8 (p9 (O8 iO iP (K3 (gL gH)) (G6 (.int .i64 (.ofNat 5)))) (K5 (Q5 G8) (sR (sL sH)) u7))) (C9 (K3 (gR (gL gH))) (o8 (p8 (K5 (Q5 (G6 (.int .i64 (.ofNat 2)))) (sL (sR (sL sH))) u7)) G7) (o8 (o8 (p8 (p9 (O8 iO iP (K3 (gL gH)) (G6 (.int .i64 (.ofNat 11)))) (K5 (Q5 G8) (sL (sR sH)) u7))) (C9 (K3 (gL (gR gH))) F9 (o8 (p8 (p9 (O8 iO iP (K3 (gL gH)) (G6 (.int .i64 (.ofNat 12)))) (K5 (Q5 G8) (sL (sR sH)) u7))) (C9 (K3 (gL (gR gH))) F9 (o8 (p8 (p9 (O8 iO iP (K3 (gL gH)) (G6 (.int .i64 (.ofNat 13)))) (K5 (Q5 G8) (sL (sR sH)) u7))) (C9 (K3 (gL (gR gH))) F9 (o8 (p8 (p9 (O8 iO iP (K3 (gL gH)) (G6 (.int .i64 (.ofNat 14)))) (K5 (Q5 G8) (sL (sR sH)) u7))) (C9 (K3 (gL (gR gH))) F9 (o8 (p8 (p9 (O8 iO iP (K3 (gL gH)) (G6 (.int .i64 (.ofNat 15)))) (K5 (Q5 G8) (sL (sR sH)) u7))) (C9 (K3 (gL (gR gH))) F9 (p8 (p9 (O8 iO iP (K3 (gL gH)) (G6 (.int .i64 (.ofNat 16)))) (K5 (Q5 G8) (sL (sR sH)) u7))))))))))))) (C9 (K3 (gL (gR gH))) (o8 (p8 (K5 (Q5 (G6 (.int .i64 (.ofNat 3)))) (sL (sR (sL sH))) u7)) G7) (o8 (o8 (p8 (p9 (O8 iO iP (K3 (gL gH)) (G6 (.int .i64 (.ofNat 9)))) (K5 (Q5 G8) (sR (sR sH)) u7))) (C9 (K3 (gR (gR gH))) F9 (p8 (p9 (O8 iO iP (K3 (gL gH)) (G6 (.int .i64 (.ofNat 10)))) (K5 (Q5 G8) (sR (sR sH)) u7))))) (C9 (K3 (gR (gR gH))) (o8 (p8 (K5 (Q5 (G6 (.int .i64 (.ofNat 4)))) (sL (sR (sL sH))) u7)) G7) (o8 (o8 (p8 (p9 (O8 iO iP (K3 (gL gH)) (G6 (.int .i64 (.ofNat 6)))) (K5 (Q5 G8) (sL (sL (sL sH))) u7))) (C9 (K3 (gL (gL (gL gH)))) F9 (o8 (p8 (p9 (O8 iO iP (K3 (gL gH)) (G6 (.int .i64 (.ofNat 7)))) (K5 (Q5 G8) (sL (sL (sL sH))) u7))) (C9 (K3 (gL (gL (gL gH)))) F9 (p8 (p9 (O8 iO iP (K3 (gL gH)) (G6 (.int .i64 (.ofNat 8)))) (K5 (Q5 G8) (sL (sL (sL sH))) u7))))))) (C9 (K3 (gL (gL (gL gH)))) (o8 (p8 (K5 (Q5 (G6 (.int .i64 (.ofNat 5)))) (sL (sR (sL sH))) u7)) G7) (o8 (p8 (p9 (O8 iO iP (K3 (gL gH)) (G6 (.int .i64 (.ofNat 4)))) (K5 (Q5 G8) (sR (sL (sL sH))) u7))) (C9 (K3 (gR (gL (gL gH)))) (o8 (p8 (K5 (Q5 (G6 (.int .i64 (.ofNat 6)))) (sL (sR (sL sH))) u7)) G7) F9)))))))))))))))) (o8 (p8 (K5 (Q5 (G6 (.int .i64 (.ofNat 7)))) (sL (sR (sL sH))) u7)) G7))),none⟩
theorem MK {K:Known}{f:FuncId}{sf:aW}(b:K.fns f=some sf)(hp:sf.pure=false)(a:∀args m,K.eff f args m=none)(N n:Nat)(args:List o7)(m:Mem):
  r9 K N (n+1) (.func f) args m=mU (r9 K N n) (qz K (r9 K N n) N) N sf args m:=by
 rw [eT];show (Option.rec (ob (K.fns f) λsf=>bi sf.pure (jD K (r9 K N n) N f sf args m) (mU (r9 K N n) (qz K (r9 K N n) N) N sf args m)) (λl=>some l) (K.eff f args m):dU)=_;rw [a,b];show bi sf.pure _ _=_;rw [hp];rfl
theorem jm {m:Mem}(c:m.Ok)(d:m.lim<=m.nx)(a:List (o7×o7))(k:Int)(s:List UInt8)(h:V9 aK 1 (.int .i64 k) a=some none){mp:OF}{ls:List o7}{env:T o7}(cf:F8)(e:mp ls env=.map m.nx):
  T9 aK 1 mp (G6 (.int .i64 k)) (G6 (.str s)) cf ls env (m.new (.map a))=some [⟨.undef,m.new (.map (a ++ [(.int .i64 k,.str s)]))⟩]:=by
 rw [GJ,e];show bi (Nat.blt m.nx m.lim) none (ob (msB ((m.new (.map a)).get m.nx) aK 1 (.int .i64 k) (.str s)) λb=>some [(⟨.undef,(m.new (.map a)).set m.nx b⟩:VM)])=_;rw [YG d,Mem.K6 c,if_pos rfl];show ob (ob (V9 aK 1 (.int .i64 k) a) _) _=_;rw [h];show some [(⟨.undef,(m.new (.map a)).set m.nx (.map (a ++ [(.int .i64 k,.str s)]))⟩:VM)]=_;rw [Mem.EK c]
theorem PV {K:Known}{f:FuncId}(v:K.fns f=some AZ)(u:∀args m,K.eff f args m=none)(N n:Nat)(m:Mem)(b:m.Ok)(a:m.lim<=m.nx):
  r9 K N (n+1) (.func f) [] m=some [⟨.map m.nx,m.new (.map aO)⟩]:=by
 rw [MK v rfl u];have i:=λ(cf:F8) (mp:OF) (ls:List o7) (env:T o7) (h:mp ls env=.map m.nx)=>jm b a [] 6 [42] (by rfl) cf h;have j:=λ(cf:F8) (mp:OF) (ls:List o7) (env:T o7) (h:mp ls env=.map m.nx)=>jm b a [(.int .i64 6,.str [42])] 7 [47] (by rfl) cf h;have k:=λ(cf:F8) (mp:OF) (ls:List o7) (env:T o7) (h:mp ls env=.map m.nx)=>jm b a [(.int .i64 6,.str [42]),(.int .i64 7,.str [47])] 8 [37] (by rfl) cf h;have l:=λ(cf:F8) (mp:OF) (ls:List o7) (env:T o7) (h:mp ls env=.map m.nx)=>jm b a [(.int .i64 6,.str [42]),(.int .i64 7,.str [47]),(.int .i64 8,.str [37])] 9 [43] (by rfl) cf h;have o:=λ(cf:F8) (mp:OF) (ls:List o7) (env:T o7) (h:mp ls env=.map m.nx)=>jm b a [(.int .i64 6,.str [42]),(.int .i64 7,.str [47]),(.int .i64 8,.str [37]),(.int .i64 9,.str [43])] 10 [45] (by rfl) cf h;have p:=λ(cf:F8) (mp:OF) (ls:List o7) (env:T o7) (h:mp ls env=.map m.nx)=>jm b a [(.int .i64 6,.str [42]),(.int .i64 7,.str [47]),(.int .i64 8,.str [37]),(.int .i64 9,.str [43]),(.int .i64 10,.str [45])] 11 [60] (by rfl) cf h;have q:=λ(cf:F8) (mp:OF) (ls:List o7) (env:T o7) (h:mp ls env=.map m.nx)=>jm b a [(.int .i64 6,.str [42]),(.int .i64 7,.str [47]),(.int .i64 8,.str [37]),(.int .i64 9,.str [43]),(.int .i64 10,.str [45]),(.int .i64 11,.str [60])] 12 [60,61] (by rfl) cf h;have r:=λ(cf:F8) (mp:OF) (ls:List o7) (env:T o7) (h:mp ls env=.map m.nx)=>jm b a [(.int .i64 6,.str [42]),(.int .i64 7,.str [47]),(.int .i64 8,.str [37]),(.int .i64 9,.str [43]),(.int .i64 10,.str [45]),(.int .i64 11,.str [60]),(.int .i64 12,.str [60,61])] 13 [62] (by rfl) cf h
 have s:=λ(cf:F8) (mp:OF) (ls:List o7) (env:T o7) (h:mp ls env=.map m.nx)=>jm b a [(.int .i64 6,.str [42]),(.int .i64 7,.str [47]),(.int .i64 8,.str [37]),(.int .i64 9,.str [43]),(.int .i64 10,.str [45]),(.int .i64 11,.str [60]),(.int .i64 12,.str [60,61]),(.int .i64 13,.str [62])] 14 [62,61] (by rfl) cf h;have t:=λ(cf:F8) (mp:OF) (ls:List o7) (env:T o7) (h:mp ls env=.map m.nx)=>jm b a [(.int .i64 6,.str [42]),(.int .i64 7,.str [47]),(.int .i64 8,.str [37]),(.int .i64 9,.str [43]),(.int .i64 10,.str [45]),(.int .i64 11,.str [60]),(.int .i64 12,.str [60,61]),(.int .i64 13,.str [62]),(.int .i64 14,.str [62,61])] 15 [61,61] (by rfl) cf h;have c:=λ(cf:F8) (mp:OF) (ls:List o7) (env:T o7) (h:mp ls env=.map m.nx)=>jm b a [(.int .i64 6,.str [42]),(.int .i64 7,.str [47]),(.int .i64 8,.str [37]),(.int .i64 9,.str [43]),(.int .i64 10,.str [45]),(.int .i64 11,.str [60]),(.int .i64 12,.str [60,61]),(.int .i64 13,.str [62]),(.int .i64 14,.str [62,61]),(.int .i64 15,.str [61,61])] 16 [33,61] (by rfl) cf h;have d:=λ(cf:F8) (mp:OF) (ls:List o7) (env:T o7) (h:mp ls env=.map m.nx)=>jm b a [(.int .i64 6,.str [42]),(.int .i64 7,.str [47]),(.int .i64 8,.str [37]),(.int .i64 9,.str [43]),(.int .i64 10,.str [45]),(.int .i64 11,.str [60]),(.int .i64 12,.str [60,61]),(.int .i64 13,.str [62]),(.int .i64 14,.str [62,61]),(.int .i64 15,.str [61,61]),(.int .i64 16,.str [33,61])] 17 [97,110,100] (by rfl) cf h
 have g:=λ(cf:F8) (mp:OF) (ls:List o7) (env:T o7) (h:mp ls env=.map m.nx)=>jm b a [(.int .i64 6,.str [42]),(.int .i64 7,.str [47]),(.int .i64 8,.str [37]),(.int .i64 9,.str [43]),(.int .i64 10,.str [45]),(.int .i64 11,.str [60]),(.int .i64 12,.str [60,61]),(.int .i64 13,.str [62]),(.int .i64 14,.str [62,61]),(.int .i64 15,.str [61,61]),(.int .i64 16,.str [33,61]),(.int .i64 17,.str [97,110,100])] 18 [111,114] (by rfl) cf h;simp only [abX,aat] at i j k l o p q r s t c d g;have e:aO=[(.int .i64 6,.str [42]),(.int .i64 7,.str [47]),(.int .i64 8,.str [37]),(.int .i64 9,.str [43]),(.int .i64 10,.str [45]),(.int .i64 11,.str [60]),(.int .i64 12,.str [60,61]),(.int .i64 13,.str [62]),(.int .i64 14,.str [62,61]),(.int .i64 15,.str [61,61]),(.int .i64 16,.str [33,61]),(.int .i64 17,.str [97,110,100]),(.int .i64 18,.str [111,114])]:=rfl;rw [e];simp [AZ,mU,dS,vv,Fv,i,j,k,l,o,p,q,r,s,t,c,d,g]
theorem YK {K:Known}{f:FuncId}(c:K.fns f=some MJ)(b:∀args m,K.eff f args m=none)(N n:Nat):∀e∈aN,∀m:Mem,r9 K N (n+1) (.func f) [.int .i64 e.2.2.2] m=some [⟨.int .i64 e.1,m⟩]:=by intro e a m;rw [MK c rfl b];simp only [aN,Y4,ae1,or_false] at a;rcases a with rfl | rfl | rfl | rfl | rfl | rfl | rfl | rfl | rfl | rfl | rfl | rfl | rfl<;>rfl
def Ba:aW:=⟨false,[(some 0)],2,[.tmp 1],(o8 (p8 (K5 (Q5 (G6 (.bool false))) (sL sH) u7)) (o8 (p8 (p9 (O8 WU sGe (K3 gH) (G6 (.int .u8 (.ofNat 97)))) (p9 (gP G8 true (Q5 (K3 gH))) (p9 (gP dx true (O8 QX UK G8 (G6 (.int .u8 (.ofNat 122))))) (p9 (gy dV G8 (G6 (.bool false))) (K5 (Q5 G8) (sL sH) u7)))))) G7)),none⟩
def VU (fi:Nat):aW:=⟨false,[(some 2),(some 0)],5,[.tmp 4],(o8 (p8 (K5 (Q5 (G6 (.bool false))) (sR (sL sH)) u7)) (o8 (p8 (K5 (Q5 (G6 (.int .i64 (.ofNat 3)))) (sL (sL sH)) u7)) (o8 (o8 (p8 (p9 (vD (K3 gH) (G6 (.int .i64 (.ofNat 0)))) (EA (E9 fi [G8]) (sL sH) u7))) (C9 (K3 (gL gH)) (p8 (K5 (Q5 (G6 (.int .i64 (.ofNat 1)))) (sL (sL sH)) u7)) F9)) (o8 (p8 (p9 (bV (K3 (gR gH))) (p9 (N9 0 G8) (I5 (qP G8) (p9 (KZ G8) (p9 (O8 NJ NV G8 (G6 (.int .i64 (.ofNat 0)))) (p9 (gP G8 true (Q5 (K3 (gR gH)))) (p9 (gP dx true (bV G8)) (p9 (gP dV true (N9 0 G8)) (I5 (QZ vo true (qP G8)) (p9 (gP (dM 4) true (aU 2 G8 (G6 (.int .i64 (.ofNat 0))))) (I5 (QZ (dM 5) true (bX 2 G8)) (p9 (gP (dM 6) true (Q5 (K3 (gL (gL gH))))) (p9 (gP (dM 7) true (Q5 (K3 gH))) (p9 (gP (dM 8) true (bG [(.int .i64 (.ofNat 0)),(.str [])] [(0,1,dx),(1,1,G8)])) (p9 (gP (dM 9) true (pEq (sW [.i,.s]) vo G8)) (p9 (gy (dM 10) G8 (G6 (.bool false))) (K5 (Q5 G8) (sR (sL sH)) u7)))))))))))))))))) G7)))),none⟩
theorem VW {K:Known}{f:FuncId}(d:K.fns f=some Ba)(c:∀args m,K.eff f args m=none)(N n:Nat):∀e∈aN,∃b t,e.2.2.1=b::t∧
  ∀m:Mem,r9 K N (n+1) (.func f) [.int .u8 (b.toNat:Int)] m=some [⟨.bool (decide (e.2.1=1)),m⟩]:=by
 intro e a;simp only [aN,Y4,ae1,or_false] at a;rcases a with rfl | rfl | rfl | rfl | rfl | rfl | rfl | rfl | rfl | rfl | rfl | rfl | rfl<;>exact⟨_,_,rfl,λm=>by rw [MK d rfl c];rfl⟩
theorem YL:∀e∈aN,e.2.1=1∨e.2.1=3:=by decide
theorem aiO (k n:Int)(s a:List UInt8):sW [.i,.s] (.agg [.int .i64 k,.str s]) (.agg [.int .i64 n,.str a])=some (decide (n=k)&&(a==s)):=by
 have h:sW [.i,.s] (.agg [.int .i64 k,.str s]) (.agg [.int .i64 n,.str a])=some (bi (bJ k n) (strEq s a) false):=by simp [sW,dz,IE,aK,eqStr];cases bJ k n<;>cases strEq s a<;>rfl
 rw [h,iR,iT];congr 1;by_cases h1:k=n;subst h1;rw [beq_self_eq_true,decide_eq_true rfl];show (s==a)=(true&&(a==s));rw [aeb];exact aaH.2 ⟨λh=>by simpa using (beq_iff_eq.1 h).symm,λh=>by simpa using (beq_iff_eq.1 h).symm⟩;rw [beq_eq_false_iff_ne.2 h1,decide_eq_false (ahE h1)];rfl
theorem afj {cf:F8}{h:kH}{N i r off:Nat}{M:Mem}{f:Option (Int×List UInt8)}(q:GR M r off f){b:UInt8}{t:List UInt8}{g:Bool}(j:cf (.func i) [.int .u8 (b.toNat:Int)] M=some [⟨.bool g,M⟩]):
  mU cf h N (VU i) [.ptr r off,.str (b::t)] M=some [⟨.bool (match f with | some (k,s)=>decide ((bif g then 1 else 3)=k)&&((b::t)==s) | none=>false),M⟩]:=by
 have e:∀(l r:T o7),vD (K3 gH) (G6 (.int .i64 0)) [] (.nd l (.str (b::t)) r)=some (.int .u8 (b.toNat:Int)):=λ_ _=>rfl;have a:∀(n:Int) (ls:List o7) (env:T o7),lay [(0,1,dx),(1,1,G8)] (.str (b::t) :: .int .i64 n::ls) env [.int .i64 0,.str []]=some [.int .i64 n,.str (b::t)]:=λ_ _ _=>rfl;obtain⟨v,d,⟨rfl,p⟩ | ⟨k,s,id,o,w,u,m,rfl⟩⟩:=q;rcases p with rfl | ⟨id,o,c,rfl⟩ | ⟨id,o,es,rfl⟩<;>cases g<;>simp [VU,mU,dS,vv,E9,e,j,d]
 rcases u with⟨c,rfl⟩ | ⟨es,rfl⟩<;>cases g<;>simp [VU,mU,dS,vv,E9,e,j,d,m,a,aiO,-VK,-VL]
theorem aiP {K:Known}{a c:Nat}(d:K.fns a=some (VU c))(g:K.fns c=some Ba)(j:∀f args m,K.eff f args m=none)(N n:Nat):
  ∀tok r off M,GR M r off tok->∀e∈aN,r9 K N (n+2) (.func a) [.ptr r off,.str e.2.2.1] M=some [⟨.bool (VT tok e),M⟩]:=by
 intro tok r off M q e k;obtain⟨b,t,i,l⟩:=VW g (j c) N n e k;rw [MK d rfl (j a),i,afj q (l M)];have o:(bif decide (e.2.1=1) then (1:Int) else 3)=e.2.1:=by rcases YL e k with h | h;rw [h];rfl;rw [h];rfl
 rw [o];unfold VT;cases tok with
 | none=>rfl
 | some p=>rw [i]
theorem abx {P:Program}{K:Known}(j:Yt P K){f c b g i:Nat}(l:K.fns f=some (MI c b g))(hs:K.fns c=some AZ)(o:K.fns b=some MJ)(k:K.fns g=some (VU i))(hi:K.fns i=some Ba)
  (a:∀f args m,K.eff f args m=none) {args:List o7} {m:Mem} {outs:List VM} (h:dD args m=some outs):
  Cn P f∧∀{ι:K7} {w:World},RM P K.base ι m w.heap->bB (m.nm ι) args->CallsIn Fence.wide 0 P f (z8 ι args).toArray w (S9 P K.base ι m w outs):=
 YJ j l (a f) (N:=14) (n:=2) (aP _) (λm e d=>PV hs (a c) 14 1 m e d) (YK o (a b) 14 1) (aiP k hi a 14 0) h
structure GV (m:Mem)(id rs:Nat)(l:List (List o7)):Prop where
 pos:0<rs
 len:∀r,r∈l->r.length=rs
 blk:∃c t c',m.get id=some (.cells rs c t)∧l.length<=c∧c<=c'∧T.Ok t c'∧∀i (h:i<l.length),t.get i=some l[i]
structure bT (id:Nat)(m m':Mem):Prop where
 ok:T.Ok m'.t m'.nx
 nx:m.nx<=m'.nx
 lim:m'.lim=m.lim
 old:∀i,i<m.nx->i≠id->m'.get i=m.get i
theorem bT.refl {id:Nat}{m:Mem}(h:T.Ok m.t m.nx):bT id m m:=⟨h,aP _,rfl,λ_ _ _=>rfl⟩
theorem bT.trans {id:Nat}{a b c:Mem}(h:bT id a b)(k:bT id b c):bT id a c:=
 ⟨k.ok,gI h.nx k.nx,k.lim.trans h.lim,λi d e=>(k.old i (J3 d h.nx) e).trans (h.old i d e)⟩
theorem Ext.toB {id:Nat}{a b:Mem}(h:Ext a b):bT id a b:=⟨h.ok,h.nx,h.lim,λi c _=>h.old i c⟩
theorem GV.same {m m':Mem}{id rs:Nat}{l:List (List o7)}(h:GV m id rs l)(e:m'.get id=m.get id):GV m' id rs l:=by obtain⟨p,f,c,t,a,b,d⟩:=h;exact⟨p,f,c,t,a,e.trans b,d⟩
theorem GV.ext {m m':Mem}{id rs:Nat}{l:List (List o7)}(h:GV m id rs l)(a:id<m.nx)(e:Ext m m'):GV m' id rs l:=h.same (e.old id a)
theorem GV.take {m:Mem}{id rs:Nat}{l:List (List o7)}(h:GV m id rs l)(k:Nat):GV m id rs (l.take k):=by
 obtain⟨p,n,c,t,b,e,q,d,f,g⟩:=h;refine⟨p,λr o=>n r (afr o),c,t,b,e,by simp;omega,d,f,λi j=>?_⟩;have a:i<l.length:=by simp at j;omega
 rw [g i a,aj2]
theorem GV.AO {m:Mem}{id rs:Nat}{l:List (List o7)}(h:GV m id rs l){i:Nat}(hi:i<l.length):AM.AO (m.get id) (i*rs) rs=some (.agg l[i]):=by obtain⟨p,f,c,t,o,d,r,q,s,e⟩:=h;have g:=f l[i] (abD hi);have b:=zu (rs:=rs) (n:=c) (rows:=t) (i:=i) (j:=0) (k:=rs) p (by omega) (e i hi) g (by omega);rw [Y7] at b;rw [d];show P6 (some (P9.cells rs c t)) (λa n rows=>ob (gK a n rows (i*rs) rs) λl=>some (o7.agg l))=_;rw [mg,b,O0,K9,L6 (by omega)]
theorem GV.ld1 {m:Mem}{id rs:Nat}{l:List (List o7)}(h:GV m id rs l){i j:Nat}(hi:i<l.length)(f:j<rs):AM.ld1 (m.get id) (i*rs+j)=l[i][j]?:=by obtain⟨p,r,c,t,g,d,o,k,q,e⟩:=h;rw [d];show P6 (some (P9.cells rs c t)) (λb n a=>cell1 b n a (i*rs+j))=_;rw [mg,xL f (by omega) (e i hi)]
theorem GV.store {m:Mem}{id rs:Nat}{l:List (List o7)}(h:GV m id rs l)(o:m.Ok)(a:id<m.nx)(d:m.lim<=id){i:Nat}(hi:i<l.length){row:List o7}(E:row.length=rs)(B:N7 row=true):
  ∃m',(∀{β:Type} (k:Mem->Option β),storeAt m id (i*rs) row k=k m')∧GV m' id rs (l.set i row)∧bT id m m':=by
 obtain⟨p,v,c,t,w,y,z,x,g,s⟩:=h;have D:Nat.div (i*rs) rs=i:=ahD i p;have G:Nat.mod (i*rs) rs=0:=Nat.mul_mod_left i rs;have f:=s i hi;have C:=v l[i] (abD hi);have F:aT rs c t (i*rs) row=some (t.put i row):=by
  unfold aT;rw [D,G,show Nat.blt i c=true from Y3.mpr (by omega),f];show bi (Nat.ble (Nat.add 0 (len' row)) rs) (some (t.put i (mM 0 row l[i]))) none=_;rw [I9,show Nat.ble (Nat.add 0 row.length) rs=true from Q6 (by show 0+row.length<=rs;omega),mV _ _ _ (by omega),ahr,Z9,
   abC (by omega)]
  simp
 refine⟨m.set id (.cells rs c (t.put i row)),λk=>?_,⟨p,λr q=>?_,c,t.put i row,w,?_,by simpa using z,x,T.Ok.put g i row (by omega),λj u=>?_⟩,?_⟩;rw [mh d B,y];show ob (ob (aT rs c t (i*rs) row) λb=>some (P9.cells rs c b)) _=_;rw [F];rfl;rcases List.mem_or_eq_of_mem_set q with h | rfl;exact v r h;exact E;rw [Mem.aB o a,if_pos rfl];have n:j<l.length:=by simpa using u
 rw [List.getElem_set];split;rename_i e;subst e;exact T.bM g _ _ (by omega);rename_i e;rw [T.bY g _ _ _ (by omega) e];exact s j n;exact⟨Mem.Ok.set o a _,by simp,rfl,λj u A=>by rw [Mem.aB o a,if_neg A]⟩
theorem Bb {rs n:Nat}{rows:T (List o7)}:∀(a b off:Nat),U4 rs n rows (a+b) off=ob (U4 rs n rows a off) λx=>ob (U4 rs n rows b (off+a)) λy=>some (x++y)
 | 0,b,off=>by rw [Z9,Y7];show _=ob (U4 rs n rows b off) λy=>some ([]++y);cases U4 rs n rows b off<;>rfl
 | a+1,b,off=>by
  rw [show a+1+b=(a+b)+1 from by omega];show ob (cell1 rs n rows off) (λv=>ob (U4 rs n rows (a+b) (off+1)) λl=>some (v::l))=ob (ob (cell1 rs n rows off) λv=>ob (U4 rs n rows a (off+1)) λl=>some (v::l)) _;rw [Bb a b (off+1),show off+1+a=off+(a+1) from by omega];cases cell1 rs n rows off with
  | none=>rfl
  | some v=>
   simp only [O0];cases U4 rs n rows a (off+1) with
   | none=>rfl
   | some x=>simp only [O0];cases U4 rs n rows b (off+(a+1))<;>rfl
theorem Bc {rs n:Nat}{rows:T (List o7)}{i:Nat}{row:List o7}(hi:i<n)(h:rows.get i=some row)(c:row.length=rs):
  ∀k j,j+k=rs->U4 rs n rows k (i*rs+j)=some (row.drop j):=by
 intro k;induction k with
 | zero=>intro j b;rw [abC (by omega)];rfl
 | succ k ih=>
  intro j b;show ob (cell1 rs n rows (i*rs+j)) (λv=>ob (U4 rs n rows k (i*rs+j+1)) λl=>some (v::l))=_;have a:j<row.length:=by omega
  rw [xL (by omega) hi h,y7 a,O0,show i*rs+j+1=i*rs+(j+1) from by omega,ih (j+1) (by omega),Z6 a];rfl
theorem Jk {rs n:Nat}{rows:T (List o7)}{l:List (List o7)}(c:∀r,r∈l->r.length=rs)(h:∀i (h:i<l.length),rows.get i=some l[i])(d:l.length<=n):
  ∀k i,i+k=l.length->U4 rs n rows (k*rs) (i*rs)=some (l.drop i).flatten:=by
 intro k;induction k with
 | zero=>intro i b;rw [abC (by omega),adR];rfl
 | succ k ih=>
  intro i b;have a:i<l.length:=by omega
  have:=Bc (n:=n) (i:=i) (by omega) (h i a) (c _ (abD a)) rs 0 (by omega);rw [Y7,K9] at this;rw [show (k+1)*rs=rs+k*rs from by rw [adU,Nat.one_mul,al5],Bb,this,O0,show i*rs+rs=(i+1)*rs from by rw [adU,Nat.one_mul],ih (i+1) (by omega),O0,Z6 a];rfl
theorem DV {rs:Nat}:∀(l:List (List o7)),(∀r,r∈l->r.length=rs)->rowsOf rs l.length l.flatten=some l
 | [],_=>rfl
 | r::l,h=>by have hr:=h r (by simp);show ob (takeN rs (r++l.flatten)) (λx=>ob (rowsOf rs l.length (kF rs (r++l.flatten))) λrest=>some (x::rest))=_;rw [jQ _ _ (by simp;omega),O0,jE,List.drop_left' hr,List.take_left' hr,DV l (λx hx=>h x (by simp [hx]))];rfl
theorem TW {m:Mem}(b:m.Ok){rs:Nat}(hp:0<rs){l:List (List o7)}(a:∀r,r∈l->r.length=rs):GV (m.new (.cells rs l.length (T.ofList l))) m.nx rs l:=
 ⟨hp,a,l.length,T.ofList l,l.length,by rw [Mem.K6 b,if_pos rfl],aP _,aP _,T.fO l,λi h=>by rw [T.au,y7 h]⟩
theorem Sk {m:Mem}{rs:Nat}{l:List (List o7)}(b:∀r,r∈l->r.length=rs):grown m rs l.length l.flatten=some [⟨.sliceU m.nx 0 l.length rs,m.new (.cells rs l.length (T.ofList l))⟩]:=by show ob (rowsOf rs l.length l.flatten) (λa=>one (o7.sliceU m.nx 0 l.length rs) (m.new (.cells rs l.length (T.ofList a))))=_;rw [DV l b];rfl
theorem mH:∀(a b:List o7),N7 (a++b)=(N7 a&&N7 b)
 | [],_=>rfl
 | v::a,b=>by show bi (H6 v) (N7 (a++b)) false=(bi (H6 v) (N7 a) false&&N7 b);rw [mH a b];cases H6 v<;>rfl
theorem uK {rs n:Nat}(hp:0<rs):∀(vs:List o7) (t:T (List o7)) (off k n':Nat),n<=n'->T.Ok t n'->k*rs<=off->off+vs.length<=n*rs->
  ∃t',jf rs n vs t off=some t'∧T.Ok t' n'∧∀i,i<k->t'.get i=t.get i
 | [],t,off,k,n',_,h,_,_=>⟨t,rfl,h,λ_ _=>rfl⟩
 | v::vs,t,off,k,n',hnn,h,hk,hn=>by
  have hlt:off<n*rs:=by simp at hn;omega
  have hd:off / rs<n:=Nat.div_lt_of_lt_mul (by rw [adV];exact hlt);obtain⟨row,hrow⟩:=(h.get _).2 (J3 hd hnn);have hmod:off%rs<rs:=aiW _ hp;have hkd:k<=off / rs:=(adW hp).2 hk;have hw:aT rs n t off [v]=some (t.put (off / rs) (mM (off%rs) [v] row)):=by show bi (Nat.blt (off / rs) n) (ob (t.get (off / rs)) λrow=>bi (Nat.ble (off%rs+1) rs) (some (t.put (off / rs) (mM (off%rs) [v] row))) none) none=_;rw [show Nat.blt (off / rs) n=true from Y3.mpr hd,hrow,Q9,O0,show Nat.ble (off%rs+1) rs=true from Q6 hmod];rfl
  obtain⟨t',h1,h2,h3⟩:=uK hp vs (t.put (off / rs) (mM (off%rs) [v] row)) (off+1) k n' hnn (T.Ok.put h _ _ (J3 hd hnn)) (by omega) (by simp at hn;omega);refine⟨t',?_,h2,λi hi=>?_⟩;show ob (aT rs n t off [v]) (λrows'=>jf rs n vs rows' (off+1))=_;rw [hw];exact h1;rw [h3 i hi,T.bY h _ _ _ (by omega) (by omega)]
theorem GV.clear {m:Mem}{id rs:Nat}{l:List (List o7)}(h:GV m id rs l)(s:m.Ok)(b:id<m.nx)(o:m.lim<=id){k:Nat}(L:k<=l.length){a:List o7}(G:k*rs+a.length<=l.length*rs)(F:N7 a=true):
  ∃m',(∀{β:Type} (f:Mem->Option β),jX m id (k*rs) a f=f m')∧GV m' id rs (l.take k)∧bT id m m':=by
 have y:=h.take k;obtain⟨p,M,c,t,w,z,A,x,B,C⟩:=h;cases a with
 | nil=>exact⟨m,λf=>rfl,y,bT.refl s⟩
 | cons v a=>
  obtain⟨u,H,I,J⟩:=uK p (v::a) t (k*rs) k w x B (aP _) (gI G (aas _ A));refine⟨m.set id (.cells rs c u),λ{β} f=>?_,⟨p,y.len,c,u,w,by rw [Mem.aB s b,if_pos rfl],by simp;omega,x,I,λi D=>?_⟩,Mem.Ok.set s b _,by simp,rfl,λj K E=>by rw [Mem.aB s b,if_neg E]⟩;show bi (Nat.blt id m.lim) none (bi (N7 (v::a)) (P6 (m.get id) λr n q=>ob (jf r n (v::a) q (k*rs)) λd=>f (m.set id (.cells r n d))) none)=f (m.set id (.cells rs c u));rw [show Nat.blt id m.lim=false from aa4.2 λe=>absurd (Y3.mp e) (Nat.not_lt.2 o),F,z,U5,Q9,mg,H];rfl;have g:i<k∧i<l.length:=by simp at D;omega
  rw [J i g.1,C i g.2,aj2]
def mZ (m:Mem)(v:o7)(xs:List o7):Prop:=
 (v=.nilSlice∧xs=[])∨∃id off,((∃c,v=.slice id off xs.length c∧xs.length<=c)∨v=.sliceU id off xs.length 1)∧id<m.nx∧
  (xs=[]∨∃n rows,m.get id=some (.cells 1 n rows)∧off+xs.length<=n∧∀i (h:i<xs.length),rows.get (off+i)=some [xs[i]])
def GX (m:Mem)(v:o7)(xs:List o7):Prop:=
 ∃id off c,v=.slice id off xs.length c∧xs.length<=c∧id<m.nx∧
  (xs=[]∨∃n rows,m.get id=some (.cells 1 n rows)∧off+xs.length<=n∧∀i (h:i<xs.length),rows.get (off+i)=some [xs[i]])
theorem GX.vs {m:Mem}{v:o7}{xs:List o7}(h:GX m v xs):mZ m v xs:=by obtain⟨id,a,c,b,d,e,f⟩:=h;exact .inr ⟨id,a,.inl ⟨c,b,d⟩,e,f⟩
theorem mZ.keep {m m':Mem}{v:o7}{xs:List o7}(a:mZ m v xs)(b:m.nx<=m'.nx)(h:∀id n rows,id<m.nx->m.get id=some (.cells 1 n rows)->(∃o l c,v=.slice id o l c)∨(∃o l e,v=.sliceU id o l e)->m'.get id=m.get id):mZ m' v xs:=by rcases a with a | ⟨id,off,h1,h2,h3⟩;exact .inl a;refine .inr ⟨id,off,h1,J3 h2 b,?_⟩;rcases h3 with h3 | ⟨n,rows,h4,h5,h6⟩;exact .inl h3;refine .inr ⟨n,rows,(h id n rows h2 h4 ?_).trans h4,h5,h6⟩;rcases h1 with⟨c,rfl,_⟩ | rfl;exact .inl ⟨_,_,_,rfl⟩;exact .inr ⟨_,_,_,rfl⟩
theorem mZ.ext {m m':Mem}(h:Ext m m'){v:o7}{xs:List o7}(b:mZ m v xs):mZ m' v xs:=b.keep h.nx λid _ _ a _ _=>h.old id a
theorem GX.keep {m m':Mem}{v:o7}{xs:List o7}(g:GX m v xs)(f:m.nx<=m'.nx)(h:∀id n rows,id<m.nx->m.get id=some (.cells 1 n rows)->(∃o l c,v=.slice id o l c)->m'.get id=m.get id):GX m' v xs:=by obtain⟨id,b,c,rfl,e,d,a⟩:=g;refine⟨id,b,c,rfl,e,J3 d f,?_⟩;rcases a with a | ⟨n,rows,h4,h5,h6⟩;exact .inl a;exact .inr ⟨n,rows,(h id n rows d h4 ⟨_,_,_,rfl⟩).trans h4,h5,h6⟩
theorem GX.ext {m m':Mem}(h:Ext m m'){v:o7}{xs:List o7}(b:GX m v xs):GX m' v xs:=b.keep h.nx λid _ _ a _ _=>h.old id a
theorem mZ.cells {m:Mem}{v:o7}{xs:List o7}(h:mZ m v xs):v.cells=[v]:=by rcases h with⟨rfl,rfl⟩ | ⟨id,off,⟨c,rfl,_⟩ | rfl,_⟩<;>rfl
theorem mZ.nN {m:Mem}{v:o7}{xs:List o7}(h:mZ m v xs){β:Type}(p:o7->β)(q:β):dW v p q=q:=by rcases h with⟨rfl,rfl⟩ | ⟨id,off,⟨c,rfl,_⟩ | rfl,_⟩<;>rfl
theorem mZ.H6 {m:Mem}{v:o7}{xs:List o7}(h:mZ m v xs):Go.AM.H6 v=true:=by rcases h with⟨rfl,rfl⟩ | ⟨id,off,⟨c,rfl,_⟩ | rfl,_⟩<;>rfl
theorem mZ.len {m:Mem}{v:o7}{xs:List o7}(h:mZ m v xs):lG v (some (o7.int .i64 0)) (λ_ _ n _=>some (.int .i64 n)) (λ_ _ n _=>some (.int .i64 n))=some (.int .i64 xs.length):=by rcases h with⟨rfl,rfl⟩ | ⟨id,off,⟨c,rfl,_⟩ | rfl,_⟩<;>rfl
theorem mZ.lenOf {m:Mem}{v:o7}{xs:List o7}(h:mZ m v xs):Go.AM.lenOf v=some xs.length:=by rcases h with⟨rfl,rfl⟩ | ⟨id,off,⟨c,rfl,_⟩ | rfl,_⟩<;>rfl
theorem mZ.at {m:Mem}{v:o7}{xs:List o7}(h:mZ m v xs){i:Nat}(hi:i<xs.length):
  ∃id o,lG v none (λid off len _=>idx len (.int .i64 i) λk=>some (o7.ptr id (off+k))) (λid off len _=>idx len (.int .i64 i) λk=>some (o7.ptr id (off+k)))=some (.ptr id o)∧id<m.nx∧ld1 (m.get id) o=some xs[i]:=by
 rcases h with⟨_,rfl⟩ | ⟨id,off,h1,h2,h3⟩;simp at hi;rcases h3 with rfl | ⟨n,rows,h4,h5,h6⟩;simp at hi;refine⟨id,off+i,?_,h2,by rw [h4];exact TQ (by omega) (h6 i hi)⟩;rcases h1 with⟨c,rfl,_⟩ | rfl;simp only [sj];rw [qL _ _ _ hi];simp only [pG];rw [qL _ _ _ hi]
theorem GX.tail {m:Mem}{v x:o7}{xs:List o7}(h:GX m v (x::xs)):∃v',GX m v' xs∧(∀(y a:OF) (ls:List o7) (env:T o7) (nid:Nat),y ls env=v->a ls env=.int .i64 1->lSl 1 y (some a) none ls env nid=some (v',none))∧∀i o l c,v'=.slice i o l c->∃o2 l2 c2,v=.slice i o2 l2 c2:=by
 obtain⟨id,b,c,rfl,f,g,d⟩:=h;have k:xs.length+1<=c:=by simpa using f
 refine⟨.slice id (bi (Nat.beq 1 c) b (Nat.add b (Nat.mul 1 1))) xs.length (c-1),⟨id,_,c-1,rfl,by omega,g,?_⟩,λy a ls env nid p j=>?_,λi o l q h=>by cases h;exact⟨_,_,_,rfl⟩⟩;by_cases hx:xs=[];exact .inl hx;have s:=ael.2 hx;rcases d with d | ⟨n,rows,h4,h5,h6⟩;cases d;refine .inr ⟨n,rows,h4,?_⟩;rw [dJ,if_neg (by omega)];have e:Nat.add b (Nat.mul 1 1)=b+1:=rfl;rw [e];refine⟨by simp at h5;omega,λi r=>?_⟩;have:=h6 (i+1) (by simp;omega);rw [show b+1+i=b+(i+1) from by omega,this];rfl;show jC (a ls env) (λl=>L9 nid 1 (y ls env) l none)=_;rw [j,p];show L9 nid 1 (.slice id b (xs.length+1) c) 1 none=_;show bi (Nat.ble 1 (xs.length+1)) (bi (Nat.ble (xs.length+1) c) (some (o7.slice id (bi (Nat.beq 1 c) b (Nat.add b (Nat.mul 1 1))) (Nat.sub (xs.length+1) 1) (Nat.sub c 1),none)) none) none=_;rw [show Nat.ble 1 (xs.length+1)=true from Q6 (by omega),show Nat.ble (xs.length+1) c=true from Q6 k];rfl
structure Fr (lo p:Nat)(m m':Mem):Prop where
 ok:T.Ok m'.t m'.nx
 nx:m.nx<=m'.nx
 lim:m'.lim=m.lim
 old:∀i,i<lo->i≠p->m'.get i=m.get i
theorem Fr.refl {lo p:Nat}{m:Mem}(h:T.Ok m.t m.nx):Fr lo p m m:=⟨h,aP _,rfl,λ_ _ _=>rfl⟩
theorem Fr.trans {lo p:Nat}{a b c:Mem}(h:Fr lo p a b)(k:Fr lo p b c):Fr lo p a c:=
 ⟨k.ok,gI h.nx k.nx,k.lim.trans h.lim,λi d e=>(k.old i d e).trans (h.old i d e)⟩
theorem Ext.fr {lo p:Nat}{m m':Mem}(h:Ext m m')(a:lo<=m.nx):Fr lo p m m':=⟨h.ok,h.nx,h.lim,λi b _=>h.old i (by omega)⟩
theorem bT.fr {lo p:Nat}{m m':Mem}(h:bT p m m')(a:lo<=m.nx):Fr lo p m m':=⟨h.ok,h.nx,h.lim,λi c b=>h.old i (by omega) b⟩
theorem Fr.ext {lo p:Nat}{m m':Mem}(h:Fr lo p m m')(a:m.nx<=lo)(hp:lo<=p):Ext m m':=⟨h.ok,h.nx,h.lim,λi b=>h.old i (by omega) (by omega)⟩
theorem Fr.mono {lo p q:Nat}{m m':Mem}(h:Fr lo p m m')(hp:lo<=p):Fr lo q m m':=⟨h.ok,h.nx,h.lim,λi a _=>h.old i a (by omega)⟩
theorem Fr.down {lo a p:Nat}{m m':Mem}(h:Fr lo p m m')(d:a<=lo):Fr a p m m':=⟨h.ok,h.nx,h.lim,λi c b=>h.old i (by omega) b⟩
def Er (lo:Nat)(m:Mem)(v:o7)(l:List o7):Prop:=
 (v=.nilSlice∧l=[])∨∃id,lo<=id∧id<m.nx∧N7 l=true∧GV m id 1 (l.map ([·]))∧(v=.slice id 0 l.length l.length∨v=.sliceU id 0 l.length 1)
theorem Er.nil (lo:Nat)(m:Mem):Er lo m .nilSlice []:=.inl ⟨rfl,rfl⟩
theorem Er.keep {lo:Nat}{m m':Mem}{v:o7}{l:List o7}(h:Er lo m v l)(a:m.nx<=m'.nx)(b:∀i,lo<=i->i<m.nx->m'.get i=m.get i):Er lo m' v l:=by rcases h with h | ⟨id,h1,h2,h3,h4,h5⟩;exact .inl h;exact .inr ⟨id,h1,J3 h2 a,h3,h4.same (b id h1 h2),h5⟩
theorem Er.ext {lo:Nat}{m m':Mem}{v:o7}{l:List o7}(h:Er lo m v l)(e:Ext m m'):Er lo m' v l:=h.keep e.nx λi _ a=>e.old i a
theorem Er.vs {lo:Nat}{m:Mem}{v:o7}{l:List o7}(h:Er lo m v l):mZ m v l:=by rcases h with h | ⟨id,h1,h2,h3,h4,h5⟩;exact .inl h;obtain⟨p,g,c,t,f,b,d,j,k,e⟩:=h4;refine .inr ⟨id,0,?_,h2,.inr ⟨c,t,b,by simpa using d,λi a=>?_⟩⟩;rcases h5 with h5 | h5;exact .inl ⟨_,h5,aP _⟩;exact .inr h5;rw [Z9,e i (by simpa using a)];simp
theorem Er.sl {lo:Nat}{m:Mem}{v:o7}{xs:List Int}(h:Er lo m v (ints xs)):yh m v xs:=by
 have a:(ints xs).length=xs.length:=by simp [ints]
 rcases h with⟨h,h'⟩ | ⟨id,h1,h2,h3,h4,h5⟩;exact .inl ⟨h,by simpa [ints] using h'⟩;obtain⟨p,j,c,t,g,d,e,k,l,f⟩:=h4;rw [a] at h5;refine .inr ⟨(id,0),?_,h2,.inr ⟨c,t,d,by simpa [ints] using e,λi b=>?_⟩⟩;rcases h5 with h5 | h5;exact .inl ⟨_,h5⟩;exact .inr ⟨_,h5⟩;rw [Z9,f i (by simpa [ints] using b)];simp [ints]
theorem adD {n bytes:Nat}(h:n<=100000)(hb:1<=bytes∧bytes<=1000):big n bytes 1=true:=by show bi (Nat.ble ((2*n+2048)*bytes) 281474976710656) (bi true (Nat.ble 1 bytes) false) false=true;rw [show Nat.ble ((2*n+2048)*bytes) 281474976710656=true from Q6 (gI (amq (show 2*n+2048<=202048 by omega) hb.2) (by decide)),show Nat.ble 1 bytes=true from Q6 hb.1];rfl
theorem Fr.new {lo:Nat}{m:Mem}(c:m.Ok)(a:lo<=m.nx)(b:P9):Fr lo lo m (m.new b):=((Ext.refl c).new b).fr a
theorem C8:∀a b:List UInt8,strEq a b=decide (a=b)
 | [],[]=>rfl
 | [],_ :: _=>rfl
 | _ :: _,[]=>rfl
 | x::a,y::b=>by show bi (Nat.beq x.toNat y.toNat) (strEq a b) false=_;rw [dJ,C8 a b];by_cases h:x=y;subst h;rw [if_pos rfl];simp;rw [if_neg (λe=>h (adT.1 e))];simp [h]
@[simp] theorem anD (a b:List UInt8):iP a b=some (.bool (decide (a=b))):=by rw [← C8];rfl
@[simp] theorem anE (a b:List UInt8):NK a b=some (.bool (!decide (a=b))):=by rw [← C8];rfl
theorem O7 {a b:List UInt8}(h:a.length+b.length<9223372036854775808):Q0 a b=some (.str (a++b)):=by show bi (Nat.blt (Nat.add (len' a) (len' b)) 9223372036854775808) (some (o7.str (aJ a b))) none=_;rw [I9,I9,P8,show Nat.blt (Nat.add a.length b.length) 9223372036854775808=true from Y3.mpr h];rfl
@[simp] theorem aiQ (a b:List UInt8):eqStr (.str a) (.str b)=some (decide (a=b)):=by rw [← C8];rfl
section
variable {x lo hi:OF}{ls:List o7}{env:T o7}{s:List UInt8}{l h:Nat}
theorem Bf (c:x ls env=.str s)(b:hi ls env=.int .i64 (h:Int))(a:h<=s.length):qO x none (some hi) ls env=some (.str (s.take h)):=by
 show mO (x ls env) (λs=>jC (hi ls env) λh=>bi (Nat.ble 0 h) (bi (Nat.ble h (len' s)) (ob (takeN (Nat.sub h 0) (kF 0 s)) λr=>some (o7.str r)) none) none)=_;rw [c,Mf,b,Mh,GD,show Nat.ble 0 h=true from Q6 (aft _),I9,show Nat.ble h s.length=true from Q6 a,Q9,Q9,jE,
  show Nat.sub h 0=h from rfl,K9,jQ _ _ a];rfl
theorem YM (c:x ls env=.str s)(b:lo ls env=.int .i64 (l:Int))(a:l<=s.length):qO x (some lo) none ls env=some (.str (s.drop l)):=by
 show mO (x ls env) (λs=>jC (lo ls env) λl=>bi (Nat.ble l (len' s)) (bi (Nat.ble (len' s) (len' s)) (ob (takeN (Nat.sub (len' s) l) (kF l s)) λr=>some (o7.str r)) none) none)=_;rw [c,Mf,b,Mh,GD,I9,show Nat.ble l s.length=true from Q6 a,show Nat.ble s.length s.length=true from Q6 (aP _),Q9,Q9,jE,
  show Nat.sub s.length l=s.length-l from rfl,jQ _ _ (by simp),L6 (by simp)];rfl
theorem Bg (d:x ls env=.str s)(c:lo ls env=.int .i64 (l:Int))(a:l<s.length):vD x lo ls env=some (.int .u8 (s[l].toNat:Nat)):=by show mO (x ls env) (λs=>jC (lo ls env) λk=>ob (nO k s) λb=>some (o7.int .u8 b.toNat))=_;rw [d,Mf,c,Mh,GD,jN,y7 a];rfl
theorem ML {b:UInt8}{t:List UInt8}(c:x ls env=.str (b::t))(a:lo ls env=.int .i64 0):vD x lo ls env=some (.int .u8 (b.toNat:Nat)):=by have:=Bg (l:=0) c (by simpa using a) (by simp);simpa using this
end
def strs (l:List (List UInt8)):List o7:=l.map o7.str
theorem wO (l:List (List UInt8)):(strs l).length=l.length:=by simp [strs]
def fT (m:Mem)(rs:Nat)(v:o7)(l:List (List o7)):Prop:=
 (v=.nilSlice∧l=[])∨∃id o,((∃c,v=.slice id (o*rs) l.length c∧l.length<=c)∨v=.sliceU id (o*rs) l.length rs)∧id<m.nx∧
  (l=[]∨∃n rows,m.get id=some (.cells rs n rows)∧o+l.length<=n∧(∀r,r∈l->r.length=rs)∧∀i (h:i<l.length),rows.get (o+i)=some l[i])
section
variable {m m':Mem}{rs:Nat}{v:o7}{l:List (List o7)}
theorem fT.keep (a:fT m rs v l)(b:m.nx<=m'.nx)(h:∀id n rows,id<m.nx->m.get id=some (.cells rs n rows)->(∃o l c,v=.slice id o l c)∨(∃o l e,v=.sliceU id o l e)->m'.get id=m.get id):fT m' rs v l:=by rcases a with a | ⟨id,o,h1,h2,h3⟩;exact .inl a;refine .inr ⟨id,o,h1,J3 h2 b,?_⟩;rcases h3 with h3 | ⟨n,rows,h4,h5⟩;exact .inl h3;refine .inr ⟨n,rows,(h id n rows h2 h4 ?_).trans h4,h5⟩;rcases h1 with⟨c,rfl,_⟩ | rfl;exact .inl ⟨_,_,_,rfl⟩;exact .inr ⟨_,_,_,rfl⟩
theorem fT.ext (h:Ext m m')(b:fT m rs v l):fT m' rs v l:=b.keep h.nx λid _ _ a _ _=>h.old id a
theorem fT.cells (h:fT m rs v l):v.cells=[v]:=by rcases h with⟨rfl,rfl⟩ | ⟨id,off,⟨c,rfl,_⟩ | rfl,_⟩<;>rfl
theorem fT.nN (h:fT m rs v l){β:Type}(p:o7->β)(q:β):dW v p q=q:=by rcases h with⟨rfl,rfl⟩ | ⟨id,off,⟨c,rfl,_⟩ | rfl,_⟩<;>rfl
theorem fT.H6 (h:fT m rs v l):Go.AM.H6 v=true:=by rcases h with⟨rfl,rfl⟩ | ⟨id,off,⟨c,rfl,_⟩ | rfl,_⟩<;>rfl
theorem fT.len (h:fT m rs v l):lG v (some (o7.int .i64 0)) (λ_ _ n _=>some (.int .i64 n)) (λ_ _ n _=>some (.int .i64 n))=some (.int .i64 l.length):=by rcases h with⟨rfl,rfl⟩ | ⟨id,off,⟨c,rfl,_⟩ | rfl,_⟩<;>rfl
theorem fT.lenOf (h:fT m rs v l):Go.AM.lenOf v=some l.length:=by rcases h with⟨rfl,rfl⟩ | ⟨id,off,⟨c,rfl,_⟩ | rfl,_⟩<;>rfl
theorem VX {n i rs:Nat}{rows:T (List o7)}{r:List o7}(hi:i<n)(h:rows.get i=some r)(d:r.length=rs){j k:Nat}(b:j<rs)(c:j+k<=rs):AO (some (.cells rs n rows)) (i*rs+j) k=some (.agg ((r.drop j).take k)):=by show P6 (some (P9.cells rs n rows)) (λa n rows=>ob (gK a n rows (i*rs+j) k) λl=>some (o7.agg l))=_;rw [mg,zu b hi h d c,O0]
theorem fT.at (h:fT m rs v l){i:Nat}(hi:i<l.length):
  ∃id o,lG v none (λid off len _=>idx len (.int .i64 i) λk=>some (o7.ptr id (off+k*rs))) (λid off len _=>idx len (.int .i64 i) λk=>some (o7.ptr id (off+k*rs)))=some (.ptr id o)∧id<m.nx∧
   (l[i]).length=rs∧(∀j k,j<rs->j+k<=rs->AO (m.get id) (o+j) k=some (.agg (((l[i]).drop j).take k)))∧∀j,j<rs->ld1 (m.get id) (o+j)=(l[i])[j]?:=by
 rcases h with⟨_,rfl⟩ | ⟨id,off,h1,h2,h3⟩;simp at hi;rcases h3 with rfl | ⟨n,a,h4,h5,h7,h6⟩;simp at hi;have b:=h7 l[i] (abD hi);refine⟨id,off*rs+i*rs,?_,h2,b,λj k d f=>?_,λj d=>?_⟩;rcases h1 with⟨c,rfl,_⟩ | rfl;simp only [sj];rw [qL _ _ _ hi];simp only [pG];rw [qL _ _ _ hi];rw [← adU,h4];exact VX (by omega) (h6 i hi) b d f;rw [← adU,h4];show P6 (some (P9.cells rs n a)) (λe n a=>cell1 e n a ((off+i)*rs+j))=_;rw [mg,xL d (by omega) (h6 i hi)]
end
def bZ (lo rs:Nat)(m:Mem)(v:o7)(l:List (List o7)):Prop:=
 (v=.nilSlice∧l=[])∨∃id,lo<=id∧id<m.nx∧N7 l.flatten=true∧GV m id rs l∧l≠[]∧(v=.slice id 0 l.length l.length∨v=.sliceU id 0 l.length rs)
section
variable {m m':Mem}{lo rs:Nat}{v:o7}{l:List (List o7)}
theorem bZ.nil (lo rs:Nat)(m:Mem):bZ lo rs m .nilSlice []:=.inl ⟨rfl,rfl⟩
theorem bZ.keep (h:bZ lo rs m v l)(a:m.nx<=m'.nx)(b:∀i,lo<=i->i<m.nx->m'.get i=m.get i):bZ lo rs m' v l:=by rcases h with h | ⟨id,h1,h2,h3,h4,h5⟩;exact .inl h;exact .inr ⟨id,h1,J3 h2 a,h3,h4.same (b id h1 h2),h5⟩
theorem bZ.ext (h:bZ lo rs m v l)(e:Ext m m'):bZ lo rs m' v l:=h.keep e.nx λi _ a=>e.old i a
theorem bZ.lt (h:bZ lo rs m v l){i o n e:Nat}(a:v=.sliceU i o n e):lo<=i∧i<m.nx:=by rcases h with⟨rfl,_⟩ | ⟨id,h1,h2,_,_,_,rfl | rfl⟩;cases a;cases a;cases a;exact⟨h1,h2⟩
theorem bZ.down {a:Nat}(h:bZ lo rs m v l)(b:a<=lo):bZ a rs m v l:=by rcases h with h | ⟨id,h1,h2⟩;exact .inl h;exact .inr ⟨id,gI b h1,h2⟩
theorem bZ.slice (h:bZ lo rs m v l):fT m rs v l:=by rcases h with h | ⟨id,h1,h2,h3,h4,_,h5⟩;exact .inl h;obtain⟨p,b,c,t,g,d,e,j,k,f⟩:=h4;refine .inr ⟨id,0,?_,h2,.inr ⟨c,t,d,by simpa using e,b,λi a=>?_⟩⟩;rw [adR];rcases h5 with h5 | h5;exact .inl ⟨_,h5,aP _⟩;exact .inr h5;simp only [Z9];exact f i a
theorem YN {n bytes es:Nat}(h:n<=100000)(hb:1<=bytes∧bytes<=1000)(a:1<=es):big n bytes es=true:=by show bi (Nat.ble ((2*n+2048)*bytes) 281474976710656) (bi (Nat.ble 1 es) (Nat.ble 1 bytes) false) false=true;rw [show Nat.ble ((2*n+2048)*bytes) 281474976710656=true from Q6 (gI (amq (show 2*n+2048<=202048 by omega) hb.2) (by decide)),show Nat.ble 1 bytes=true from Q6 hb.1,show Nat.ble 1 es=true from Q6 a];rfl
theorem PW (e:m.Ok)(a:lo<=m.nx)(hp:0<rs)(c:∀r,r∈l->r.length=rs)(d:N7 l.flatten=true)(b:l≠[]):grown m rs l.length l.flatten=some [⟨.sliceU m.nx 0 l.length rs,m.new (.cells rs l.length (T.ofList l))⟩]∧bZ lo rs (m.new (.cells rs l.length (T.ofList l))) (.sliceU m.nx 0 l.length rs) l:=
 ⟨Sk (m:=m) c,.inr ⟨m.nx,a,by simp,d,TW e hp c,b,.inr rfl⟩⟩
theorem YO {bytes:Nat}{r:List o7}(f:m.Ok)(N:m.lim<=lo)(y:lo<=m.nx)(hp:0<rs)(h:bZ lo rs m v l)(I:r.length=rs)(F:N7 r=true)(hb:l.length+1<=100000)(q:1<=bytes∧bytes<=1000):
  ∃v' m',Dj m rs bytes 1 r v=some [⟨v',m'⟩]∧bZ m.nx rs m' v' (l ++ [r])∧Fr lo lo m m'∧(∀i,i<m.nx->(∀o n e,v≠.sliceU i o n e)->m'.get i=m.get i):=by
 have B:∀b,∀i,i<m.nx->(∀o n e,v≠.sliceU i o n e)->(m.new b).get i=m.get i:=λb i C _=>by rw [Mem.K6 f,if_neg (by omega)]
 have s:[r].flatten=r:=by simp
 rcases h with⟨rfl,rfl⟩ | ⟨id,i1,i2,i3,ha,hne,K⟩;obtain⟨g,o⟩:=PW (lo:=m.nx) (rs:=rs) (l:=[r]) f (aP _) hp (by simpa using I) (by rw [s];exact F) (by simp);refine⟨_,_,?_,by rw [abX];exact o,Fr.new f y _,B _⟩;rw [← g,s];show bi (big 1 bytes rs) _ none=_;rw [YN (by simp) q hp];rfl;have u:N7 (l ++ [r]).flatten=true:=by rw [ajD,s,mH,i3,F];rfl
 have z:∀x,x∈l ++ [r]->x.length=rs:=λx V=>by rcases aau.1 V with h | h;exact ha.len x h;rw [aA.1 h];exact I
 obtain⟨p,U,c,t,E,O,P,Z,D,Q⟩:=ha;have k:0<l.length:=ael.2 hne;have J:U4 rs c t (l.length*rs) 0=some l.flatten:=by
  have:=Jk (rs:=rs) (n:=c) (rows:=t) U Q P l.length 0 (by simp)
  rwa [adR,K9] at this
 rcases K with rfl | rfl;obtain⟨g,o⟩:=PW (lo:=m.nx) (rs:=rs) (l:=l ++ [r]) f (aP _) hp z u (by simp);refine⟨_,_,?_,o,Fr.new f y _,B _⟩;rw [← g];show Fw m rs bytes 1 r id 0 l.length l.length=_;unfold Fw;have R:Nat.ble (Nat.add l.length 1) l.length=false:=by rw [aa4];intro e;have:l.length+1<=l.length:=U9 e;omega
 have S:aC m id 0 (Nat.mul l.length rs)=some l.flatten:=by have e:Nat.mul l.length rs=l.length*rs:=rfl;rw [e];obtain⟨j,M⟩:∃j,l.length*rs=j+1:=⟨l.length*rs-1,by have:=Nat.mul_pos k hp;omega⟩;rw [M];show P6 (m.get id) (λL W rows=>U4 L W rows (j+1) 0)=_;rw [O,mg,← M,J]
 rw [R,U5,show Nat.add l.length 1=(l ++ [r]).length from by simp,YN (by simpa using hb) q hp,Q9,S,O0,P8];simp;have a:(m.set id .dead).Ok:=Mem.Ok.set f i2 _;have G:∀b,Fr lo lo m ((m.set id .dead).new b):=λb=>⟨Mem.Ok.new a _,by simp,by simp,λi C _=>by
  rw [Mem.K6 a,if_neg (by simp;omega),Mem.aB f i2,if_neg (by omega)]⟩
 have w:Nat.ble m.lim id=true:=Q6 (by omega);have A:∃c'',l.length+1<=c''∧T.Ok (t.put l.length r) c'':=by
  by_cases hc:l.length<E;exact⟨E,hc,T.Ok.put D _ _ hc⟩;obtain rfl:E=l.length:=by omega
  exact⟨l.length+1,aP _,T.Ok.push D _⟩
 obtain⟨c'',X,Y⟩:=A;refine⟨.sliceU m.nx 0 (l.length+1) rs,(m.set id .dead).new (.cells rs (l.length+1) (t.put l.length r)),?_,.inr ⟨m.nx,aP _,by simp,u,⟨hp,z,l.length+1,t.put l.length r,c'',?_,by simp,X,Y,λi C=>?_⟩,by simp,.inr (by simp)⟩,G _,λi C K=>?_⟩;show QY m rs bytes 1 r id 0 l.length rs=_;show bi (Nat.beq rs rs) (bi (big (l.length+1) bytes rs) (bi (Nat.ble m.lim id) (bi (N7 r) (Js (m.get id) _ _) none) none) none) none=_;rw [YN (by simpa using hb) q hp,w,F,O,show Nat.beq rs rs=true from aaz rs];show bi (bi (Nat.beq rs rs) (bi (Nat.beq 0 0) (bi (Nat.ble l.length c) (bi (Nat.beq 1 1) (bi (Nat.beq (len' r) rs) (Nat.blt 0 l.length) false) false) false) false) false) _ _=_;rw [show Nat.ble l.length c=true from Q6 P,show Nat.blt 0 l.length=true from Eq.mpr Y3 k,I9,I,show Nat.beq rs rs=true from aaz rs];rfl;rw [Mem.K6 a];simp;by_cases hil:i=l.length;subst hil;rw [T.bM D _ _ (by omega)];simp;have d:i<l.length:=by simp at C;omega
 rw [T.bY D _ _ _ (by omega) (ahE hil),Q i d];simp [amb,d];have H:i≠id:=by rintro rfl;exact K _ _ _ rfl
 rw [Mem.K6 a,if_neg (by simp;omega),Mem.aB f i2,if_neg H]
theorem EO {bytes:Nat}{x:o7}{r:List o7}(F:m.Ok)(a:m.lim<=lo)(g:lo<=m.nx)(hp:0<rs)(h:bZ lo rs m v l)(w:fT m rs x [r])(u:r.length=rs)(D:N7 r=true)(hb:l.length+1<=100000)(b:1<=bytes∧bytes<=1000):
  ∃v' m',(∀(s y:OF) (cf:F8) (ls:List o7) (env:T o7),s ls env=v->y ls env=x->rG rs bytes s y cf ls env m=some [⟨v',m'⟩])∧bZ m.nx rs m' v' (l ++ [r])∧Fr lo lo m m'∧(∀i,i<m.nx->(∀o n e,v≠.sliceU i o n e)->m'.get i=m.get i):=by
 obtain⟨v',m',z,A,B,C⟩:=YO F a g hp h u D hb b;refine⟨v',m',λs y cf ls env G H=>?_,A,B,C⟩;have k:gN m rs 1 x=some r:=by
  rcases w with⟨_,h⟩ | ⟨id,o,q1,q2,q3⟩;cases h;rcases q3 with h | ⟨n,rows,e1,e2,e3,e4⟩;cases h;have p:aC m id (o*rs) (Nat.mul 1 rs)=some r:=by
   have e:Nat.mul 1 rs=1*rs:=rfl;have f:=Bc (rs:=rs) (n:=n) (rows:=rows) (i:=o) (by simp at e2;omega) (by simpa using e4 0 (by simp)) u;obtain⟨j,E⟩:∃j,1*rs=j+1:=⟨rs-1,by omega⟩;have d:rs=j+1:=by omega
   rw [e,E];show P6 (m.get id) (λt I rows=>U4 t I rows (j+1) (o*rs))=_;rw [e1,mg,← d];have:=f rs 0 (by omega)
   rwa [Y7,K9] at this
  rcases q1 with⟨c,rfl,_⟩ | rfl<;>exact p
 show ob (AM.lenOf (y ls env)) (λn=>ob (gN m rs n (y ls env)) λq=>Dj m rs bytes n q (s ls env))=_;rw [H,G,w.lenOf,O0];show ob (gN m rs 1 x) _=_;rw [k,O0];exact z
theorem Sl {bytes:Nat}{x:o7}{r:List o7}(k:m.Ok)(a:m.lim<=lo)(b:lo<=m.nx)(hp:0<rs)(h:bZ lo rs m v l)(q:fT m rs x [r])(p:r.length=rs)(j:N7 r=true)(hb:l.length+1<=100000)(c:1<=bytes∧bytes<=1000):
  ∃v' m',(∀(s y:OF) (cf:F8) (ls:List o7) (env:T o7),s ls env=v->y ls env=x->rG rs bytes s y cf ls env m=some [⟨v',m'⟩])∧bZ lo rs m' v' (l ++ [r])∧Fr lo lo m m'∧(∀i,i<m.nx->(∀o n e,v≠.sliceU i o n e)->m'.get i=m.get i):=by
 obtain⟨v',m',d,f,g⟩:=EO k a b hp h q p j hb c;exact⟨v',m',d,f.down b,g⟩
theorem zx (b:m.Ok)(r:List o7)(hp:0<r.length):fT (m.new (o9 r)) r.length (.slice m.nx 0 1 1) [r]:=
 .inr ⟨m.nx,0,.inl ⟨1,by simp,by simp⟩,by simp,.inr ⟨1,T.ofList [r],by rw [Mem.K6 b,if_pos rfl];simp [o9];rfl,by simp,by simp,λi a=>by
  obtain rfl:i=0:=by simpa using a
  rw [T.au];rfl⟩⟩
end
def rD (m:Mem)(S:Nat->Prop)(rs:Nat)(v:o7)(l:List (List o7)):Prop:=
 (v=.nilSlice∧l=[])∨∃id o,S id∧((∃c,v=.slice id (o*rs) l.length c∧l.length<=c)∨v=.sliceU id (o*rs) l.length rs)∧id<m.nx∧
  (l=[]∨∃n rows,m.get id=some (.cells rs n rows)∧o+l.length<=n∧(∀r,r∈l->r.length=rs)∧∀i (h:i<l.length),rows.get (o+i)=some l[i])
section
variable {m m':Mem}{S S':Nat->Prop}{rs:Nat}{v:o7}{l:List (List o7)}
theorem rD.slice (h:rD m S rs v l):fT m rs v l:=by rcases h with h | ⟨id,o,_,h⟩;exact .inl h;exact .inr ⟨id,o,h⟩
theorem rD.mono (h:rD m S rs v l)(hn:m.nx<=m'.nx)(ho:∀i,i<m.nx->S i->m'.get i=m.get i)(hS:∀i,i<m.nx->S i->S' i):rD m' S' rs v l:=by rcases h with h | ⟨id,o,h0,h1,h2,h3⟩;exact .inl h;refine .inr ⟨id,o,hS _ h2 h0,h1,J3 h2 hn,?_⟩;rcases h3 with h3 | ⟨n,rows,h4,h5⟩;exact .inl h3;exact .inr ⟨n,rows,(ho id h2 h0).trans h4,h5⟩
theorem fT.all (h:fT m rs v l):rD m (λi=>i<m.nx) rs v l:=by rcases h with h | ⟨id,o,h1,h2,h3⟩;exact .inl h;exact .inr ⟨id,o,h2,h1,h2,h3⟩
theorem bZ.s {lo:Nat}(h:bZ lo rs m v l):rD m (λi=>lo<=i) rs v l:=by rcases h with h | ⟨id,h1,h2,h3,h4,_,h5⟩;exact .inl h;obtain⟨p,b,c,t,g,d,e,j,k,f⟩:=h4;refine .inr ⟨id,0,h1,?_,h2,.inr ⟨c,t,d,by simpa using e,b,λi a=>?_⟩⟩;rw [adR];rcases h5 with h5 | h5;exact .inl ⟨_,h5,aP _⟩;exact .inr h5;simp only [Z9];exact f i a
end
inductive Ex where
 | mk (k n:Int) (s:List UInt8) (a:List Ex)
inductive V4 where
 | mk (k:Int) (s:List UInt8) (e:List Ex) (t f:List V4)
mutual
def aS (m:Mem)(S:Nat->Prop):Ex->List o7->Prop
 | .mk k n s a,row=>∃v rows,row=[.int .i64 k,.int .i64 n,.str s,v]∧rD m S 4 v rows∧I7 m S a rows
def I7 (m:Mem)(S:Nat->Prop):List Ex->List (List o7)->Prop
 | [],rows=>rows=[]
 | e::es,rows=>∃r rs,rows=r::rs∧aS m S e r∧I7 m S es rs
end
mutual
def nI (m:Mem)(S:Nat->Prop):V4->List o7->Prop
 | .mk k s e t f,row=>∃ve vt vf re rt rf,row=[.int .i64 k,.str s,ve,vt,vf]∧rD m S 4 ve re∧I7 m S e re∧rD m S 5 vt rt∧I4 m S t rt∧rD m S 5 vf rf∧I4 m S f rf
def I4 (m:Mem)(S:Nat->Prop):List V4->List (List o7)->Prop
 | [],rows=>rows=[]
 | s::ss,rows=>∃r rs,rows=r::rs∧nI m S s r∧I4 m S ss rs
end
section
variable {m m':Mem}{S S':Nat->Prop}(hn:m.nx<=m'.nx)(ho:∀i,i<m.nx->S i->m'.get i=m.get i)(hS:∀i,i<m.nx->S i->S' i)
include hn ho hS
mutual
theorem aS.mono:∀(e:Ex) (row:List o7),aS m S e row->aS m' S' e row
 | .mk k n s a,row,⟨v,rows,h1,h2,h3⟩=>⟨v,rows,h1,h2.mono hn ho hS,I7.mono a rows h3⟩
theorem I7.mono:∀(l:List Ex) (rows:List (List o7)),I7 m S l rows->I7 m' S' l rows
 | [],_,h=>h
 | e::es,_,⟨r,rs,h1,h2,h3⟩=>⟨r,rs,h1,aS.mono e r h2,I7.mono es rs h3⟩
end
mutual
theorem nI.mono:∀(e:V4) (row:List o7),nI m S e row->nI m' S' e row
 | .mk k s e t f,row,⟨ve,vt,vf,re,rt,rf,h1,h2,h3,h4,h5,h6,h7⟩=>⟨ve,vt,vf,re,rt,rf,h1,h2.mono hn ho hS,I7.mono hn ho hS e re h3,h4.mono hn ho hS,I4.mono t rt h5,h6.mono hn ho hS,I4.mono f rf h7⟩
theorem I4.mono:∀(l:List V4) (rows:List (List o7)),I4 m S l rows->I4 m' S' l rows
 | [],_,h=>h
 | e::es,_,⟨r,rs,h1,h2,h3⟩=>⟨r,rs,h1,nI.mono e r h2,I4.mono es rs h3⟩
end
end
section
variable {m m':Mem}{S:Nat->Prop}
theorem I7.len:∀{l:List Ex} {rows:List (List o7)},I7 m S l rows->rows.length=l.length
 | [],_,h=>by cases h;rfl
 | e::es,_,⟨r,rs,h1,h2,h3⟩=>by rw [h1,J6,I7.len h3];rfl
theorem I4.len:∀{l:List V4} {rows:List (List o7)},I4 m S l rows->rows.length=l.length
 | [],_,h=>by cases h;rfl
 | e::es,_,⟨r,rs,h1,h2,h3⟩=>by rw [h1,J6,I4.len h3];rfl
theorem I7.get:∀{l:List Ex} {rows:List (List o7)},I7 m S l rows->∀i (h:i<l.length) (h':i<rows.length),aS m S l[i] rows[i]
 | e::es,_,⟨r,rs,h1,h2,h3⟩,0,h,h'=>by subst h1;exact h2
 | e::es,_,⟨r,rs,h1,h2,h3⟩,i+1,h,h'=>by subst h1;exact I7.get h3 i (by simpa using h) (by simpa using h')
theorem I4.get:∀{l:List V4} {rows:List (List o7)},I4 m S l rows->∀i (h:i<l.length) (h':i<rows.length),nI m S l[i] rows[i]
 | e::es,_,⟨r,rs,h1,h2,h3⟩,0,h,h'=>by subst h1;exact h2
 | e::es,_,⟨r,rs,h1,h2,h3⟩,i+1,h,h'=>by subst h1;exact I4.get h3 i (by simpa using h) (by simpa using h')
theorem I7.snoc:∀{l:List Ex} {rows:List (List o7)} {e:Ex} {r:List o7},I7 m S l rows->aS m S e r->I7 m S (l ++ [e]) (rows ++ [r])
 | [],_,e,r,h,h'=>by cases h;exact⟨r,[],rfl,h',rfl⟩
 | _ :: _,_,e,r,⟨r0,rs,h1,h2,h3⟩,h'=>by subst h1;exact⟨r0,rs ++ [r],rfl,h2,I7.snoc h3 h'⟩
theorem I4.snoc:∀{l:List V4} {rows:List (List o7)} {e:V4} {r:List o7},I4 m S l rows->nI m S e r->I4 m S (l ++ [e]) (rows ++ [r])
 | [],_,e,r,h,h'=>by cases h;exact⟨r,[],rfl,h',rfl⟩
 | _ :: _,_,e,r,⟨r0,rs,h1,h2,h3⟩,h'=>by subst h1;exact⟨r0,rs ++ [r],rfl,h2,I4.snoc h3 h'⟩
def jK (m:Mem)(S:Nat->Prop)(l:List Ex)(v:o7):Prop:=∃rows,rD m S 4 v rows∧I7 m S l rows
def aG (m:Mem)(S:Nat->Prop)(l:List V4)(v:o7):Prop:=∃rows,rD m S 5 v rows∧I4 m S l rows
theorem aS.row {e:Ex}{row:List o7}(h:aS m S e row):row.length=4∧N7 row=true:=by obtain⟨k,n,s,a⟩:=e;obtain⟨v,b,rfl,c,_⟩:=h;refine⟨rfl,?_⟩;have d:=c.slice.H6;rw [dH,dH,dH,dH,d];rfl
theorem nI.row {e:V4}{row:List o7}(h:nI m S e row):row.length=5∧N7 row=true:=by obtain⟨k,s,e,t,f⟩:=e;obtain⟨o,q,p,j,n,l,rfl,d,_,g,_,i,_⟩:=h;refine⟨rfl,?_⟩;have a:=d.slice.H6;have b:=g.slice.H6;have c:=i.slice.H6;rw [dH,dH,dH,dH,dH,a,b,c];rfl
end
open Go Go.RowKit
section
variable {P:Program}{G:Mem}{ι:K7}{m:Mem}{w w':World}
theorem zy (h:RM P G ι m w.heap)(hb:Below w.heap.size w w'):Step P G ι m w ι m w':=by refine⟨⟨h.ok,λi x a=>?_,λi x o a d=>?_,h.glim,h.limn,h.gle,h.base,h.ghas,h.glob,h.spot,h.Om λk p _=>hb.block k p⟩,λ_ _=>rfl,λ_ h=>h,aP _,rfl,λ_ _=>rfl,hb.size,λb f _=>hb.block b f,λ_ h=>.inl h,hb.os,hb.output,hb.tape⟩;exact (h.blk i x a).mono (n:=m.nm ι) (λ_ _=>rfl) (Mem.aH (λ_ h=>h) λ_ _=>rfl) λd=>hb.block _ (eG (h.blk i x a) d);have j:=h.own i x o a d;refine⟨j.alone,λc e l g=>?_⟩;rw [hb.block _ (eG (h.blk i x a) d)] at g;exact j.free c e l g
theorem YP (h:RM P G ι m w.heap)(hb:Below w.heap.size w w')(b:P9)(l:Loc)(A:dO b=false)(z:w.heap.size<=l.b)
  (n:dN P (ι.upd m.nx l) ((m.new b).nm (ι.upd m.nx l)) w'.heap l b)
  (f:U8 b=true->∀c e fz,w'.heap[l.b]?=some (.cells c e fz)->∀k,k<c.size->¬ (fz.1<=k∧k<fz.2)) (g:U8 b=true->l.spot=none):
  Step P G ι m w (ι.upd m.nx l) (m.new b) w':=by
 have t:=zy h hb;have B:=t.trans (Gr t.rm);have d:=Mem.K6 h.ok .void;have a:(m.new .void).get m.nx=some .void:=by rw [d,if_pos rfl]
 have C:=B.rename (ι2:=ι.upd m.nx l) λi ⟨x,hx,hxv⟩=>ι.upd_ne l λe=>by subst e;rw [a] at hx;cases hx;cases hxv
 have e:(m.new .void).set m.nx b=m.new b:=Mem.EK h.ok .void b;have u:=C.add (id:=m.nx) (b:=b) a h.limn ⟨by rw [e,ι.U3];exact n,A,λo j y r s p=>?_,λo c v fz q=>?_,λo=>by rw [ι.U3];exact g o⟩ (λ_=>by rw [ι.U3];exact z);rw [e] at u;exact u;rw [d,if_neg r] at s;rw [ι.U3,ι.upd_ne l r];have:=eG (h.blk j y s) p;omega;rw [ι.U3] at q;exact f o c v fz q
end
section
variable {P:Program}{G:Mem}
theorem oF {f:FuncId}{args:List o7}{v:o7}(a:yw (layAll [] G).nx ⟨v,O4 G []⟩=some ⟨v,[]⟩)(c:∀n:Nm,v.lt n)(h:∀ι ι',u6 ι v=u6 ι' v)
  (g:∀(ι:K7) (w:World),RM P G ι (O4 G []) w.heap->Calls P f (z8 ι args).toArray w λe w'=>e=.returned (u6 ι v)∧Below w.heap.size w w'):jI P G f args [] ⟨v,[]⟩:=by
 intro ι w d b;refine callsIn_wide.2 ((g ι w d).mono ?_);rintro e w' ⟨rfl,hb⟩;exact⟨ι,⟨v,O4 G []⟩,zy d hb,c _,rfl,a⟩
theorem TY {f:FuncId}{args:List o7}{v:o7}{nb:NB}(a:yw (layAll [] G).nx ⟨v,(O4 G []).new (fC nb)⟩=some ⟨v,[nb]⟩)
  (i:∀(ι:K7) (w:World),RM P G ι (O4 G []) w.heap->Calls P f (z8 ι args).toArray w λe w'=>∃l:Loc,e=.returned (u6 (ι.upd G.nx l) v)∧Below w.heap.size w w'∧w.heap.size<=l.b∧
   v.lt (((O4 G []).new (fC nb)).nm (ι.upd G.nx l))∧dN P (ι.upd G.nx l) (((O4 G []).new (fC nb)).nm (ι.upd G.nx l)) w'.heap l (fC nb)∧
   (U8 (fC nb)=true->(∀c e fz,w'.heap[l.b]?=some (.cells c e fz)->∀k,k<c.size->¬ (fz.1<=k∧k<fz.2))∧l.spot=none)):jI P G f args [] ⟨v,[nb]⟩:=by
 intro ι w h d;refine callsIn_wide.2 ((i ι w h).mono ?_);rintro e w' ⟨l,rfl,hb,hA,hlt,hblk,hfs⟩;have j:(O4 G []).nx=G.nx:=rfl;exact⟨ι.upd G.nx l,⟨v,(O4 G []).new (fC nb)⟩,YP h hb (fC nb) l (zo nb) hA hblk (λg=>(hfs g).1) (λg=>(hfs g).2),hlt,rfl,a⟩
end
end
end Go.AM
namespace Go.AM
open Go Go.RowKit
noncomputable section
theorem GY (m:Mem)(lo n:Nat)(a:List (Nat×NB)):reach m lo (n+1) [] a=some a.reverse:=rfl
theorem Kk {m:Mem}{lo i:Nat}{b:P9}{nb:NB}(h:m.get i=some b)(hb:yP b=some nb)(hi:Od lo nb=[])(n:Nat):reach m lo (n+2) [i] []=some [(i,nb)]:=by show bi (Ju i []) (reach m lo (n+1) [] []) (ob (m.get i) λb=>ob (yP b) λnb=>reach m lo (n+1) (Od lo nb ++ []) [(i,nb)])=_;rw [h,O0,hb,O0,hi];rfl
theorem PX (lo:Nat):∀ws:List (List UInt8),Od lo (.cells 1 (ws.map λw=>[o7.str w]))=[]
 | []=>rfl
 | w::ws=>by show rJ lo [o7.str w]++Od lo (.cells 1 (ws.map λw=>[o7.str w]))=[];rw [PX lo ws];rfl
theorem PY (r:Nat->Option Nat):∀ws:List (List UInt8),oN r (ws.map λw=>[o7.str w])=some (ws.map λw=>[o7.str w])
 | []=>rfl
 | w::ws=>by show ob (lq r [o7.str w]) (λx=>ob (oN r (ws.map λw=>[o7.str w])) λy=>some (x::y))=_;rw [PY r ws];rfl
theorem VY (lo:Nat):uS lo [lo] lo=some lo:=by show bi (Nat.ble lo lo) (bi (Nat.beq lo lo) (some lo) none) _=_;rw [show Nat.ble lo lo=true from Q6 (aP _),show Nat.beq lo lo=true from aaz lo];rfl
section
variable {G:Mem}
theorem PZ (b:T.Ok G.t G.nx)(k:Int)(t:TypeId):yw (layAll [] G).nx ⟨.tuple [.int .i64 k,.iface t (.ptr G.nx 0)],(O4 G []).new .dead⟩=some ⟨.tuple [.int .i64 k,.iface t (.ptr G.nx 0)],[.dead]⟩:=by
 have d:((O4 G []).new .dead).get G.nx=some .dead:=by rw [Mem.K6 (m:=O4 G []) b];exact if_pos rfl
 have f:=Kk (lo:=G.nx) d (nb:=.dead) rfl rfl 99998;have e:rJ G.nx [o7.tuple [.int .i64 k,.iface t (.ptr G.nx 0)]]=[G.nx]:=by show ([]++(bi (Nat.ble G.nx G.nx) [G.nx] [] ++ [])) ++ []=_;rw [show Nat.ble G.nx G.nx=true from Q6 (aP _)];rfl
 have c:iG G.nx [o7.tuple [.int .i64 k,.iface t (.ptr G.nx 0)]] ((O4 G []).new .dead)=some ⟨[G.nx],[.tuple [.int .i64 k,.iface t (.ptr G.nx 0)]],[.dead]⟩:=by show ob (reach _ G.nx (99998+2) (rJ G.nx _) []) _=_;rw [e,f];show ob (ob (ob (ob (some (o7.int .i64 k)) λx=>ob (ob (ob (ob (uS G.nx [G.nx] G.nx) λj=>some (o7.ptr j 0)) λx=>some (o7.iface t x)) λx=>ob (some []) λy=>some (x::y)) λy=>some (x::y)) λx=>some (o7.tuple x)) λx=>ob (some []) λy=>some (x::y)) (λg=>ob (some [NB.dead]) λa=>some (⟨[G.nx],g,a⟩:CO))=_;rw [VY];rfl
 show ob (iG G.nx _ _) _=_;rw [c];rfl
end
theorem zA {lo:Nat}{v:o7}(m:Mem)(b:rJ lo [v]=[])(c:∀r,lq r [v]=some [v]):iG lo [v] m=some ⟨[],[v],[]⟩:=by show ob (reach m lo (99999+1) (rJ lo [v]) []) _=_;rw [b,GY];show ob (lq (uS lo []) [v]) (λd=>ob (some []) λa=>some (⟨[],d,a⟩:CO))=_;rw [c];rfl
theorem xP {K:Known}{cf:F8}{b:Nat}{f:FuncId}{sf:aW}{args:List o7}{m:Mem}{c:CO}{a:BX}(g:iG K.base.nx args m=some c)(d:K.sum f c.vs c.bs=some a):
  jD K cf b f sf args m=ob (fK (iD K.base.nx c.ids m.nx) a.v) λv=>ob (uF (iD K.base.nx c.ids m.nx) a.bs) λbs=>one v (layAll bs m):=by
 show ob (iG K.base.nx args m) (λc=>ob (Dl K cf b f sf c.vs c.bs) λa=>ob (fK (iD K.base.nx c.ids m.nx) a.v) λv=>ob (uF (iD K.base.nx c.ids m.nx) a.bs) λbs=>one v (layAll bs m))=_;rw [g,O0];have e:Dl K cf b f sf c.vs c.bs=some a:=by unfold Dl;rw [d]
 rw [e,O0]
theorem Sn (g next:Nat):iD g [] next g=some next:=by show bi (Nat.blt g g) (some g) (bi (Nat.blt (g-g) 0) (nO (g-g) []) (some (next+(g-g-0))))=_;rw [show Nat.blt g g=false from aa4.2 λe=>absurd (Y3.mp e) (afw _),Nat.sub_self];rfl
open Go
theorem Bh {α:Type}(t:T α):∀(l:List α) (i:Nat),(∀j,j<l.length->t.get (i+j)=l[j]?)->t.slice l.length i=some l
 | [],i,h=>rfl
 | x::l,i,h=>by
  rw [J6,T.yS];have h0:=h 0 (by simp);rw [Y7] at h0;rw [h0,ahH,O0,Bh t l (i+1) (λj hj=>by
   have:=h (j+1) (by simp;omega);rw [show i+1+j=i+(j+1) from by omega,this,abB])]
  rfl
def uW (lo:Nat)(m:Mem)(v:o7)(l:List (List UInt8)):Prop:=
 (v=.nilSlice∧l=[])∨∃id t c,lo<=id∧id<m.nx∧l≠[]∧v=.sliceU id 0 l.length 1∧m.get id=some (.cells 1 l.length t)∧T.Ok t c∧l.length<=c∧∀i (h:i<l.length),t.get i=some [.str l[i]]
section
variable {lo:Nat}{m m':Mem}{v:o7}{l:List (List UInt8)}
theorem uW.keep (h:uW lo m v l)(a:m.nx<=m'.nx)(b:∀i,lo<=i->i<m.nx->m'.get i=m.get i):uW lo m' v l:=by rcases h with h | ⟨id,t,c,h1,h2,h3,h4,h5,h6⟩;exact .inl h;exact .inr ⟨id,t,c,h1,J3 h2 a,h3,h4,(b id h1 h2).trans h5,h6⟩
theorem uW.ext (h:uW lo m v l)(e:Ext m m'):uW lo m' v l:=h.keep e.nx λi _ a=>e.old i a
theorem uW.cells (h:uW lo m v l):v.cells=[v]:=by rcases h with⟨rfl,_⟩ | ⟨id,t,c,_,_,_,rfl,_⟩<;>rfl
theorem uW.H6 (h:uW lo m v l):Go.AM.H6 v=true:=by rcases h with⟨rfl,_⟩ | ⟨id,t,c,_,_,_,rfl,_⟩<;>rfl
theorem uW.nN (h:uW lo m v l){β:Type}(p:o7->β)(q:β):dW v p q=q:=by rcases h with⟨rfl,_⟩ | ⟨id,t,c,_,_,_,rfl,_⟩<;>rfl
theorem anF {bytes:Nat}{x:o7}{s:List UInt8}(k:m.Ok)(r:m.lim<=lo)(d:lo<=m.nx)(h:uW lo m v l)(A:lenOf x=some 1)(w:gN m 1 1 x=some [.str s])(hb:l.length+1<=100000)(e:1<=bytes∧bytes<=1000):
  ∃v' m',(∀(s y:OF) (cf:F8) (ls:List o7) (env:T o7),s ls env=v->y ls env=x->rG 1 bytes s y cf ls env m=some [⟨v',m'⟩])∧uW lo m' v' (l ++ [s])∧Fr lo lo m m':=by
 have g:∀(o:dU),Dj m 1 bytes 1 [.str s] v=o->∀(s y:OF) (cf:F8) (ls:List o7) (env:T o7),s ls env=v->y ls env=x->rG 1 bytes s y cf ls env m=o:=λo u s y cf ls env z B=>by show ob (AM.lenOf (y ls env)) (λn=>ob (gN m 1 n (y ls env)) λq=>Dj m 1 bytes n q (s ls env))=_;rw [B,z,A,O0,w,O0];exact u
 rcases h with⟨rfl,rfl⟩ | ⟨id,t,c,h1,h2,h3,rfl,h4,h5,h6,h7⟩;refine⟨.sliceU m.nx 0 1 1,m.new (.cells 1 1 (T.ofList [[.str s]])),g _ ?_,.inr ⟨m.nx,_,1,d,by simp,by simp,rfl,by rw [Mem.K6 k,if_pos rfl];rfl,T.fO [[.str s]],by simp,λi j=>?_⟩,Fr.new k d _⟩;show bi (big 1 bytes 1) _ none=_;rw [adD (by omega) e];rfl;obtain rfl:i=0:=by simpa using j
 rw [T.au];rfl;have a:(m.set id .dead).Ok:=Mem.Ok.set k h2 _;have p:0<l.length:=ael.2 h3;have f:∃c'',l.length+1<=c''∧T.Ok (t.put l.length [.str s]) c'':=by
  by_cases hc:l.length<c;exact⟨c,hc,T.Ok.put h5 _ _ hc⟩;obtain rfl:c=l.length:=by omega
  exact⟨l.length+1,aP _,T.Ok.push h5 _⟩
 obtain⟨c'',C,D⟩:=f;refine⟨.sliceU m.nx 0 (l.length+1) 1,(m.set id .dead).new (.cells 1 (l.length+1) (t.put l.length [.str s])),g _ ?_,.inr ⟨m.nx,_,c'',d,by simp,by simp,by simp,?_,D,by simpa using C,λi j=>?_⟩,
  ⟨Mem.Ok.new a _,by simp,by simp,λi j _=>by rw [Mem.K6 a,if_neg (by simp;omega),Mem.aB k h2,if_neg (by omega)]⟩⟩
 show QY m 1 bytes 1 [.str s] id 0 l.length 1=_;show bi (Nat.beq 1 1) (bi (big (l.length+1) bytes 1) (bi (Nat.ble m.lim id) (bi (N7 [.str s]) (Js (m.get id) _ _) none) none) none) none=_;rw [adD hb e,show Nat.ble m.lim id=true from Q6 (by omega),h4];show bi (bi (Nat.beq 1 1) (bi (Nat.beq 0 0) (bi (Nat.ble l.length l.length) (bi (Nat.beq 1 1) (bi (Nat.beq 1 1) (Nat.blt 0 l.length) false) false) false) false) false) _ _=_;rw [show Nat.ble l.length l.length=true from Q6 (aP _),show Nat.blt 0 l.length=true from Eq.mpr Y3 p];rfl;rw [Mem.K6 a];simp;by_cases hil:i=l.length;subst hil;rw [T.bM h5 _ _ (by omega)];simp;have b:i<l.length:=by simp at j;omega
 rw [T.bY h5 _ _ _ (by omega) (ahE hil),h7 i b];simp [amb,b]
theorem aiR {b:Nat}(h:uW lo m v l)(hb:b<=lo)(a:List UInt8):
  (l=[]∧iG b [v,.str a] m=some ⟨[],[.nilSlice,.str a],[]⟩)∨
  ∃id,l≠[]∧iG b [v,.str a] m=some ⟨[id],[.sliceU b 0 l.length 1,.str a],[.cells 1 (l.map λw=>[.str w])]⟩:=by
 rcases h with⟨rfl,rfl⟩ | ⟨id,t,c,h1,h2,h3,rfl,h4,h5,h6,h7⟩;exact .inl ⟨rfl,rfl⟩;refine .inr ⟨id,h3,?_⟩;have k:yP (.cells 1 l.length t)=some (.cells 1 (l.map λw=>[.str w])):=by
  show ob (t.slice l.length 0) (λl=>some (NB.cells 1 l))=_;have:=Bh t (l.map λw=>[o7.str w]) 0 (λj i=>by
   have d:j<l.length:=by simpa using i
   rw [Z9,h7 j d,aaB,y7 d];rfl)
  rw [adK] at this;rw [this];rfl
 have n:=Kk (lo:=b) h4 k (PX b l) 99998;have e:Nat.ble b id=true:=Q6 (by omega);have g:rJ b [o7.sliceU id 0 l.length 1,.str a]=[id]:=by show bi (Nat.ble b id) [id] [] ++ _=_;rw [e];rfl
 have o:uS b [id] id=some b:=by show bi (Nat.ble b id) (bi (Nat.beq id id) (some b) none) _=_;rw [e,show Nat.beq id id=true from aaz id];rfl
 show ob (reach m b (99998+2) (rJ b _) []) _=_;rw [g,n];show ob (ob (ob (uS b [id] id) λj=>some (o7.sliceU j 0 l.length 1)) λx=>ob (some [o7.str a]) λy=>some (x::y)) (λp=>ob (ob (ob (oN (uS b [id]) (l.map λw=>[o7.str w])) λx=>some (NB.cells 1 x)) λx=>ob (some []) λy=>some (x::y)) λf=>some (⟨[id],p,f⟩:CO))=_;rw [o,PY];rfl
theorem GZ:∀l:List (List UInt8),uo (l.map λw=>[o7.str w])=some l
 | []=>rfl
 | w::l=>by show ob (uo (l.map λw=>[o7.str w])) (λt=>some (w::t))=_;rw [GZ l];rfl
theorem Kl {α:Type}:∀l:List α,takeN l.length l=some l
 | []=>rfl
 | x::l=>by show ob (takeN l.length l) (λr=>some (x::r))=_;rw [Kl l];rfl
theorem VZ {d e c b:Nat}(g:Nat.beq c d=false)(h:Nat.beq c e=false){l:List (List UInt8)}(j:l.length<1000000){a:List UInt8}(i:(aI a l).length<1000000):
  YD d e c b c [.sliceU b 0 l.length 1,.str a] [.cells 1 (l.map λw=>[.str w])]=some ⟨.str (aI a l),[]⟩:=by
 unfold YD;rw [g,h,show Nat.beq c c=true from aaz c,U5,U5,Q9];show bi (Nat.beq b b) (bi (Nat.blt l.length 1000000) (ob (takeN l.length (l.map λw=>[o7.str w])) λl=>ob (uo l) λf=>bi (Nat.blt (len' (aI a f)) 1000000) (some (⟨.str (aI a f),[]⟩:BX)) none) none) none=_;have:=Kl (l.map λw=>[o7.str w]);rw [adK] at this;rw [show Nat.beq b b=true from aaz b,show Nat.blt l.length 1000000=true from Y3.mpr j,Q9,Q9,this,O0,GZ,O0,I9,show Nat.blt (aI a l).length 1000000=true from Y3.mpr i,Q9]
end
section
variable (cf:F8)(fu:Nat)(ls:List o7)(env:T o7)(m:Mem)(k:List Mk)
@[simp] theorem ahn (x:OF):tH x cf ls env m=Xu (x ls env) m:=id rfl
@[simp] theorem afk (t:TypeId)(v:o7):Xu (.iface t v) m=some [⟨.nN (.iface t v),m⟩]:=id rfl
@[simp] theorem afl (x:o7):iQ k ⟨env,m,some x,[]⟩=some [⟨.ret,env,m,k,some x⟩]:=id rfl
@[simp] theorem afm (x:Mk):iQ k ⟨env,m,none,[x]⟩=some [⟨.normal,env,m,x::k,none⟩]:=id rfl
@[simp] theorem aho (a:kH)(rs:List qg)(x:o7):leave a rs ⟨.ret,env,m,[],some x⟩=some [⟨.nN x,m⟩]:=id rfl
@[simp] theorem adF:iF .nilIface .nilIface=some true:=id rfl
@[simp] theorem aby (t:TypeId)(v:o7):iF (.iface t v) .nilIface=some false:=id rfl
@[simp] theorem ahp (r:RC):Fz r cf fu none env m k=bnd (r cf [] env m) (iQ k):=id rfl
@[simp] theorem aiS (g:OF)(args:List OF):Jt g args cf ls env m=NT (g ls env) λfn a b=>some [⟨env,m,none,[.d (.func fn a b) (evs args ls env)]⟩]:=id rfl
def behind (rs:List qg)(env:T o7)(r:Mem×Option o7):dU:=yO rs env r.2 r.1
theorem MN (c:kH)(rs:List qg)(f:FuncId)(a b args:List o7)(pv:Option o7):leave c rs ⟨.ret,env,m,[.d (.func (.func f) a b) args],pv⟩=bnd (c f (a++(args++b)) pv m) (behind rs env):=by show bnd (c f (aJ a (aJ args b)) pv m) (behind rs env)=_;rw [P8,P8]
@[simp] theorem ahq (rs:List qg):behind rs env (m,none)=ob (results rs env m) λl=>some [⟨result l,m⟩]:=id rfl
def adG (b:V8)(r:Oe):Option (List Oe):=match r.o.x with
 | .normal=>match r.o.marks with
  | []=>yx b cf fu r.o.env r.o.m r.md
  | _=>none
 | _=>some [r]
variable (md:Option o7)
theorem Ua (a b:V8):yx (.seq a b) cf fu env m md=bnd (yx a cf fu env m md) (adG cf fu b):=rfl
theorem Qa (c:Q8)(a b:V8):yx (.cond c a b) cf fu env m md=oH (G9 c [] env) λt=>bi t (yx a cf fu env m md) (yx b cf fu env m md):=rfl
def adH (r:EM×Option o7):Option (List Oe):=some [⟨⟨.normal,r.1.env,r.1.m,[],none⟩,r.2⟩]
def MO (md:Option o7)(o:Out):Option (List Oe):=some [⟨o,md⟩]
theorem Qb {ops:List Inst}(h:FC ops=true):yx (.reg ops) cf fu env m md=bnd (vJ ops cf [] env m md) adH:=by simp only [yx,h];rfl
theorem wP {ops:List Inst}(h:FC ops=false):yx (.reg ops) cf fu env m md=bnd (xB (.reg ops) cf fu none env m []) (MO md):=by simp only [yx,h];rfl
theorem Qc:yx .skip cf fu env m md=bnd (xB .skip cf fu none env m []) (MO md):=rfl
@[simp] theorem aiT (b:V8):adG cf fu b ⟨⟨.normal,env,m,[],none⟩,md⟩=yx b cf fu env m md:=id rfl
@[simp] theorem alZ (o:Out):MO md o=some [⟨o,md⟩]:=id rfl
@[simp] theorem aiU (e:EM):adH (e,md)=some [⟨⟨.normal,e.env,e.m,[],none⟩,md⟩]:=id rfl
theorem Km:Rc [] ⟨⟨.normal,env,m,[],none⟩,md⟩=some [(m,md)]:=rfl
end
theorem CU (b c:UInt8):Nat.beq b.toNat c.toNat=decide (b=c):=by
 by_cases h:b=c;subst h;rw [decide_eq_true rfl];exact aaz _;rw [decide_eq_false h];cases hb:Nat.beq b.toNat c.toNat with
 | false=>rfl
 | true=>exact absurd (adT.1 (q9 hb)) h
theorem He (c:UInt8):∀s:List UInt8,MG c s=decide (0<=Lib.indexByte s c)
 | []=>rfl
 | b::l=>by show bi (Nat.beq b.toNat c.toNat) true (MG c l)=_;rw [CU,He c l];have hg:=Lib.indexByte_ge l c;rw [show Lib.indexByte (b::l) c=if b==c then 0 else if Lib.indexByte l c == -1 then -1 else Lib.indexByte l c+1 from rfl];by_cases h:b=c;rw [decide_eq_true h,if_pos (beq_iff_eq.2 h)];rfl;rw [decide_eq_false h,if_neg (by simpa using h)];show decide _=_;by_cases h2:Lib.indexByte l c=-1;rw [if_pos (beq_iff_eq.2 h2),h2];rw [if_neg (by simpa using h2)];exact decide_eq_decide.2 (by omega)
section
variable {P:Program}{G:Mem}
theorem YQ (n:Nat)(b:Bool)(m:Mem):yw n ⟨.bool b,m⟩=some ⟨.bool b,[]⟩:=rfl
theorem abz (n:Nat)(s:List UInt8)(m:Mem):yw n ⟨.str s,m⟩=some ⟨.str s,[]⟩:=rfl
theorem MP {f:FuncId}(a:∀(s:ByteArray)(c:UInt8)(w:World),Calls P f #[.string s,.string ⟨#[c]⟩] w λe w'=>e=.returned (.bool (decide (0<=Lib.indexByte s.data.toList c)))∧w'=w)
  (s:List UInt8) (c:UInt8):jI P G f [.str s,.str [c]] [] ⟨.bool (MG c s),[]⟩:=
 oF (YQ _ _ _) (λ_=>trivial) (λ_ _=>by simp [u6]) λb w _=>by refine ae2 (a ⟨s.toArray⟩ c w) ?_;rintro e w' ⟨rfl,rfl⟩;exact⟨by simp [u6,He],Below.refl _ _⟩
theorem Kn (c:UInt8):∀s:List UInt8,GK c s=Lib.indexByte s c
 | []=>rfl
 | b::l=>by show bi (Nat.beq b.toNat c.toNat) 0 (bi (bJ (GK c l) (Int.negSucc 0)) (Int.negSucc 0) (GK c l+1))=_;rw [CU,Kn c l,iR];rw [show Lib.indexByte (b::l) c=if b==c then 0 else if Lib.indexByte l c == -1 then -1 else Lib.indexByte l c+1 from rfl];by_cases h:b=c;rw [decide_eq_true h,if_pos (beq_iff_eq.2 h)];rfl;rw [decide_eq_false h,if_neg (by simpa using h)];show bi (Lib.indexByte l c == -1) (-1) (Lib.indexByte l c+1)=_;cases Lib.indexByte l c == -1<;>rfl
theorem Ko (c:UInt8):∀s:List UInt8,GL c s=Lib.countByte s c
 | []=>rfl
 | b::l=>by show bi (Nat.beq b.toNat c.toNat) (Nat.succ (GL c l)) (GL c l)=_;rw [CU,Ko c l];unfold Lib.countByte;rw [List.count_cons];by_cases h:b=c;rw [decide_eq_true h,if_pos (by simpa using h)];rfl;rw [decide_eq_false h,if_neg (by simpa using h)];rfl
theorem Wd {f:FuncId}(a:∀(s:ByteArray)(c:UInt8)(w:World),Calls P f #[.string s,.string ⟨#[c]⟩] w λe w'=>e=.returned (.int .i64 (Lib.indexByte s.data.toList c))∧w'=w)
  (s:List UInt8) (c:UInt8):jI P G f [.str s,.str [c]] [] ⟨.int .i64 (GK c s),[]⟩:=
 oF rfl (λ_=>trivial) (λ_ _=>by simp [u6]) λb w _=>by refine ae2 (a ⟨s.toArray⟩ c w) ?_;rintro e w' ⟨rfl,rfl⟩;exact⟨by simp [u6,Kn],Below.refl _ _⟩
theorem Wh {f:FuncId}(a:∀(s:ByteArray)(c:UInt8)(w:World),Calls P f #[.string s,.string ⟨#[c]⟩] w λe w'=>e=.returned (.int .i64 (Lib.countByte s.data.toList c))∧w'=w)
  (s:List UInt8) (c:UInt8):jI P G f [.str s,.str [c]] [] ⟨.int .i64 (.ofNat (GL c s)),[]⟩:=
 oF rfl (λ_=>trivial) (λ_ _=>by simp [u6]) λb w _=>by refine ae2 (a ⟨s.toArray⟩ c w) ?_;rintro e w' ⟨rfl,rfl⟩;exact⟨by simp [u6,Ko],Below.refl _ _⟩
theorem Hf (sep:List UInt8):∀ws,aI sep ws=Lib.join ws sep
 | []=>rfl
 | [x]=>(Lib.join_one x sep).symm
 | x::y::r=>by have ih:=Hf sep (y::r);have e:aI sep (x::y::r)=aJ x (aJ sep (aI sep (y::r))):=rfl;rw [e,ih,P8,P8,Lib.join_cons,Lib.join_cons];simp [Lib.joinTail]
theorem DW:∀{l:List (List o7)} {ws:List (List UInt8)},uo l=some ws->l=ws.map λw=>[o7.str w]
 | [],ws,h=>by have h:some ([]:List (List UInt8))=some ws:=h;cases h;rfl
 | r::l,ws,h=>by
  match r,h with
  | [.str s],h=>have h:ob (uo l) (λt=>some (s::t))=some ws:=h;obtain⟨t,h1,h2⟩:=D5 h;cases h2;rw [DW h1];rfl
theorem Sq {α:Type}(n:Nat):∀(l:List α) {r:List α},takeN n l=some r->r=l.take n∧n<=l.length:=by
 intro l r h;by_cases a:n<=l.length;rw [jQ n l a] at h;cases h;exact⟨rfl,a⟩;exfalso;revert l r;induction n with
 | zero=>intro l r _ a;exact a (aft _)
 | succ n ih=>
  intro l r h a;cases l with
  | nil=>cases h
  | cons x l=>have h:ob (takeN n l) (λt=>some (x::t))=some r:=h;obtain⟨t,b,_⟩:=D5 h;exact ih l b (by simp at a;omega)
theorem YR {f:FuncId}(hG:T.Ok G.t G.nx)
  (Y:∀(a:Option Addr) (c:Nat) (d:ByteArray) (w:World),Calls P f #[.slice a 0 c,.string d] w λe w'=>e=.returned (.string ⟨#[]⟩)∧w'=w)
  (Z:∀(bk o c:Nat) (x d:ByteArray) (w:World),w.cell? ⟨bk,o,none⟩=some (.string x)->Calls P f #[.slice (some ⟨bk,o,none⟩) 1 c,.string d] w λe w'=>e=.returned (.string x)∧w'=w)
  (c2:∀(bk o c:Nat) (xs:List ByteArray) (d:ByteArray) (w:World),(∀(j:Nat) x,xs[j]?=some x->w.cell? ⟨bk,o+j,none⟩=some (.string x))->bk<w.heap.size->2<=xs.length->xs.length<=140737488355328->xs.length<=c->
   (Lib.join (xs.map (·.data.toList)) d.data.toList).length<=140737488355328->Calls P f #[.slice (some ⟨bk,o,none⟩) xs.length c,.string d] w λe w'=>e=.returned (.string ⟨(Lib.join (xs.map (·.data.toList)) d.data.toList).toArray⟩)∧Below w.heap.size w w')
  {v:o7} {off n:Nat} (hv:(∃c,v=.slice G.nx off n c∧n<=c)∨∃es,v=.sliceU G.nx off n es) {rows l:List (List o7)} {A:List (List UInt8)} {d:List UInt8} (hn:n<1000000)
  (V:takeN n (kF off rows)=some l) (hw:uo l=some A) (B:(aI d A).length<1000000):jI P G f [v,.str d] [.cells 1 rows] ⟨.str (aI d A),[]⟩:=by
 intro i w Q D;rw [jE] at V;obtain⟨F,a0⟩:=Sq n _ V;have H:=DW hw;have h:A.length=n:=by have:=congrArg List.length H;rw [F,ahv,adK] at this;omega
 have U:(O4 G [.cells 1 rows]).get G.nx=some (.cells 1 (len' rows) (T.ofList rows)):=by show (G.new (fC (.cells 1 rows))).get G.nx=_;rw [Mem.K6 (m:=G) hG];exact if_pos rfl
 have q:=Q.spot G.nx _ U rfl;obtain⟨c,e,fz,R,h1,_,hr⟩:=Q.blk G.nx _ U;have g:∀j (x:List UInt8),A[j]?=some x->w.cell? ⟨(i G.nx).b,(i G.nx).base+off+j,none⟩=some (.string ⟨x.toArray⟩):=λj x K=>by
  have hj:j<n:=by rw [← h];exact (y8.1 K).1
  have C:rows[off+j]?=some [o7.str x]:=by
   have I:l[j]?=some [o7.str x]:=by rw [H,aaB,K];rfl
   rw [F,ae6,if_pos hj,afx] at I;exact I
  obtain⟨a1,X,q2,q3,q4⟩:=hr (off+j) (by rw [I9];exact (y8.1 C).1);rw [T.au,C] at X;cases X;have:=q4 0 (by omega);rw [aml,Y7] at this;have J:c[(i G.nx).base+off+j]?=some (.string ⟨x.toArray⟩):=by rw [afp,this];simp [u6]
  simp [World.cell?,R,J]
 have E:(i G.nx).b<w.heap.size:=(J4.1 R).1;have k:∀(x:ByteArray) (w':World),x=⟨(aI d A).toArray⟩->Below w.heap.size w w'->∃ι' r,Step P G i (O4 G [.cells 1 rows]) w ι' r.m w'∧r.v.lt (r.m.nm ι')∧Ending.returned (.string x)=.returned (u6 ι' r.v)∧
   yw (layAll [.cells 1 rows] G).nx r=some ⟨.str (aI d A),[]⟩:=λx w' K L=>
  ⟨i,⟨.str (aI d A),O4 G [.cells 1 rows]⟩,zy Q L,trivial,by rw [K];simp [u6],rfl⟩
 have M:∃cap,n<=cap∧u6 i v=.slice (some ⟨(i G.nx).b,(i G.nx).base+off,none⟩) n cap:=by rcases hv with⟨cap,rfl,p⟩ | ⟨es,rfl⟩;exact⟨cap,p,by simp [u6,K7.zX q]⟩;have O:o7.lt ((O4 G [.cells 1 rows]).nm i) (.sliceU G.nx off n es):=D.1;obtain⟨_,I,J⟩:=O;refine⟨((i G.nx).cap-off) / es,?_,by simp [u6,K7.zX q]⟩;have J:off+n*es<=(i G.nx).cap:=J;exact (adW I).2 (by omega)
 obtain⟨cap,p,N⟩:=M;have s:(z8 i [v,.str d]).toArray=#[.slice (some ⟨(i G.nx).b,(i G.nx).base+off,none⟩) n cap,.string ⟨d.toArray⟩]:=by simp [z8,N,u6]
 rw [s];refine callsIn_wide.2 ?_;match A,h,g,B,k with
 | [],h,_,_,k=>obtain rfl:n=0:=h.symm;refine ae2 (Y _ cap ⟨d.toArray⟩ w) ?_;rintro e w' ⟨rfl,rfl⟩;exact k _ _ rfl (Below.refl _ _)
 | [x],h,g,_,k=>obtain rfl:n=1:=h.symm;refine ae2 (Z _ _ cap ⟨x.toArray⟩ ⟨d.toArray⟩ w (g 0 x rfl)) ?_;rintro e w' ⟨rfl,rfl⟩;exact k _ _ rfl (Below.refl _ _)
 | x::y::t,h,g,B,k=>
  have S:((x::y::t).map λz:List UInt8=>(⟨z.toArray⟩:ByteArray)).map (λb:ByteArray=>b.data.toList)=x::y::t:=by rw [ae5];exact List.map_id'' (λ_=>rfl) _
  have:=c2 (i G.nx).b ((i G.nx).base+off) cap ((x::y::t).map λz:List UInt8=>(⟨z.toArray⟩:ByteArray)) ⟨d.toArray⟩ w (λj z W=>by
   rw [aaB] at W;obtain⟨u,hu,rfl⟩:=abr.1 W;exact g j u hu) E (by simp) (by rw [adK,h];omega) (by rw [adK,h];exact p) (by
    rw [S];show (Lib.join (x::y::t) d).length<=_;rw [← Hf];omega)
  rw [S,adK,h] at this;refine ae2 this ?_;rintro e w' ⟨rfl,L⟩;refine k _ _ ?_ L;rw [Hf]
end
end
end Go.AM
