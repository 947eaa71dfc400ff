/- A part of an evaluator for the model, proved sound: what it answers holds of the model; it speaks of every program, no condition. -/
import Derived.Test.YteecnooaopfkeaaGreatDoorPA4
import Derived.Below
import Derived.Lib.SplitLaws
import Derived.Lib.Join
import Derived.Lib.SmallJoins
set_option linter.all false
namespace Go.AM
open Go
noncomputable section
def VU (P:Program)(S:List TypeId):Bool:=S.all λt=>match P.underlying t with
 | some .bool=>true
 | some (.int _)=>true
 | some .string=>true
 | some (.slice e)=>S.contains e&&Nat.blt 0 (P.cellsOf e)
 | some (.struct fs)=>fs.toList.all (λf=>S.contains f.type)&&Kn P fs.toList 0 (P.cellsOf t)
 | _=>false
section
variable {P:Program}{G:Mem}{H:Type}{enc:TypeId×Value->H}{w:World}{held:Bool}
end
def uZ (S:TypeId->Nat->List d9->Prop):List Field->Nat->List d9->Prop
 | [],b,vs=>vs=[]∧1<=b
 | f::fs,b,vs=>∃a c b1 b2,vs=a++c∧S f.type b1 a∧uZ S fs b2 c∧b1+b2<=b
def Td (bs:Nat->Nat):Nat->Nat->Nat
 | _,0=>0
 | j,k+1=>bs j+Td bs (j+1) k
def iY (P:Program)(m:Mem):Nat->TypeId->Nat->List d9->Prop
 | 0,_,_,_=>False
 | n+1,t,b,vs=>match P.underlying t with
  | some .bool=>∃b,vs=[.bool b]
  | some (.int k)=>∃i,vs=[.int k i]∧(Lit.int k i).wf=true
  | some .string=>∃s:List UInt8,vs=[.str s]∧s.length+1<=b
  | some (.slice e)=>vs=[.nilSlice]∨∃id len cap,vs=[.slice id 0 len cap]∧len<=cap∧
    ((cap=0∧m.get id=some .dead)∨∃rows bs,0<cap∧m.get id=some (.cells (P.cellsOf e) cap rows)∧Td bs 0 len+1<=b∧∀i,i<cap->∃row,rows.get i=some row∧row.length=P.cellsOf e∧(i<len->iY P m n e (bs i) row))
  | some (.struct fs)=>uZ (iY P m n) fs.toList b vs
  | _=>False
theorem Ck {S S':TypeId->Nat->List d9->Prop}(h:∀t b vs,S t b vs->S' t b vs):∀fs b vs,uZ S fs b vs->uZ S' fs b vs
 | [],_,_,hv=>hv
 | _::fs,_,_,⟨a,c,b1,b2,e,h1,h2,h3⟩=>⟨a,c,b1,b2,e,h _ _ _ h1,Ck h fs b2 c h2,h3⟩
theorem Bj {P:Program}{m m':Mem}(h:∀i b,m.get i=some b->m'.get i=some b):∀n t b vs,iY P m n t b vs->iY P m' n t b vs:=by
 intro n;induction n with
 | zero=>intro t b vs a;exact a
 | succ n ih=>
  intro t b vs a;unfold iY at a ⊢;split at a;exact a;exact a;exact a;rcases a with a | ⟨id,len,cap,h1,h2,h4⟩;exact .inl a;refine .inr ⟨id,len,cap,h1,h2,?_⟩;rcases h4 with⟨h4,h5⟩ | ⟨rows,bs,h4,h5,h7,h6⟩;exact .inl ⟨h4,h _ _ h5⟩;exact .inr ⟨rows,bs,h4,h _ _ h5,h7,λi g=>by
   obtain⟨c,d,e,f⟩:=h6 i g;exact⟨c,d,e,λj=>ih _ _ _ (f j)⟩⟩
  exact Ck (λt b vs=>ih t b vs) _ _ _ a;exact a
theorem Te {S:TypeId->Nat->List d9->Prop}:∀{fs:List Field} {b b':Nat} (_:b<=b') (vs:List d9),uZ S fs b vs->uZ S fs b' vs
 | [],_,_,h,_,hv=>⟨hv.1,aA hv.2 h⟩
 | _ :: _,_,_,h,_,⟨a,c,b1,b2,e,h1,h2,h3⟩=>⟨a,c,b1,b2,e,h1,h2,aA h3 h⟩
theorem Np {α:Type}(f:α->Nat)(d:Nat->Nat):∀(l:List α) (j:Nat),(∀i (h:i<l.length),d (j+i)=f l[i])->Td d j l.length=(l.map f).sum
 | [],_,_=>rfl
 | x::l,j,h=>by
  have h0:=h 0 (by simp);simp only [Y3,List.getElem_cons_zero] at h0;simp only [Y1,Td,Z7,aeG,h0];rw [Np f d l (j+1) (λi hi=>by
   have:=h (i+1) (by simp;omega);simp only [List.getElem_cons_succ] at this;rw [show j+1+i=j+(i+1) from by omega];exact this)]
section
variable {P:Program}{G:Mem}{hp:Array Obj}{H:Type}{enc:TypeId×Value->H}{w:World}{held:Bool}
theorem Ko {cs:List Value}{S:Mem->TypeId->Nat->List d9->Prop}(A:∀m m' t b vs,(∀i x,m.get i=some x->m'.get i=some x)->S m t b vs->S m' t b vs):
  ∀(fs:List Field) (bs:List Nat) (o:Nat),bs.length=fs.length->(∀(i:Nat) (f:Field) (b:Nat),fs[i]?=some f->bs[i]?=some b->∀ι m,RM P G ι m hp->m.lim=m.nx->Gets P G hp ι m ((cs.drop f.offset).take (P.cellsOf f.type)) (λm' vs=>S m' f.type b vs))->Kn P fs o cs.length=true->
   ∀ι m,RM P G ι m hp->m.lim=m.nx->Gets P G hp ι m (cs.drop o) (λm' vs=>uZ (S m') fs (bs.sum+1) vs):=by
 intro fs;induction fs with
 | nil=>intro bs o _ _ d ι m l k;have:o=cs.length:=q8 d;exact⟨ι,m,[],Lifts.refl l k,by rw [this];simp [p8],trivial,rfl,by omega⟩
 | cons f fs ih=>
  intro bs o r s d ι m l k;cases bs with
  | nil=>simp at r
  | cons b bs=>simp only [Kn,U9] at d;have z:f.offset=o:=q8 d.1;obtain⟨n,E,a,g,w,q,y⟩:=s 0 f b rfl rfl ι m l k;obtain⟨p,F,c,e,B,C,D⟩:=ih bs (o+P.cellsOf f.type) (by simpa using r) (λi v u j h=>s (i+1) v u j h) d.2 n E g.rm g.lim;refine⟨p,F,a++c,g.trans e,?_,jo (e.lt q) C,a,c,b,bs.sum+1,rfl,A _ _ _ _ _ e.get y,D,by simp;omega⟩;rw [jY,e.l9 q,w,B,z,← ahi,aha]
theorem PU {n:Nat}{row:Nat->List Value}{S:Mem->Nat->List d9->Prop}(q:∀m m' i vs,(∀i b,m.get i=some b->m'.get i=some b)->S m i vs->S m' i vs)
  (h:∀i,i<n->∀ι m,RM P G ι m hp->m.lim=m.nx->Gets P G hp ι m (row i) (λm' vs=>S m' i vs)):∀c,c<=n->∀ι m,RM P G ι m hp->m.lim=m.nx->
   ∃(ι':K4) (m':Mem) (rl:List (List d9)),Lifts P G hp ι m ι' m'∧rl.length=c∧∀i r,rl[i]?=some r->p8 ι' r=row i∧bg (m'.nm ι') r∧S m' i r:=by
 intro c;induction c with
 | zero=>intro _ ι m g f;exact⟨ι,m,[],Lifts.refl g f,rfl,λi r a=>by simp at a⟩
 | succ c ih=>
  intro A ι m g f;obtain⟨j,v,rl,e,o,p⟩:=ih (by omega) ι m g f;obtain⟨k,w,r,d,s,t,u⟩:=h c (by omega) j v e.rm e.lim;refine⟨k,w,rl ++ [r],e.trans d,by simp [o],λi z a=>?_⟩;by_cases hi:i<rl.length;rw [aaT hi] at a;obtain⟨x,l,y⟩:=p i z a;exact⟨by rw [d.l9 l,x],d.lt l,q _ _ _ _ d.get y⟩;rw [abr (by omega)] at a;have:i-rl.length=0:=by have:=(J3.1 a).1;simp at this;omega
  rw [this] at a;simp at a;subst a;obtain rfl:i=c:=by omega
  exact⟨s,t,u⟩
theorem Kq {mu:DataW H->Nat}(j:∀e s,((e.map mu).sum+1<=mu (.slice e s))){t e:TypeId}{n:Nat}{cs:List Value}{x:DataW H×List MemPlace}(m:P.underlying t=some (.slice e))(h:DataW.trod enc P w 0 (λ_=>true) held (n+1) t cs=some x):
  cs=[.slice none 0 0]∨∃(a:Addr) (len cap:Nat) (bs:Nat->Nat),cs=[.slice (some a) len cap]∧len<=cap∧cap<=maxLen∧Td bs 0 len+1<=mu x.1∧
   ∀i,i<cap->∃row d,w.cells? 0 (a.add (i*P.cellsOf e)) (P.cellsOf e)=some row∧DataW.trod enc P w 0 (λ_=>true) held n e row=some d∧(i<len->mu d.1=bs i):=by
 rcases DataW.trod_slice m h with⟨h0,_⟩ | ⟨a,len,cap,elems,rest,n',hn,rfl,rfl,_,hl,hm,hlen,hel,hsp,_⟩;exact .inl h0;obtain rfl:n'=n:=by omega
 obtain⟨q,k⟩:=hsp rfl;have b:∀(o:Option (List Value)) (d:DataW H×List MemPlace),o.bind (DataW.trod enc P w 0 (λ_=>true) held n' e)=some d->∃row,o=some row∧DataW.trod enc P w 0 (λ_=>true) held n' e row=some d:=λo d h=>by obtain⟨row,c,l⟩:=abC.1 h;exact⟨row,c,l⟩
 refine .inr ⟨a,len,cap,λi=>((elems[i]?).map λd=>mu d.1).getD 0,rfl,hl,hm,?_,λi p=>?_⟩;have:=Np (λd:DataW H×List MemPlace=>mu d.1) (λi=>((elems[i]?).map λd=>mu d.1).getD 0) elems 0 (λi h=>by simp [h]);rw [hlen] at this;rw [this];have:=j (elems.map (·.1)) (rest.map (·.1));rw [ad4] at this;exact this;by_cases c:i<len;have:=hel i c;rw [Hl (by omega)] at this;obtain⟨row,f,g⟩:=b _ _ this;exact⟨row,_,f,g,λ_=>by simp [Hl (show i<elems.length by omega)]⟩;have:=k (i-len) (by omega);rw [Hl (by omega),show len+(i-len)=i from by omega] at this;obtain⟨row,f,g⟩:=b _ _ this;exact⟨row,_,f,g,λh=>absurd h c⟩
theorem agU {mu:DataW H->Nat}(ac:∀e s,((e.map mu).sum+1<=mu (.slice e s)))(aa:∀p,(p.map mu).sum+1<=mu (.agg p))(ab:∀b,b.length+1<=mu (.lit (.string b))){S:List TypeId}(hS:VU P S=true):∀(n:Nat) (t:TypeId) (cs:List Value) (x:DataW H×List MemPlace),DataW.trod enc P w 0 (λ_=>true) held n t cs=some x->S.contains t=true->
  ∀ι m,RM P G ι m w.heap->m.lim=m.nx->Gets P G w.heap ι m cs (λm' vs=>iY P m' n t (mu x.1) vs):=by
 intro n;induction n with
 | zero=>intro t cs x z;simp [DataW.trod] at z
 | succ k ih=>
  intro t cs x z hp ι m J y;have hp:=abv.1 hS t (List.elem_iff.1 hp);have A:∀vs:List d9,p8 ι vs=cs->bg (m.nm ι) vs->iY P m (k+1) t (mu x.1) vs->Gets P G w.heap ι m cs (λm' vs=>iY P m' (k+1) t (mu x.1) vs):=λvs X h2 h3=>⟨ι,m,vs,Lifts.refl J y,X,h2,h3⟩;split at hp;rename_i q;obtain⟨b,rfl,_⟩:=DataW.trod_bool q z;exact A [.bool b] rfl ⟨trivial,trivial⟩ (by unfold iY;rw [q];exact⟨b,rfl⟩);rename_i ik q;obtain⟨i,rfl,_,hw⟩:=DataW.trod_int q z;exact A [.int ik i] rfl ⟨trivial,trivial⟩ (by unfold iY;rw [q];exact⟨i,rfl,hw⟩);rename_i q;obtain⟨s,rfl,rfl,_⟩:=DataW.trod_string q z;have ad:=ab s.data.toList;exact A [.str s.data.toList] (by simp [p8,l9]) ⟨trivial,trivial⟩ (by unfold iY;rw [q];exact⟨s.data.toList,rfl,ad⟩);rename_i e q;simp only [U9] at hp;have C:0<P.cellsOf e:=Y5.mp hp.2;rcases Kq ac q z with rfl | ⟨a,len,mm,bs,rfl,D,hcap,hsum,hel⟩;exact A [.nilSlice] rfl ⟨trivial,trivial⟩ (by unfold iY;rw [q];exact .inl rfl);by_cases h0:mm=0;subst h0;have D:len=0:=by omega
  subst D;have L:=Lifts.push (b:=.dead) (l:=⟨a.block,a.off,0,a.spot⟩) J y rfl (by intro h;cases h) trivial;refine⟨_,_,[.slice m.nx 0 0 0],L,?_,⟨⟨.dead,by rw [Mem.uY,Mem.K5 J.ok,if_pos rfl],rfl⟩,trivial⟩,?_⟩;simp [p8,l9,K4.at];unfold iY;rw [q];exact .inr ⟨m.nx,0,0,rfl,J2 _,.inl ⟨rfl,by rw [Mem.uY,Mem.K5 J.ok,if_pos rfl]⟩⟩;obtain⟨row,R⟩:=Deep.choose_lt hel;obtain⟨B,F,U,V,g2,g3⟩:=PU (n:=mm) (row:=row) (S:=λm' i vs=>i<len->iY P m' k e (bs i) vs) (λm m' i vs h hs y=>Bj h k e (bs i) vs (hs y))
   (λi o ι m J y=>by
    obtain⟨d,_,hd,hb⟩:=R i o;obtain⟨ag,m9,ae,K,M,I,Y⟩:=ih e (row i) d hd hp.1 ι m J y;exact⟨ag,m9,ae,K,M,I,λy=>hb y▸Y⟩) mm (J2 _) ι m J y
  have g:∀i j,i<mm->j<P.cellsOf e->w.cell? ((a.add (i*P.cellsOf e)).add j)=(row i)[j]?∧(row i).length=P.cellsOf e:=λi j o Q=>by obtain⟨d,q0,_,_⟩:=R i o;obtain⟨_,M,I⟩:=World.cells?_some q0;exact⟨I j Q,M⟩
  have u:∀i j,i<mm->j<P.cellsOf e->∃v,(row i)[j]?=some v:=λi j o Q=>⟨_,Hl (by rw [(g i j o Q).2];exact Q)⟩;have E:a.spot=none:=by
   obtain⟨v,W⟩:=u 0 0 (by omega) C;have:=(g 0 0 (by omega) C).1;rw [W] at this;unfold World.cell? at this;split at this;split at this;cases this;rename_i hn;simp only [adk,Addr.add,if_true] at hn;cases hs:a.spot with
   | none=>rfl
   | some s=>rw [hs] at hn;simp at hn
   cases this
  obtain⟨c,Z,fz,hc⟩:∃c Z fz,w.heap[a.block]?=some (.cells c Z fz):=by obtain⟨v,W⟩:=u 0 0 (by omega) C;have:=(g 0 0 (by omega) C).1;rw [W] at this;unfold World.cell? at this;split at this;rename_i c Z fz hh;simp only [adk,Addr.add,if_true] at hh;exact⟨c,Z,fz,hh⟩;cases this
  have a0:∀i j,(a.add (i*P.cellsOf e)).add j=⟨a.block,a.off+(i*P.cellsOf e+j),none⟩:=λi j=>by rw [Deep.add_add];unfold Addr.add;split;rename_i h;rw [h,Y3,← E];rfl
  have a1:∀i j,i<mm->j<P.cellsOf e->c[a.off+(i*P.cellsOf e+j)]?=(row i)[j]?:=λi j o Q=>by have:=(g i j o Q).1;rw [a0] at this;simpa [World.cell?,hc] using this
  have N:a.off+mm*P.cellsOf e<=c.size:=by
   obtain⟨v,W⟩:=u (mm-1) (P.cellsOf e-1) (by omega) (by omega);have:=a1 (mm-1) (P.cellsOf e-1) (by omega) (by omega);rw [W] at this;have X:=(Q5.1 this).1;have h2:(mm-1)*P.cellsOf e+P.cellsOf e=mm*P.cellsOf e:=by rw [← ac1];congr 1;omega
   omega
  have a6:∀i,i<mm->∃r,U[i]?=some r∧p8 B r=row i∧bg (F.nm B) r∧(i<len->iY P F k e (bs i) r)∧r.length=P.cellsOf e:=λi o=>by have hh:U[i]?=some U[i]:=Hl (by omega);obtain⟨K,M,I⟩:=g3 i _ hh;refine⟨_,hh,K,M,I,?_⟩;have:=congrArg List.length K;rw [V3] at this;rw [this,(g i 0 o C).2]
  have a5:∀i x,F.get i=some x->i≠F.nx:=λi x z e=>by have:=Mem.I7 V.rm.ok z;omega
  have O:∀j,F.has j->(B.upd F.nx ⟨a.block,a.off,mm*P.cellsOf e,none⟩) j=B j:=λj ⟨x,z,_⟩=>B.upd_ne _ (a5 j x z);have a2:∀i,F.has i->(F.new (.cells (P.cellsOf e) mm (T.ofList U))).has i:=λi ⟨x,z,W⟩=>⟨x,by rw [Mem.K5 V.rm.ok,if_neg (a5 i x z)];exact z,W⟩;have L:=Lifts.push (b:=.cells (P.cellsOf e) mm (T.ofList U)) (l:=⟨a.block,a.off,mm*P.cellsOf e,none⟩) V.rm V.lim rfl (λ_=>rfl)
   ⟨c,Z,fz,hc,N,⟨J2 _,U.length,by omega,T.eF U,xI λX=>by
    rw [T.bA];exact aeE (by omega)⟩,λi o=>by
    obtain⟨r,K,M,I,Y,q5⟩:=a6 i o;refine⟨r,by rw [T.bA];exact K,q5,dH (Mem.au a2 O) r I,λj Q=>?_⟩;show c[a.off+(i*P.cellsOf e+j)]?=_;rw [a1 i j o Q,← M,aQ];cases hr:r[j]? with
    | none=>rfl
    | some v=>simp [R6 (n:=F.nm B) O v (bX.1 I v (Y6 hr))]⟩
  refine⟨_,_,[.slice F.nx 0 len mm],V.trans L,?_,⟨⟨_,by rw [Mem.uY,Mem.K5 V.rm.ok,if_pos rfl],rfl⟩,trivial⟩,?_⟩;simp only [p8,l9];rw [K4.yP (by rw [K4.Z0]),K4.Z0];simp only [Y3];rw [← E];unfold iY;rw [q];refine .inr ⟨F.nx,len,mm,rfl,D,.inr ⟨T.ofList U,bs,by omega,by rw [Mem.uY,Mem.K5 V.rm.ok,if_pos rfl],hsum,λi o=>?_⟩⟩;obtain⟨r,K,M,I,Y,q5⟩:=a6 i o;exact⟨r,by rw [T.bA];exact K,q5,λy=>Bj L.get k e (bs i) r (Y y)⟩;rename_i fs q;simp only [U9,abv] at hp;obtain⟨xs,n',hn,rfl,a8,a7,hf⟩:=DataW.trod_struct q z;obtain rfl:n'=k:=by omega
  have:=Ko (P:=P) (G:=G) (hp:=w.heap) (cs:=cs) (S:=λm' t b vs=>iY P m' n' t b vs) (λm m' t b vs h hs=>Bj h n' t b vs hs) fs.toList (xs.map λd=>mu d.1) 0 (by simp [a7])
   (λi f b o hb ι m J y=>by
    have a9:=Y6 o;have a3:fs[i]?=some f:=(by simpa using o);have X:=hf i f a3;have a4:i<xs.length:=(by rw [a7];exact (Q5.1 a3).1);rw [Hl a4] at X;rw [abq,Hl a4] at hb;cases hb;exact ih f.type _ _ X (hp.1 f a9) ι m J y) (by rw [a8];exact hp.2) ι m J y
  obtain⟨af,m',vs,K,M,I,Y⟩:=this;refine⟨af,m',vs,K,by simpa using M,I,?_⟩;unfold iY;rw [q];have hg:=aa (xs.map (·.1));rw [ad4] at hg;exact Te hg _ Y;cases hp
end
def Kr (P:Program)(slots:List Nat)(ops:Array Oper):Option U7:=
 match jQ P slots ops [] (canon (DT ops) (masks ops.toList) ops.size) with
 | none=>none
 | some insts=>some (.dreg (JC insts) (numbered (masks ops.toList) ((canon (DT ops) (masks ops.toList) ops.size).zip insts) [] 0))
theorem Iu {P:Program}{a:List Nat}{ops:Array Oper}{c:U7}(h:yN P a ops=some c):Kr P a ops=some c:=by unfold yN at h;unfold Kr;split at h;cases h;rename_i b d;rw [d];split at h;exact h;cases h
def Ku (P:Program)(slots:List Nat)(ops:Array Oper):Option U7:=
 match Kr P slots (ops.extract 0 (ops.size-3)) with
 | some (.dreg n l)=>Da (pz P slots [] ops (ops.size-3)) (pz P slots [(ops[ops.size-3]?).bind (·.dst)] ops (ops.size-2)) (pz P slots [] ops (ops.size-1)) n l
 | _=>none
theorem PV {P:Program}{a:List Nat}{ops:Array Oper}{c:U7}(h:DU P a ops=some c):Ku P a ops=some c:=by unfold DU at h;unfold Ku;split at h;rename_i n l b;rw [Iu b];split at h;exact h;cases h;cases h
def iL (P:Program)(slots:List Nat):Code->Option U7
 | .skip=>some .skip
 | .region _ ops false=>match jQ P slots ops [] (List.range ops.size) with
  | some l=>some (.reg l)
  | none=>none
 | .region _ ops true=>if splits ops then Ku P slots ops else Kr P slots ops
 | .seq a b=>match iL P slots a,iL P slots b with
  | some x,some y=>some (.seq x y)
  | _,_=>none
 | .cond c a b=>match N8 P slots [] c,iL P slots a,iL P slots b with
  | some z,some x,some y=>some (.cond z x y)
  | _,_,_=>none
 | .block id a=>match iL P slots a with
  | some x=>some (.block id x)
  | none=>none
 | .loop a=>match iL P slots a with
  | some x=>some (.loop x)
  | none=>none
 | .exit id=>some (.exit id)
 | .ret=>some .ret
 | .rangeFunc f ps a b=>match N8 P slots [] f,iL P slots a,iL P slots b with
  | some z,some x,some y=>some (.rangeFunc z (ps.toList.map λt=>idxOf t slots 0) x y)
  | _,_,_=>none
 | .refuse _=>some (.reg [⟨.e .bad,none,none⟩])
 | _=>none
theorem iF {P:Program}{slots:List Nat}:∀(k:Code) {c:U7},R7 P slots k=some c->iL P slots k=some c
 | .skip,_,h=>h
 | .region _ _ false,_,h=>h
 | .region _ ops true,_,h=>by unfold R7 at h;unfold iL;split at h;rename_i hs;rw [if_pos hs];exact PV h;rename_i hs;rw [if_neg hs];exact Iu h
 | .seq a b,c,h=>by unfold R7 at h;split at h;rename_i x y hx hy;unfold iL;rw [iF a hx,iF b hy];exact h;cases h
 | .cond z a b,c,h=>by unfold R7 at h;split at h;rename_i w x y hw hx hy;unfold iL;rw [hw,iF a hx,iF b hy];exact h;cases h
 | .block _ a,c,h=>by unfold R7 at h;split at h;rename_i x hx;unfold iL;rw [iF a hx];exact h;cases h
 | .loop a,c,h=>by unfold R7 at h;split at h;rename_i x hx;unfold iL;rw [iF a hx];exact h;cases h
 | .rangeFunc z _ a b,c,h=>by unfold R7 at h;split at h;rename_i w x y hw hx hy;unfold iL;rw [hw,iF a hx,iF b hy];exact h;cases h
 | .exit _,_,h=>h
 | .ret,_,h=>h
 | .scope _,_,h=>by cases h
 | .label _,_,h=>by cases h
 | .goto _,_,h=>by cases h
 | .refuse _,_,h=>h
def acW (P:Program)(slots:List Nat)(f:FuncId):Option AFn:=
 match P.funcs[f]? with
 | none=>none
 | some fn=>match fn.body with
  | none=>none
  | some c=>match iL P slots c,CK P slots fn.results.toList with
   | some b,some r=>some ⟨fn.params.size+fn.nfree,(List.range (fn.params.size+fn.nfree)).map λt=>idxOf t slots 0,slots.length,r,b⟩
   | _,_=>none
theorem YZ {P:Program}{d:List Nat}{f:FuncId}{a:AFn}(h:OP P d f=some a):acW P d f=some a:=by unfold OP at h;unfold acW;split at h;cases h;rename_i k i;rw [i];split at h;cases h;rename_i c g;simp only [g];split at h;rename_i b r e j;rw [iF _ e,j];split at h;exact h;cases h;cases h
def cT (P:Program)(slots:List Nat)(pure rc:Bool)(f:FuncId):W9:=SL pure rc ((acW P slots f).getD ⟨0,[],0,[],.skip⟩)
theorem gD {P:Program}{b:List Nat}{f:FuncId}{c d:Bool}(h:(OP P b f).isSome=true):qg P f (cT P b c d f):=by
 obtain⟨a,e⟩:=ah7.1 h;have:cT P b c d f=SL c d a:=by unfold cT;rw [YZ e];rfl
 rw [this];exact QS e c d
def QX (ops:Array Oper)(done:List (Option Nat))(i:Nat):List Nat:=
 match ops[i]? with
 | none=>[]
 | some o=>o.op.operands.toList.filterMap fun
  | .tmp t=>match iK t done 0 with
   | none=>some t
   | some _=>none
  | _=>none
def VW (ops:Array Oper):List Nat->List (Option Nat)->List Nat
 | [],_=>[]
 | i::l,done=>QX ops done i++VW ops l (((ops[i]?).bind (·.dst))::done)
def agV:Operand->List Nat
 | .tmp t=>[t]
 | _=>[]
def zJ:Code->List Nat
 | .region _ ops false=>VW ops (List.range ops.size) []
 | .region _ ops true=>VW ops (canon (DT ops) (masks ops.toList) ops.size) []++(if splits ops then QX ops [] (ops.size-3)++(QX ops [(ops[ops.size-3]?).bind (·.dst)] (ops.size-2)++QX ops [] (ops.size-1)) else [])
 | .seq a b=>zJ a++zJ b
 | .cond c a b=>agV c++(zJ a++zJ b)
 | .block _ b=>zJ b
 | .loop b=>zJ b
 | .rangeFunc f _ a b=>agV f++(zJ a++zJ b)
 | _=>[]
def agW (x:Nat):List Nat->Bool
 | []=>false
 | y::l=>bif Nat.beq x y then true else agW x l
def acX:List Nat->List Nat->List Nat
 | [],acc=>acc.reverse
 | x::l,acc=>bif agW x acc then acX l acc else acX l (x::acc)
def acY:List ResultVar->List Nat
 | []=>[]
 | .tmp t::l=>t::acY l
 | .cell t _::l=>t::acY l
def vg (P:Program)(f:FuncId):List Nat:=match P.funcs[f]? with
 | none=>[]
 | some fn=>match fn.body with
  | none=>[]
  | some c=>acX (zJ c++acY fn.results.toList) []
def fnQ (P:Program)(M PM RM:Nat)(f:FuncId):Option W9:=bif Nat.testBit M f then some (cT P (vg P f) (Nat.testBit PM f) (Nat.testBit RM f) f) else none
def Nq (P:Program)(M a n:Nat):Bool:=Nat.rec true (λi ih=>bif bif Nat.testBit M (a+i) then (OP P (vg P (a+i)) (a+i)).isSome else true then ih else false) n
theorem vV {P:Program}{M a:Nat}:∀{n:Nat},Nq P M a n=true->∀i,i<n->Nat.testBit M (a+i)=true->(OP P (vg P (a+i)) (a+i)).isSome=true:=by
 intro n;induction n with
 | zero=>intro _ i c;omega
 | succ n ih=>
  intro h i c b;have h:(bif (bif Nat.testBit M (a+n) then (OP P (vg P (a+n)) (a+n)).isSome else true) then Nq P M a n else false)=true:=h;cases h1:(bif Nat.testBit M (a+n) then (OP P (vg P (a+n)) (a+n)).isSome else true) with
  | false=>rw [h1] at h;cases h
  | true=>rw [h1] at h;by_cases hn:i=n;subst hn;rw [b] at h1;exact h1;exact ih h i (by omega) b
def orQ (o:Option (Option W9))(q:Option W9):Option W9:=Option.rec q (λx=>Option.rec q (λy=>some y) x) o
theorem acZ {P:Program}{t:T (Option W9)}{M a b:Nat}(e:TOk P (λi=>i) t)(d:∀f,Nat.testBit M f=true->(OP P (vg P f) f).isSome=true):∀f sf,orQ (t.get f) (fnQ P M a b f)=some sf->qg P f sf:=by
 intro f sf h;have c:fnQ P M a b f=some sf->qg P f sf:=λh=>by
  unfold fnQ at h;cases hb:Nat.testBit M f with
  | false=>rw [hb] at h;cases h
  | true=>rw [hb] at h;cases h;exact gD (d f hb)
 cases ho:t.get f with
 | none=>rw [ho] at h;exact c h
 | some x=>
  rw [ho] at h;cases x with
  | none=>exact c h
  | some y=>cases h;exact e f _ ho
structure Weak (m1 m2:Mem):Prop where
 nx:m2.nx=m1.nx
 lim:m2.lim=m1.lim
 ok:T.Ok m2.t m2.nx
 old:∀i,i<m1.lim->m2.get i=m1.get i
 blk:∀i b,m2.get i=some b->∃b1,m1.get i=some b1∧(b=b1∨(b=.dead∧bZ b1=false)∨
  ∃es es1,(b1=.map es1∨b1=.mapU es1)∧b=.mapU es∧es.Perm es1∧(∀e∈es,∃s,e.1=.str s)∧(es.map (·.1)).Nodup)
theorem Weak.void {m1 c:Mem}(h:Weak m1 c){i:Nat}{b b1:Q6}(j:c.get i=some b)(f:m1.get i=some b1):bZ b=bZ b1:=by obtain⟨d,a,e⟩:=h.blk i b j;rw [f] at a;cases a;rcases e with rfl | ⟨rfl,g⟩ | ⟨es,es1,rfl | rfl,rfl,_⟩;rfl;rw [g];rfl;rfl;rfl
theorem Weak.live {m1 c:Mem}(h:Weak m1 c){i:Nat}{b:Q6}(f:c.get i=some b)(a:U5 b=true):∃b1,m1.get i=some b1∧U5 b1=true:=by obtain⟨b1,d,e⟩:=h.blk i b f;refine⟨b1,d,?_⟩;rcases e with rfl | ⟨rfl,g⟩ | ⟨es,es1,rfl | rfl,rfl,_⟩;exact a;cases a;rfl;rfl
theorem Weak.get {m1 d:Mem}(h:Weak m1 d)(a:T.Ok m1.t m1.nx){i:Nat}{c:Q6}(e:m1.get i=some c):∃b,d.get i=some b:=
 (h.ok.get i).2 (by rw [h.nx];exact (a.get i).1 ⟨c,e⟩)
theorem Weak.has {m1 f:Mem}(h:Weak m1 f)(c:T.Ok m1.t m1.nx)(i:Nat):f.has i↔m1.has i:=by constructor;rintro⟨b,a,hv⟩;obtain⟨d,e,_⟩:=h.blk i b a;exact⟨d,e,by rw [← h.void a e];exact hv⟩;rintro⟨d,h1,hv⟩;obtain⟨b,a⟩:=h.get c h1;exact⟨b,a,by rw [h.void a h1];exact hv⟩
theorem Weak.nm {m1 b:Mem}(h:Weak m1 b)(a:T.Ok m1.t m1.nx)(ι:K4):b.nm ι=m1.nm ι:=by unfold Mem.nm;congr 1;funext i;exact propext (h.has a i)
theorem wW (ι:K4):∀(es:List (d9×d9)) (i:Nat),(J6 ι es i).map (λx=>(x.key,x.val))=es.map λe=>(l9 ι e.1,l9 ι e.2)
 | [],_=>rfl
 | e::es,i=>by simp [J6,wW ι es (i+1)]
section
variable {P:Program}{G:Mem}{ι:K4}
theorem Weak.rm {m1 t:Mem}{h:Array Obj}(k:Weak m1 t)(a:RM P G ι m1 h):RM P G ι t h where
 ok:=k.ok
 blk i b hb:=by rw [k.nm a.ok];obtain⟨c,d,f⟩:=k.blk i b hb;have l:=a.blk i c d;rcases f with rfl | ⟨rfl,_⟩ | ⟨es,es1,hb1,rfl,hp,hs,hn⟩;exact l;trivial;have g:(es1.map λe=>(l9 ι e.1,l9 ι e.2)).Perm (es.map λe=>(l9 ι e.1,l9 ι e.2)):=(hp.map _).symm;rcases hb1 with rfl | rfl;exact⟨J6 ι es1 0,es1.length,l.1,⟨by rw [wW];exact g,hs,hn⟩,λe q=>l.2 e (hp.subset q)⟩;obtain⟨L,x,u,v,w⟩:=l;exact⟨L,x,u,⟨v.1.trans g,hs,hn⟩,λe q=>w e (hp.subset q)⟩
 own i b hi hb hl:=by
  obtain⟨c,d,f⟩:=k.live hb hl;obtain⟨y,z⟩:=a.own i c (by rw [← k.lim];exact hi) d f;exact⟨λj A s p r=>by
   obtain⟨m,n,o⟩:=k.live p r;exact y j m s n o,z⟩
 glim:=by rw [k.lim];exact a.glim
 limn:=by rw [k.lim,k.nx];exact a.limn
 gle:=a.gle
 base i hi:=(k.old i (gI hi a.glim)).trans (a.base i hi)
 ghas i hi:=(k.has a.ok i).2 (a.ghas i hi)
 glob:=a.glob
 spot i b hb hl:=by obtain⟨c,d,f⟩:=k.live hb hl;exact a.spot i c d f
 gsz:=a.gsz
theorem Step.weak {ι':K4}{m m1 a:Mem}{w w':World}(h:Step P G ι m w ι' m1 w')(k:Weak m1 a):Step P G ι m w ι' a w' where
 rm:=k.rm h.rm
 ext:=h.ext
 has i hi:=(k.has h.rm.ok i).2 (h.has i hi)
 nx:=by rw [k.nx];exact h.nx
 lim:=k.lim.trans h.lim
 old i hi:=(k.old i (by rw [h.lim];exact hi)).trans (h.old i hi)
 size:=h.size
 frame:=h.frame
 own b:=by rintro⟨i,x,h1,h2,h3,h4⟩;obtain⟨c,d,e⟩:=k.live h2 h3;exact h.own b ⟨i,c,by rw [← k.lim];exact h1,d,e,h4⟩
 os:=h.os
 out:=h.out
 tape:=h.tape
theorem Q9.weak {m:Mem}{w w':World}{a b:List VM}{e:Ending}(h:Q9 P G ι m w a e w')(k:∀o∈a,∃o'∈b,o'.v=o.v∧Weak o.m o'.m):Q9 P G ι m w b e w':=by rcases h with⟨v,he,r,hr,ι',hst,hlt,hv⟩ | ⟨r,hr,x,ι',hx,hst,hlt,he⟩;obtain⟨o',f,d,c⟩:=k r hr;exact .inl ⟨v,he,o',f,ι',hst.weak c,by rw [d,c.nm hst.rm.ok];exact hlt,by rw [d];exact hv⟩;obtain⟨o',f,d,c⟩:=k r hr;exact .inr ⟨o',f,x,ι',d.trans hx,hst.weak c,by rw [c.nm hst.rm.ok];exact hlt,he⟩
theorem PW {K:Known}(j:VJ P K){c n:Nat}{f:FuncId}{args:List d9}{m:Mem}{a b:List VM}(h:l7 K c n (.func f) args m=some a)
  (k:∀o∈a,∃o'∈b,o'.v=o.v∧Weak o.m o'.m):
  AR P f∧∀{ι:K4} {w:World},RM P K.base ι m w.heap->bg (m.nm ι) args->CallsIn Fence.wide 0 P f (p8 ι args).toArray w (Q9 P K.base ι m w b):=by
 obtain⟨g,i⟩:=(Bf j c n).func h;exact⟨g,λp d=>(i p d).mono λe q l=>l.weak k⟩
theorem vk {K:Known}(b:VJ P K){f:FuncId}{sf:W9}(e:K.fns f=some sf){args:List d9}{m:Mem}{a:List VM}
  (h:T.Ok m.t m.nx->m.lim<=m.nx->∃fuel n outs1,l7 K fuel n (.func f) args m=some outs1∧∀o∈outs1,∃o'∈a,o'.v=o.v∧Weak o.m o'.m):
  AR P f∧∀{ι:K4} {w:World},RM P K.base ι m w.heap->bg (m.nm ι) args->CallsIn Fence.wide 0 P f (p8 ι args).toArray w (Q9 P K.base ι m w a):=by
 refine⟨(b.fns f sf e).ok,λ{ι w} hm hargs=>?_⟩;obtain⟨fuel,n,outs1,c,d⟩:=h hm.ok hm.limn;exact (PW b c d).2 hm hargs
end
theorem Nr {α β:Type}{f:α->Option (List β)}{g:β->Prop}:∀{l:List α},(∀r∈l,∃os,f r=some os∧∀o∈os,g o)->∃outs,DL f l=some outs∧∀o∈outs,g o
 | [],_=>⟨[],rfl,λo ho=>by cases ho⟩
 | a::l,h=>by obtain⟨os,h1,h2⟩:=h a (ac2 ..);obtain⟨outs,h3,h4⟩:=Nr (l:=l) λr hr=>h r (Z8 _ hr);refine⟨os++outs,by rw [xP,h1,h3];rfl,λo ho=>?_⟩;rcases aa3.1 ho with ho | ho;exact h2 o ho;exact h4 o ho
theorem ad7 {α β:Type}{l:List α}{f:α->Option (List β)}{g:β->Prop}(h:∀r∈l,∃os,f r=some os∧∀o∈os,g o):∃outs,bnd (some l) f=some outs∧∀o∈outs,g o:=by
 match l,h with
 | [],_=>exact⟨[],rfl,λo c=>by cases c⟩
 | [a],h=>exact h a (aP.2 rfl)
 | a::b::t,h=>exact Nr (l:=a::b::t) h
theorem bV {α β:Type}{x:Option (List α)}{f:α->Option (List β)}{g1:α->Prop}{g:β->Prop}(c:∃l,x=some l∧∀r∈l,g1 r)(h:∀r,g1 r->∃os,f r=some os∧∀o∈os,g o):∃outs,bnd x f=some outs∧∀o∈outs,g o:=by obtain⟨l,rfl,a⟩:=c;exact ad7 λr b=>h r (a r b)
def aN (n:Nat)(m:Mem):Mem:=Nat.rec (λm=>m) (λ_ ih m=>ih (m.new .dead)) n m
def Kv (k:d9)(l:List (d9×d9)):Bool:=match k with
 | .str s=>List.rec true (λe _ ih=>match e.1 with
  | .str t=>bi (strEq s t) false ih
  | _=>false) l
 | _=>false
def strKeys (l:List (d9×d9)):Bool:=List.rec true (λe t ih=>bi (Kv e.1 t) ih false) l
def EW (l:List (d9×d9)):Bool:=List.rec true (λe _ ih=>match e.2 with
 | .agg [a,b]=>bi (r9 a) (bi (r9 b) ih false) false
 | _=>false) l
def vW (args:List d9)(m:Mem):eD:=match args with
 | [.map d,.map s]=>bi (Nat.blt d m.lim) none (bi (Nat.beq d s) none (Ov (m.get s) λes=>Cw (m.get d) λds=>
   bi (strKeys (U2 ds es)) (bi (EW es) (bi (Nat.blt (len' es) 100000) (one (.tuple []) ((aN (Nat.succ (len' es)) m).set d (.mapU (U2 ds es)))) none) none) none))
 | _=>none
def aV:List (Int×Int×List UInt8×Int):=
 [(5,3,[42],6),(5,3,[47],7),(5,3,[37],8),(4,3,[43],9),(4,3,[45],10),(3,3,[60],11),(3,3,[60,61],12),(3,3,[62],13),(3,3,[62,61],14),(3,3,[61,61],15),(3,3,[33,61],16),
  (1,1,[97,110,100],17),(0,1,[111,114],18)]
def Kw (lv k:Int)(s:List UInt8):Option Int:=List.rec none (λe _ ih=>bi (bY e.1 lv) (bi (bY e.2.1 k) (bi (strEq e.2.2.1 s) (some e.2.2.2) ih) ih) ih) aV
def nu (args:List d9)(m:Mem):eD:=match args with
 | [.ptr r off,.int .i64 lv]=>P8 (m.get r) λrs n rows=>ob (cell1 rs n rows off) λv=>ob (lenOf v) λlen=>Nat.rec (qU v (one (.int .i64 0) (aN 2 m)) (λ_ _ _ _=>one (.int .i64 0) (aN 2 m)) (λ_ _ _ _=>one (.int .i64 0) (aN 2 m))) (λ_ _=>qU v none (λid o _ _=>tok id o v r off lv) (λid o _ _=>tok id o v r off lv)) len
 | _=>none
where
 tok (id o:Nat) (v:d9) (r off:Nat) (lv:Int):eD:=P8 (m.get id) λrs n rows=>ob (jO rs n rows o 2) λl=>match l with
  | [.int .i64 k,.str s]=>Option.rec (one (.int .i64 0) (aN 2 m)) (λkd=>ob (N7 (aN 2 m).nx 2 v 1 none) λp=>storeAt (dF (aN 2 m) p.2) r off [p.1] λm'=>one (.int .i64 kd) m') (Kw lv k s)
  | _=>none
def aW (sep:List UInt8)(l:List (List UInt8)):List UInt8:=List.rec [] (λs t ih=>List.rec s (λ_ _ _=>U2 s (U2 sep ih)) t) l
def rY (l:List (List d9)):Option (List (List UInt8)):=List.rec (some []) (λr _ ih=>match r with
 | [.str s]=>ob ih λt=>some (s::t)
 | _=>none) l
def Za (c:UInt8)(s:List UInt8):Bool:=List.rec false (λb _ ih=>bi (Nat.beq b.toNat c.toNat) true ih) s
def EX (c:UInt8)(s:List UInt8):Int:=List.rec (Int.negSucc 0) (λb _ ih=>bi (Nat.beq b.toNat c.toNat) 0 (bi (bY ih (Int.negSucc 0)) (Int.negSucc 0) (ih+1))) s
def EY (c:UInt8)(s:List UInt8):Nat:=List.rec 0 (λb _ ih=>bi (Nat.beq b.toNat c.toNat) (Nat.succ ih) ih) s
def VX (fi fn fj nx:Nat)(f:FuncId)(args:List d9)(bs:List NB):Option BJ:=
 bi (Nat.beq f fi) (match args,bs with
  | [.str s,.str [c]],[]=>bi (Nat.blt (len' s) 1000000) (some ⟨.int .i64 (EX c s),[]⟩) none
  | _,_=>none)
 (bi (Nat.beq f fn) (match args,bs with
  | [.str s,.str [c]],[]=>bi (Nat.blt (len' s) 1000000) (some ⟨.int .i64 (.ofNat (EY c s)),[]⟩) none
  | _,_=>none)
 (bi (Nat.beq f fj) (match args,bs with
  | [v,.str sep],[.cells 1 rows]=>qU v none
    (λid off n c=>bi (Nat.beq id nx) (bi (Nat.ble n c) (bi (Nat.blt n 1000000) (ob (takeN n (lN off rows)) λl=>ob (rY l) λws=>bi (Nat.blt (len' (aW sep ws)) 1000000) (some ⟨.str (aW sep ws),[]⟩) none) none) none) none)
    (λid off n _=>bi (Nat.beq id nx) (bi (Nat.blt n 1000000) (ob (takeN n (lN off rows)) λl=>ob (rY l) λws=>bi (Nat.blt (len' (aW sep ws)) 1000000) (some ⟨.str (aW sep ws),[]⟩) none) none) none)
  | [.nilSlice,.str _],[]=>some ⟨.str [],[]⟩
  | _,_=>none) none))
set_option maxRecDepth 100000
set_option maxHeartbeats 1000000
def left (seen:List Nat):List (d9×d9)->Nat->List (Nat×(d9×d9))
 | [],_=>[]
 | e::es,i=>if rz i seen=true then left seen es (i+1) else (i,e)::left seen es (i+1)
theorem Iw (n x:Nat)(l:List Nat):rz n (x::l)=bi (Nat.beq x n) true (rz n l):=rfl
theorem Tf (n:Nat)(l:List Nat):rz n (n::l)=true:=by rw [Iw,abp];rfl
theorem Dh {n x:Nat}(h:x≠n)(l:List Nat):rz n (x::l)=rz n l:=by
 rw [Iw,show Nat.beq x n=false from by
  cases hb:Nat.beq x n with
  | false=>rfl
  | true=>exact absurd (q8 hb) h];rfl
theorem left_skip (j:Nat)(seen:List Nat):∀(es:List (d9×d9)) (k:Nat),j<k->left (j::seen) es k=left seen es k
 | [],_,_=>rfl
 | e::es,k,h=>by simp only [left];rw [Dh (by omega),left_skip j seen es (k+1) (by omega)]
theorem vo {seen:List Nat}:∀{es:List (d9×d9)} {i:Nat} {p:Nat×(d9×d9)},p∈left seen es i->i<=p.1∧es[p.1-i]?=some p.2∧rz p.1 seen=false
 | e::es,i,p,h=>by
  simp only [left] at h;have next:p∈left seen es (i+1)->i<=p.1∧(e::es)[p.1-i]?=some p.2∧rz p.1 seen=false:=λh=>by obtain⟨h1,h2,h3⟩:=vo h;refine⟨by omega,?_,h3⟩;rw [show p.1-i=(p.1-(i+1))+1 from by omega,abF];exact h2
  split at h;exact next h;rename_i hs;rcases Z9.1 h with rfl | h;exact⟨J2 _,by simp,by simpa using hs⟩;exact next h
theorem qM {seen:List Nat}:∀{es:List (d9×d9)} {i:Nat} {p:Nat×(d9×d9)},p∈left seen es i->(left seen es i).Perm (p::left (p.1::seen) es i)
 | e::es,i,p,h=>by
  have hm:=vo h;simp only [left] at h ⊢;by_cases hs:rz i seen=true;rw [if_pos hs] at h ⊢;have hne:p.1≠i:=λe=>by rw [e,hs] at hm;cases hm.2.2
  rw [Dh hne,if_pos hs];exact qM h
  ·rw [if_neg hs] at h ⊢;rcases Z9.1 h with rfl | h;rw [Tf,if_pos rfl,left_skip _ _ _ _ (ah8 _)]
   ·have:=(vo h).1;rw [Dh (by omega),if_neg hs];exact ((qM h).cons _).trans (List.Perm.swap ..)
theorem Ns (es:List (d9×d9)):∀i,(left [] es i).map (·.2)=es:=by
 induction es with
 | nil=>intro i;rfl
 | cons e es ih=>intro i;simp [left,ih,rz]
theorem EZ (es:List (d9×d9)):∀i,(left [] es i).length=es.length:=λi=>by have:=congrArg List.length (Ns es i);simpa using this
theorem Fa (m:Mem)(id mp since:Nat)(seen:List Nat):∀(es:List (d9×d9)) (i:Nat),
  nexts m id mp since seen es i=(left seen es i).map λp=>⟨.tuple [.bool true,p.2.1,p.2.2],m.set id (.iter (some mp) since (p.1::seen))⟩
 | [],_=>rfl
 | e::es,i=>by have h:nexts m id mp since seen (e::es) i=bi (rz i seen) (nexts m id mp since seen es (i+1)) (⟨.tuple [.bool true,e.1,e.2],m.set id (.iter (some mp) since (i::seen))⟩::nexts m id mp since seen es (i+1)):=rfl;rw [h,Fa m id mp since seen es (i+1)];simp only [left];cases rz i seen<;>rfl
theorem Nt {it:OF}{cf:G9}{ls:List d9}{env:T d9}{m:Mem}{i s:Nat}{a:List Nat}{es:List (d9×d9)}(h:it ls env=.ptr i 0)(c:m.lim<=i)
  (g:m.get i=some (.iter (some s) es.length a)) (hs:m.get s=some (.map es)):
  ∃l,BG it cf ls env m=some l∧∀r∈l,(left a es 0=[]∧r=⟨.tuple [.bool false],m⟩)∨∃p∈left a es 0,r=⟨.tuple [.bool true,p.2.1,p.2.2],m.set i (.iter (some s) es.length (p.1::a))⟩:=by
 have e:BG it cf ls env m=some (Ju m (nexts m i s es.length a es 0)):=by
  show gN (it ls env) _=_;rw [h];show bi (Nat.beq 0 0) (bi (Nat.blt i m.lim) none _) none=_;rw [show Nat.blt i m.lim=false from by
   cases hb:Nat.blt i m.lim with
   | false=>rfl
   | true=>have:=Y5.mp hb;omega]
  show GX (m.get i) _ _=_;rw [g];show Ov (m.get s) _=_;rw [hs];show bi (Nat.beq (len' es) es.length) _ _=_;rw [I9,abp];rfl
 refine⟨_,e,λr b=>?_⟩;rw [Fa] at b;match c:left a es 0 with
 | []=>rw [c] at b;exact .inl ⟨rfl,aP.1 b⟩
 | q::t=>rw [c] at b;have b:r∈(q::t).map λp=>(⟨.tuple [.bool true,p.2.1,p.2.2],m.set i (.iter (some s) es.length (p.1::a))⟩:VM):=b;obtain⟨p,d,f⟩:=ab1.1 b;exact .inr ⟨p,d,f.symm⟩
theorem Iy {it:OF}{ls:List d9}{env:T d9}{m:Mem}{i s j:Nat}{a:List Nat}{es:List (d9×d9)}{e:d9×d9}(h:it ls env=.ptr i 0)
  (b:m.get i=some (.iter (some s) es.length (j::a))) (hs:m.get s=some (.map es)) (c:es[j]?=some e):qX it ls env m=some (.tuple [e.1,e.2]):=by
 show gN (it ls env) _=_;rw [h];show bi (Nat.beq 0 0) (GX (m.get i) none _) none=_;rw [b];show Ov (m.get s) _=_;rw [hs];show bi (Nat.beq (len' es) es.length) (ob (oN j es) _) _=_;rw [I9,abp,jf,c];rfl
theorem Cm (k:List UInt8):∀(es:List (d9×d9)) (i:Nat),(∀e∈es,∃s,e.1=.str s∧s≠k)->findKey eqStr (.str k) es i=some none
 | [],_,_=>rfl
 | e::es,i,h=>by obtain⟨s,h1,h2⟩:=h e (ac2 ..);show ob (eqStr (.str k) e.1) _=_;rw [h1];show bi (strEq k s) _ _=_;rw [gU,beq_eq_false_iff_ne.2 (afR h2)];exact Cm k es (i+1) λe he=>h e (Z8 _ he)
theorem Ky (k:List UInt8)(es:List (d9×d9))(h:∀e∈es,∃s,e.1=.str s∧s≠k):R8 eqStr 1 (.str k) es=some none:=by
 cases es with
 | nil=>rw [Km];rfl
 | cons e es=>rw [GN];exact Cm k (e::es) 0 h
theorem Nu {k:d9}{l:List (d9×d9)}(h:Kv k l=true):∃s,k=.str s∧∀e∈l,∃t,e.1=.str t∧s≠t:=by
 cases k with
 | str s=>
  refine⟨s,rfl,?_⟩;induction l with
  | nil=>intro e a;cases a
  | cons x l ih=>
   obtain⟨b,c⟩:=x;intro e a;cases b with
   | str t=>have h:bi (strEq s t) false (Kv (.str s) l)=true:=h;rw [gU] at h;by_cases hst:s=t;rw [beq_iff_eq.2 hst] at h;cases h;rw [beq_eq_false_iff_ne.2 hst] at h;rcases Z9.1 a with rfl | a;exact⟨t,rfl,hst⟩;exact ih h e a
   | _=>cases h
 | _=>cases h
theorem zK:∀{l:List (d9×d9)},strKeys l=true->(∀e∈l,∃s,e.1=.str s)∧(l.map (·.1)).Nodup
 | [],_=>⟨λe he=>(by cases he),List.nodup_nil⟩
 | x::l,h=>by obtain⟨h1,h2⟩:=cZ (show bi (Kv x.1 l) (strKeys l) false=true from h);obtain⟨s,hs,hl⟩:=Nu h1;obtain⟨g1,g2⟩:=zK h2;refine⟨λe he=>?_,?_⟩;rcases Z9.1 he with rfl | he;exact⟨s,hs⟩;exact g1 e he;rw [Z7];refine ads.2 ⟨λhm=>?_,g2⟩;obtain⟨e,he,hk⟩:=ab1.1 hm;obtain⟨t,ht,hne⟩:=hl e he;rw [hs] at hk;rw [ht] at hk;cases hk;exact hne rfl
theorem Iz:∀{l:List (d9×d9)},EW l=true->∀e∈l,∃a b,e.2=.agg [a,b]∧r9 a=true∧r9 b=true
 | (k,.agg [a,b])::l,h,e,he=>by obtain⟨h1,h2⟩:=cZ (show bi (r9 a) (bi (r9 b) (EW l) false) false=true from h);obtain⟨h2,h3⟩:=cZ h2;rcases Z9.1 he with rfl | he;exact⟨a,b,rfl,h1,h2⟩;exact Iz h3 e he
def Bl:SC:=j4 (j5 (F9 (BG (J9 (gL gH))) (I8 (pExt G7 0) (sR sH) o7))) (j4 (p9 (J9 (gR gH)) D7 (mE 0)) (D5 1 (j4 (j5 (G6 (qX (J9 (gL gH))) (j6 (pExt G7 0) (j6 (pExt bW 1)
 (nH (ru [(.int .i64 (.ofNat 0)),.nilFunc]) (sL (sR sH)) (I8 (N9 eP) (sR (sL sH)) (F9 (U8 2 bW eP) o7))))))) (j5 (G6 (eu 2 (J9 (gL (gR gH)))) (F9 (J8 eqStr 1 (J9 (gL (gL gH))) (J9 (gR (gL gH))) G7) o7))))))
def VY:W9:=⟨false,[(some 3),(some 0)],6,[],(j4 (j5 (Qv (nR (J9 gH)) (sL sH) o7)) (D5 0 (P9 Bl))),none⟩
def oI (s it d b k p:d9):T d9:=.nd (.nd (.nd .e d .e) it (.nd .e p .e)) s (.nd (.nd .e k .e) b .e)
def Zb (u:Bool)(l:List (d9×d9)):Q6:=match u with
 | false=>.map l
 | true=>.mapU l
structure QY (m0:Mem)(d s it:Nat)(u:Bool)(es:List (d9×d9))(m:Mem)(seen:List Nat)(cur:List (d9×d9)):Prop where
 ok:m.Ok
 lim:m.lim=m0.lim
 dl:m0.lim<=d
 dn:d<m0.nx
 ds:d≠s
 sn:s<m0.nx
 itn:it=m0.nx
 mn:m0.nx<m.nx
 gs:m.get s=some (.map es)
 gi:m.get it=some (.iter (some s) es.length seen)
 gd:m.get d=some (Zb u cur)
 old:∀i,i<m0.nx->i≠d->m.get i=m0.get i
 new:∀i,m0.nx<=i->∀b,m.get i=some b->bZ b=false
 len:m.nx+(left seen es 0).length=m0.nx+1+es.length
structure VZ (m0:Mem)(d:Nat)(u:Bool)(all:List (d9×d9))(n:Nat)(m:Mem):Prop where
 ok:m.Ok
 lim:m.lim=m0.lim
 nx:m.nx=m0.nx+1+n
 gd:∃l,m.get d=some (Zb u l)∧all.Perm l
 old:∀i,i<m0.nx->i≠d->m.get i=m0.get i
 new:∀i,m0.nx<=i->∀b,m.get i=some b->bZ b=false
theorem Wd {a b:Nat}(h:b<=a):Nat.blt a b=false:=by
 cases hb:Nat.blt a b with
 | false=>rfl
 | true=>have:=Y5.mp hb;omega
theorem Nv {C:Mem}{d s it:Nat}{u:Bool}{es:List (d9×d9)}{m:Mem}{f:List Nat}{g:List (d9×d9)}(h:QY C d s it u es m f g)(I:C.lim<=C.nx)(h2:∀e∈es,∃a b,e.2=.agg [a,b]∧r9 a=true∧r9 b=true)
  (R:(∀e∈g++(left f es 0).map (·.2),∃t,e.1=.str t)∧((g++(left f es 0).map (·.2)).map (·.1)).Nodup) (cf:G9) (fu:Nat) (b k p:d9):
  ∃outs,Bl cf fu none (oI (.map s) (.ptr it 0) (.map d) b k p) m []=some outs∧∀o∈outs,
   (left f es 0=[]∧∃env,o=⟨.exit 0,env,m,[],none⟩)∨
   ∃q∈left f es 0,∃m' b' k' p',o=⟨.normal,oI (.map s) (.ptr it 0) (.map d) b' k' p',m',[],none⟩∧QY C d s it u es m' (q.1::f) (g ++ [q.2]):=by
 unfold Bl;rw [uV,zF];refine bV (g1:=λo:Out=>(left f es 0=[]∧o=⟨.normal,oI (.map s) (.ptr it 0) (.map d) (.bool false) k p,m,[],none⟩)∨
  ∃q∈left f es 0,o=⟨.normal,oI (.map s) (.ptr it 0) (.map d) (.bool true) k p,m.set it (.iter (some s) es.length (q.1::f)),[],none⟩) ?_ ?_
 refine bV (g1:=λe:EM=>(left f es 0=[]∧e=⟨oI (.map s) (.ptr it 0) (.map d) (.bool false) k p,m,none,[]⟩)∨
  ∃q∈left f es 0,e=⟨oI (.map s) (.ptr it 0) (.map d) (.bool true) k p,m.set it (.iter (some s) es.length (q.1::f)),none,[]⟩) ?_ ?_
 rw [Kk];refine bV (Nt (it:=J9 (gL gH)) (env:=oI (.map s) (.ptr it 0) (.map d) b k p) rfl (by rw [h.lim,h.itn];exact I) h.gi h.gs) ?_;rintro r (⟨h1,rfl⟩ | ⟨q,h1,rfl⟩);exact⟨_,rfl,λo n=>.inl ⟨h1,aP.1 n⟩⟩;exact⟨_,rfl,λo n=>.inr ⟨q,h1,aP.1 n⟩⟩;rintro e (⟨h1,rfl⟩ | ⟨q,h1,rfl⟩);exact⟨_,rfl,λo n=>.inl ⟨h1,aP.1 n⟩⟩;exact⟨_,rfl,λo n=>.inr ⟨q,h1,aP.1 n⟩⟩;rintro o (⟨h1,rfl⟩ | ⟨q,h1,rfl⟩);exact⟨_,rfl,λo n=>.inl ⟨h1,_,aP.1 n⟩⟩;obtain⟨_,B,a1⟩:=vo h1;rw [aht] at B;have V:q.2∈es:=Y6 B;obtain⟨x,y,O,Z,a0⟩:=h2 q.2 V;have hp:=qM h1;have U:(g++(left f es 0).map (·.2)).Perm (g++q.2::(left (q.1::f) es 0).map (·.2)):=(hp.map _).append_left _;have J:q.2∈g++(left f es 0).map (·.2):=adg _ (afI h1);obtain⟨t,Y⟩:=R.1 q.2 J;have l:R8 eqStr 1 (.str t) g=some none:=Ky t g λe P=>by obtain⟨t',N⟩:=R.1 e (ac4 _ P);refine⟨t',N,λe'=>?_⟩;have hn:((g++q.2::(left (q.1::f) es 0).map (·.2)).map (·.1)).Nodup:=(U.map _).nodup R.2;rw [abN,List.nodup_append] at hn;exact hn.2.2 _ (afI P) _ (by rw [Z7];exact ac2 ..) (by rw [N,Y,e'])
 have A:it<m.nx:=by rw [h.itn];exact h.mn
 have L:s≠it:=by rw [h.itn];exact ahc h.sn
 have E:d≠it:=by rw [h.itn];exact ahc h.dn
 have W:s<m.nx:=Nat.lt_trans h.sn h.mn;have F:d<m.nx:=Nat.lt_trans h.dn h.mn;generalize hM:m.set it (.iter (some s) es.length (q.1::f))=M;have Mok:M.Ok:=by rw [← hM];exact Mem.Ok.set h.ok A _
 have Mn:M.nx=m.nx:=by rw [← hM];rfl
 have Ml:M.lim=C.lim:=by rw [← hM];exact h.lim
 have Mg:∀i,M.get i=if i=it then some (.iter (some s) es.length (q.1::f)) else m.get i:=λi=>by rw [← hM,Mem.V4 h.ok A]
 have Ms:M.get s=some (.map es):=by rw [Mg,if_neg L];exact h.gs
 have Mi:M.get it=some (.iter (some s) es.length (q.1::f)):=by rw [Mg,if_pos rfl]
 have Md:M.get d=some (Zb u g):=by rw [Mg,if_neg E];exact h.gd
 have G:∀(env:T d9),gL gH env=.ptr it 0->qX (J9 (gL gH)) [] env M=some (.tuple [q.2.1,q.2.2]):=λenv P=>Iy (it:=J9 (gL gH)) P Mi Ms B;have Mlim:M.lim<=M.nx:=by rw [Ml,Mn];exact aA I (afC h.mn)
 have g1:(M.new (o8 [x,y])).get d=some (Zb u g):=by rw [Mem.K5 Mok,if_neg (by rw [Mn];exact ahc F)];exact Md
 have K:∀(env:T d9) (ls:List d9),env=oI (.map s) (.ptr it 0) (.map d) (.bool true) (.str t) (.ptr M.nx 0)->ls=[.agg [x,y]]->
   J8 eqStr 1 (J9 (gL (gL gH))) (J9 (gR (gL gH))) G7 cf ls env (M.new (o8 [x,y]))=some [⟨.undef,(M.new (o8 [x,y])).set d (Zb u (g ++ [(.str t,.agg [x,y])]))⟩]:=by
  rintro env ls rfl rfl;rw [yh];show bi (Nat.blt d M.lim) none (ob (msB ((M.new (o8 [x,y])).get d) eqStr 1 (.str t) (.agg [x,y])) _)=_;rw [Wd (by rw [Ml];exact h.dl),g1];cases u with
  | false=>show ob (ob (R8 eqStr 1 (.str t) g) _) _=_;rw [l];rfl
  | true=>show ob (ob (R8 eqStr 1 (.str t) g) _) _=_;rw [l];rfl
 refine⟨[⟨.normal,oI (.map s) (.ptr it 0) (.map d) (.bool true) (.str t) (.ptr M.nx 0),(M.new (o8 [x,y])).set d (Zb u (g ++ [(.str t,.agg [x,y])])),[],none⟩],?_,λo n=>.inr ⟨q,h1,_,_,_,_,aP.1 n,?_⟩⟩;have X:∀(env:T d9) (c:d9),U8 2 bW eP cf [.str t,.ptr M.nx 0,.agg [x,y],.str t,.tuple [.str t,.agg [x,y]]] env (M.new (o8 [c,.nilFunc]))=some [⟨.undef,M.new (o8 [x,y])⟩]:=λenv c=>by show storeAt (M.new (o8 [c,.nilFunc])) M.nx 0 [x,y] (λm'=>one .undef m')=_;rw [lu (m:=M.new (o8 [c,.nilFunc])) Mlim (by show bi (r9 x) (bi (r9 y) true false) false=true;rw [Z,a0];rfl),Mem.K5 Mok,if_pos rfl,gY (by simp) (by simp),K6,Mem.Kl Mok];rfl
 have j:=G (oI (.map s) (.ptr it 0) (.map d) (.bool true) k p) rfl;have v:=K _ _ rfl rfl;have S:ES ((M.new (o8 [x,y])).get M.nx) 0 2=some (.agg [x,y]):=by rw [Mem.K5 Mok,if_pos rfl,ku (by simp) (by simp)];rfl
 rw [Y,O] at j;simp only [oI] at j v ⊢;simp [j,X,v,S,ru];have hq:q.2=(.str t,.agg [x,y]):=by rw [← Y,← O]
 rw [← hq];have Nok:(M.new (o8 [x,y])).Ok:=Mem.Ok.new Mok _;have z:d<(M.new (o8 [x,y])).nx:=by show d<M.nx+1;rw [Mn];exact Nat.lt_succ_of_lt F
 have D:∀i,((M.new (o8 [x,y])).set d (Zb u (g ++ [q.2]))).get i=if i=d then some (Zb u (g ++ [q.2])) else if i=M.nx then some (o8 [x,y]) else if i=it then some (.iter (some s) es.length (q.1::f)) else m.get i:=λi=>by rw [Mem.V4 Nok z,Mem.K5 Mok,Mg]
 exact {
  ok:=Mem.Ok.set Nok z _
  lim:=Ml
  dl:=h.dl
  dn:=h.dn
  ds:=h.ds
  sn:=h.sn
  itn:=h.itn
  mn:=by show C.nx<M.nx+1;rw [Mn];exact Nat.lt_succ_of_lt h.mn
  gs:=by rw [D,if_neg (afR h.ds),if_neg (by rw [Mn];exact ahc W),if_neg L];exact h.gs
  gi:=by rw [D,if_neg (afR E),if_neg (by rw [Mn];exact ahc A),if_pos rfl]
  gd:=by rw [D,if_pos rfl]
  old:=λi Q H=>by rw [D,if_neg H,if_neg (by rw [Mn];have:=h.mn;omega),if_neg (by rw [h.itn];omega)];exact h.old i Q H
  new:=λi Q b' w=>by
   rw [D] at w;split at w;cases w;cases u<;>rfl
   split at w;cases w;rfl;split at w;cases w;rfl;exact h.new i Q b' w
  len:=by
   have:=h.len;have hl:=hp.length_eq;rw [Y1] at hl;show M.nx+1 + _=_;rw [Mn];omega}
theorem Zc {r:Mem}{d s it:Nat}{u:Bool}{es:List (d9×d9)}(i:r.lim<=r.nx)(w:∀e∈es,∃a b,e.2=.agg [a,b]∧r9 a=true∧r9 b=true)(cf:G9)(fu:Nat){all:List (d9×d9)}
  (l:(∀e∈all,∃t,e.1=.str t)∧(all.map (·.1)).Nodup):
  ∀(n:Nat) (m:Mem) (seen:List Nat) (cur:List (d9×d9)) (b k p:d9),QY r d s it u es m seen cur->(left seen es 0).length=n->all.Perm (cur++(left seen es 0).map (·.2))->∀N,n<N->
   ∃outs,A9 (λenv m k=>Bl cf fu none env m k) N (oI (.map s) (.ptr it 0) (.map d) b k p) m []=some outs∧∀o∈outs,∃env m',o=⟨.exit 0,env,m',[],none⟩∧VZ r d u all es.length m':=by
 intro n;induction n with
 | zero=>intro m seen cur b k p h g f N x;obtain⟨N,rfl⟩:∃N',N=N'+1:=⟨N-1,by omega⟩;have c:left seen es 0=[]:=aa5.1 g;rw [l8];refine bV (Nv h i w ⟨λe v=>l.1 e (f.symm.subset v),(f.map _).nodup l.2⟩ cf fu b k p) ?_;rintro o (⟨_,env,rfl⟩ | ⟨q,hq,_⟩);refine⟨_,rfl,λo y=>?_⟩;obtain rfl:=aP.1 y;refine⟨env,m,rfl,h.ok,h.lim,?_,⟨cur,h.gd,by rw [c] at f;simpa using f⟩,h.old,h.new⟩;have:=h.len;rw [g] at this;exact this;rw [c] at hq;cases hq
 | succ n ih=>intro m seen cur b k p h g f N x;obtain⟨N,rfl⟩:∃N',N=N'+1:=⟨N-1,by omega⟩;rw [l8];refine bV (Nv h i w ⟨λe v=>l.1 e (f.symm.subset v),(f.map _).nodup l.2⟩ cf fu b k p) ?_;rintro o (⟨c,_⟩ | ⟨q,hq,m',b',k',p',rfl,h'⟩);rw [c] at g;cases g;rw [zG];have j:=qM hq;refine ih m' (q.1::seen) (cur ++ [q.2]) b' k' p' h' ?_ ?_ N (by omega);have:=j.length_eq;rw [g,Y1] at this;omega;refine f.trans (((j.map _).append_left cur).trans ?_);rw [afy];exact List.Perm.refl _
theorem rZ (n:Nat)(m:Mem):(aN n m).nx=m.nx+n∧(aN n m).lim=m.lim:=by
 induction n generalizing m with
 | zero=>exact⟨rfl,rfl⟩
 | succ n ih=>have:aN (n+1) m=aN n (m.new .dead):=rfl;rw [this];obtain⟨a,b⟩:=ih (m.new .dead);exact⟨by rw [a];show m.nx+1+n=_;omega,b⟩
theorem vX (n:Nat){m:Mem}(a:m.Ok):(aN n m).Ok∧∀i,(aN n m).get i=if m.nx<=i∧i<m.nx+n then some .dead else m.get i:=by
 induction n generalizing m with
 | zero=>exact⟨a,λi=>by rw [if_neg (by omega)];rfl⟩
 | succ n ih=>have:aN (n+1) m=aN n (m.new .dead):=rfl;rw [this];obtain⟨b,c⟩:=ih (Mem.Ok.new a .dead);refine⟨b,λi=>?_⟩;rw [c,Mem.K5 a];show (if m.nx+1<=i∧i<m.nx+1+n then _ else if i=m.nx then some Q6.dead else m.get i)=_;by_cases h:i=m.nx;rw [if_neg (by omega),if_pos h,if_pos (by omega)];by_cases h':m.nx+1<=i∧i<m.nx+1+n;rw [if_pos h',if_pos (by omega)];rw [if_neg h',if_neg h,if_neg (by omega)]
theorem Wh {P:Program}{K:Known}(hK:VJ P K){f:FuncId}(V:K.fns f=some VY)(he:∀args m,K.eff f args m=none){args:List d9}{m:Mem}{outs:List VM}(h:vW args m=some outs):
  AR P f∧∀{ι:K4} {w:World},RM P K.base ι m w.heap->bg (m.nm ι) args->CallsIn Fence.wide 0 P f (p8 ι args).toArray w (Q9 P K.base ι m w outs):=by
 obtain⟨d,s,rfl⟩:∃d s,args=[.map d,.map s]:=by unfold vW at h;split at h;exact⟨_,_,rfl⟩;cases h
 have h:bi (Nat.blt d m.lim) none (bi (Nat.beq d s) none (Ov (m.get s) λa=>Cw (m.get d) λds=>bi (strKeys (U2 ds a)) (bi (EW a) (bi (Nat.blt (len' a) 100000) (one (.tuple []) ((aN (Nat.succ (len' a)) m).set d (.mapU (U2 ds a)))) none) none) none))=some outs:=h;obtain⟨O,h⟩:=jR h;obtain⟨Q,h⟩:=jR h;obtain⟨a,x,h⟩:=AA h;obtain⟨ds,v,h⟩:=Dc h;obtain⟨R,h⟩:=D9 h;obtain⟨X,h⟩:=D9 h;obtain⟨_,h⟩:=D9 h;cases h;rw [O4] at R ⊢;rw [I9];have C:=zK R;have h2:=Iz X;have A:d≠s:=λe=>by rw [e,abp] at Q;cases Q
 have y:m.lim<=d:=adp λhh=>by rw [show Nat.blt d m.lim=true from Y5▸hh] at O;cases O
 obtain⟨u,W⟩:∃u,m.get d=some (Zb u ds):=by rcases v with v | v;exact⟨false,v⟩;exact⟨true,v⟩
 refine vk hK V λg F=>?_;have g:m.Ok:=g;have I:=Mem.I7 g x;have z:=Mem.I7 g W;have g1:∀i,(m.new (.iter (some s) a.length [])).get i=if i=m.nx then some (.iter (some s) a.length []) else m.get i:=λi=>Mem.K5 g _ i
 have J:QY m d s m.nx u a (m.new (.iter (some s) a.length [])) [] ds:={
  ok:=Mem.Ok.new g _
  lim:=rfl
  dl:=y
  dn:=z
  ds:=A
  sn:=I
  itn:=rfl
  mn:=ah8 _
  gs:=by rw [g1,if_neg (by omega)];exact x
  gi:=by rw [g1,if_pos rfl]
  gd:=by rw [g1,if_neg (by omega)];exact W
  old:=λi B _=>by rw [g1,if_neg (by omega)]
  new:=λi B b n=>by rw [g1] at n;split at n;cases n;rfl;have:=Mem.I7 g n;omega
  len:=by show m.nx+1 + _=_;rw [EZ]}
 obtain⟨outs,G,H⟩:=Zc (all:=ds++a) F h2 (l7 K (a.length+1) 0) (a.length+1) C a.length _ [] ds .undef .undef .undef J (EZ a 0) (by rw [Ns]) (a.length+1) (ah8 _);have L:∃l,l7 K (a.length+1) 1 (.func f) [.map d,.map s] m=some l∧∀r∈l,∃m',r=⟨.tuple [],m'⟩∧VZ m d u (ds++a) a.length m':=by
  rw [dM];show ∃l,(Option.rec (ob (K.fns f) λM=>bi M.pure (iR K (l7 K (a.length+1) 0) (a.length+1) f M [.map d,.map s] m) (lS (l7 K (a.length+1) 0) (uh K (l7 K (a.length+1) 0) (a.length+1)) (a.length+1) M [.map d,.map s] m)) (λl=>some l) (K.eff f [.map d,.map s] m):eD)=some l∧_;rw [he,V];show ∃l,bnd (j4 (j5 (Qv (nR (J9 gH)) (sL sH) o7)) (D5 0 (P9 Bl)) (l7 K (a.length+1) 0) (a.length+1) none (oI (.map s) .undef (.map d) .undef .undef .undef) m []) (leave _ [])=some l∧_;refine bV (g1:=λo:Out=>∃j m',o=⟨.normal,j,m',[],none⟩∧VZ m d u (ds++a) a.length m') ?_ ?_;rw [uV,zF,acC];have t:nR (J9 gH) (l7 K (a.length+1) 0) [] (oI (.map s) .undef (.map d) .undef .undef .undef) m=some [⟨.ptr m.nx 0,m.new (.iter (some s) a.length [])⟩]:=by show Ov (m.get s) _=_;rw [x];show one _ (m.new (.iter (some s) (len' a) []))=_;rw [I9];rfl
  rw [t];show ∃l,bnd (A9 (λj m k=>Bl (l7 K (a.length+1) 0) (a.length+1) none j m k) (a.length+1) (oI (.map s) (.ptr m.nx 0) (.map d) .undef .undef .undef) (m.new (.iter (some s) a.length [])) []) (SQ 0)=some l∧_;refine bV ⟨outs,G,H⟩ ?_;rintro o ⟨j,m',rfl,c⟩;exact⟨_,rfl,λr t=>by
   obtain rfl:=aP.1 t;exact⟨j,m',rfl,c⟩⟩
  rintro o ⟨j,m',rfl,c⟩;exact⟨_,rfl,λr t=>by
   obtain rfl:=aP.1 t;exact⟨m',rfl,c⟩⟩
 obtain⟨l,D,E⟩:=L;refine⟨_,_,l,D,λo ho=>?_⟩;obtain⟨m',rfl,c⟩:=E o ho;refine⟨_,aP.2 rfl,rfl,?_⟩;obtain⟨S,Y⟩:=rZ (a.length+1) m;obtain⟨T,Z⟩:=vX (a.length+1) g;have p:d<(aN (a.length+1) m).nx:=by rw [S];omega
 have U:∀i,((aN (a.length+1) m).set d (.mapU (ds++a))).get i=if i=d then some (.mapU (ds++a)) else if m.nx<=i∧i<m.nx+(a.length+1) then some .dead else m.get i:=λi=>by rw [Mem.V4 T p,Z]
 exact {
  nx:=by show (aN (a.length+1) m).nx=m'.nx;rw [S,c.nx];omega
  lim:=by show (aN (a.length+1) m).lim=m'.lim;rw [Y,c.lim]
  ok:=Mem.Ok.set T p _
  old:=λi B=>by rw [c.lim] at B;rw [U,if_neg (by omega),if_neg (by omega),c.old i (by omega) (by omega)]
  blk:=λi b n=>by
   rw [U] at n;split at n;rename_i q;subst q;cases n;obtain⟨l',g1,g2⟩:=c.gd;refine⟨_,g1,.inr (.inr ⟨ds++a,l',?_,rfl,g2,C.1,C.2⟩)⟩;cases u;exact .inl rfl;exact .inr rfl;rename_i q;split at n;rename_i t;cases n;obtain⟨N,g1⟩:=(c.ok.get i).2 (by rw [c.nx];omega);exact⟨N,g1,.inr (.inl ⟨rfl,c.new i t.1 N g1⟩)⟩;have:=Mem.I7 g n;exact⟨b,by rw [c.old i this q];exact n,.inl rfl⟩}
def aF:List (d9×d9):=aV.map λe=>(.int .i64 e.2.2.2,.str e.2.2.1)
def Tg (tok:Option (Int×List UInt8))(e:Int×Int×List UInt8×Int):Bool:=match tok with
 | some (k,s)=>decide (e.2.1=k)&&(e.2.2.1==s)
 | none=>false
def iM (lv:Int)(tok:Option (Int×List UInt8))(e:Int×Int×List UInt8×Int):Bool:=decide (e.1=lv)&&Tg tok e
def Bn (fl fa:Nat):SC:=j4 (j5 (F9 (BG (J9 gH)) (I8 (pExt G7 0) (sL sH) o7))) (j4 (p9 (J9 (gL gH)) D7 (mE 0)) (D5 1 (j4 (j5 (G6 (qX (J9 gH)) (j6 (pExt G7 0) (j6 (pExt bW 1) (I8 (N9 bW) (sR sH) (I8 (N9 bW) (sL (sR sH)) o7))))))
 (j4 (j5 (F9 (D6 fl [(J9 (gR gH))]) (j6 (K8 dO dQ G7 (J9 (gL (gL gH)))) (j6 (gP G7 true (N9 (J9 (gR (gL gH))))) (j6 (gP bW true (N9 (J9 (gL (gR gH))))) (F9 (gE eP true (D6 fa [bW,G7])) (I8 (gq nP G7 (u6 (.bool false))) (sR (sR sH)) o7)))))))
  (p9 (J9 (gR (gR gH))) (j4 (j5 (j6 (dh (J9 (gR (gL gH)))) (j6 (L6 0 G7) (G6 (xu G7) (iJ (lSl 2 G7 (some (u6 (.int .i64 (.ofNat 1)))) none) (j6 (dh (J9 (gR (gL gH)))) (j6 (L6 0 G7) (F9 (U8 1 G7 eP) o7))))))))
   (j4 (j5 (I8 (N9 (J9 (gR gH))) (sL (sL (sL sH))) o7)) C9)) D7)))))
def Kz (fs fl fa:Nat):W9:=⟨false,[(some 4),(some 3)],8,[.tmp 7],(j4 (j5 (I8 (N9 (u6 (.int .i64 (.ofNat 0)))) (sL (sL (sL sH))) o7)) (j4 (j4 (j5 (F9 (D6 fs []) (Qv (nR G7) sH o7))) (D5 0 (P9 (Bn fl fa))))
 (j4 (j5 (I8 (N9 (u6 (.int .i64 (.ofNat 0)))) (sL (sL (sL sH))) o7)) C9))),none⟩
def dV (it b kd lv r sg cd res:d9):T d9:=.nd (.nd (.nd (.nd .e res .e) lv .e) b (.nd .e sg .e)) it (.nd (.nd .e r .e) kd (.nd .e cd .e))
structure vB (m0 m:Mem)(seen:List Nat):Prop where
 ok:m.Ok
 lim:m.lim=m0.lim
 ll:m0.lim<=m0.nx
 mn:m.nx=m0.nx+2
 gs:m.get m0.nx=some (.map aF)
 gi:m.get (m0.nx+1)=some (.iter (some m0.nx) aF.length seen)
 old:∀i,i<m0.nx->m.get i=m0.get i
theorem Zd {j:Nat}{x:d9×d9}(h:aF[j]?=some x):∃e∈aV,aV[j]?=some e∧x=(.int .i64 e.2.2.2,.str e.2.2.1):=by unfold aF at h;rw [abq] at h;obtain⟨e,a,b⟩:=abD.1 h;exact⟨e,Y6 a,a,b.symm⟩
theorem Nw {c m:Mem}{a:List Nat}(h:vB c m a){r off Q P:Nat}{lv:Int}{k:Option (Int×List UInt8)}{cf:G9}{v v':d9}{p:Option Q6}{B:Q6}
  (S:∀e∈aV,∀M,cf (.func Q) [.int .i64 e.2.2.2] M=some [⟨.int .i64 e.1,M⟩])
  (R:∀e∈aV,∀M:Mem,(∀i,i<c.nx->M.get i=c.get i)->cf (.func P) [.ptr r off,.str e.2.2.1] M=some [⟨.bool (Tg k e),M⟩])
  (J:ld1 (c.get r) off=some v) (X:r<c.nx)
  (L:∀e∈aV,iM lv k e=true->N7 (c.nx+2) 2 v 1 none=some (v',p)∧r9 v'=true∧v'.cells=[v']∧vS (c.get r) off [v']=some B∧c.lim<=r) (fu:Nat) (b t u l g:d9):
  ∃outs,Bn Q P cf fu none (dV (.ptr (c.nx+1) 0) b t (.int .i64 lv) (.ptr r off) u l g) m []=some outs∧∀o∈outs,
   (left a aF 0=[]∧∃env,o=⟨.exit 0,dV (.ptr (c.nx+1) 0) (.bool false) t (.int .i64 lv) (.ptr r off) u l g,m,[],none⟩∧env=())∨
   ∃q∈left a aF 0,∃e∈aV,aV[q.1]?=some e∧∃M,vB c M (q.1::a)∧
    ((iM lv k e=false∧∃b' kd' sg' cd',o=⟨.normal,dV (.ptr (c.nx+1) 0) b' kd' (.int .i64 lv) (.ptr r off) sg' cd' g,M,[],none⟩)∨
     (iM lv k e=true∧∃b' kd' sg' cd',o=⟨.ret,dV (.ptr (c.nx+1) 0) b' kd' (.int .i64 lv) (.ptr r off) sg' cd' (.int .i64 e.2.2.2),(dF M p).set r B,[],none⟩)):=by
 unfold Bn;rw [uV,zF];refine bV (g1:=λo:Out=>(left a aF 0=[]∧o=⟨.normal,dV (.ptr (c.nx+1) 0) (.bool false) t (.int .i64 lv) (.ptr r off) u l g,m,[],none⟩)∨
  ∃q∈left a aF 0,o=⟨.normal,dV (.ptr (c.nx+1) 0) (.bool true) t (.int .i64 lv) (.ptr r off) u l g,m.set (c.nx+1) (.iter (some c.nx) aF.length (q.1::a)),[],none⟩) ?_ ?_
 refine bV (g1:=λe:EM=>(left a aF 0=[]∧e=⟨dV (.ptr (c.nx+1) 0) (.bool false) t (.int .i64 lv) (.ptr r off) u l g,m,none,[]⟩)∨
  ∃q∈left a aF 0,e=⟨dV (.ptr (c.nx+1) 0) (.bool true) t (.int .i64 lv) (.ptr r off) u l g,m.set (c.nx+1) (.iter (some c.nx) aF.length (q.1::a)),none,[]⟩) ?_ ?_
 rw [Kk];refine bV (Nt (it:=J9 gH) (env:=dV (.ptr (c.nx+1) 0) b t (.int .i64 lv) (.ptr r off) u l g) rfl (by rw [h.lim];have:=h.ll;omega) h.gi h.gs) ?_;rintro r (⟨h1,rfl⟩ | ⟨q,h1,rfl⟩);exact⟨_,rfl,λo j=>.inl ⟨h1,aP.1 j⟩⟩;exact⟨_,rfl,λo j=>.inr ⟨q,h1,aP.1 j⟩⟩;rintro e (⟨h1,rfl⟩ | ⟨q,h1,rfl⟩);exact⟨_,rfl,λo j=>.inl ⟨h1,aP.1 j⟩⟩;exact⟨_,rfl,λo j=>.inr ⟨q,h1,aP.1 j⟩⟩;rintro o (⟨h1,rfl⟩ | ⟨q,h1,rfl⟩);exact⟨_,rfl,λo j=>.inl ⟨h1,(),aP.1 j,rfl⟩⟩;obtain⟨_,z,W⟩:=vo h1;rw [aht] at z;obtain⟨e,n,y,H⟩:=Zd z;have D:c.nx+1<m.nx:=by rw [h.mn];omega
 generalize hM:m.set (c.nx+1) (.iter (some c.nx) aF.length (q.1::a))=M;have Mg:∀i,M.get i=if i=c.nx+1 then some (.iter (some c.nx) aF.length (q.1::a)) else m.get i:=λi=>by rw [← hM,Mem.V4 h.ok D]
 have f:vB c M (q.1::a):={
  ok:=by rw [← hM];exact Mem.Ok.set h.ok D _
  lim:=by rw [← hM];exact h.lim
  ll:=h.ll
  mn:=by rw [← hM];exact h.mn
  gs:=by rw [Mg,if_neg (by omega)];exact h.gs
  gi:=by rw [Mg,if_pos rfl]
  old:=λi V=>by rw [Mg,if_neg (by omega)];exact h.old i V}
 have s:∀(env:T d9),gH env=.ptr (c.nx+1) 0->qX (J9 gH) [] env M=some (.tuple [q.2.1,q.2.2]):=λenv n=>Iy (it:=J9 gH) n f.gi f.gs z;rw [H] at s;have d:=s (dV (.ptr (c.nx+1) 0) (.bool true) t (.int .i64 lv) (.ptr r off) u l g) rfl;have I:=S e n M;have C:=R e n M f.old;have w:M.get r=c.get r:=f.old r X;cases hlv:decide (e.1=lv) with
 | false=>refine⟨[⟨.normal,dV (.ptr (c.nx+1) 0) (.bool true) (.int .i64 e.2.2.2) (.int .i64 lv) (.ptr r off) (.str e.2.2.1) (.bool false) g,M,[],none⟩],?_,λo j=>.inr ⟨q,h1,e,n,y,M,f,.inl ⟨by simp [iM,hlv],_,_,_,_,aP.1 j⟩⟩⟩;simp only [dV] at d ⊢;simp [d,D6,I,C,hlv]
 | true=>
  cases hat:Tg k e with
  | false=>refine⟨[⟨.normal,dV (.ptr (c.nx+1) 0) (.bool true) (.int .i64 e.2.2.2) (.int .i64 lv) (.ptr r off) (.str e.2.2.1) (.bool false) g,M,[],none⟩],?_,λo j=>.inr ⟨q,h1,e,n,y,M,f,.inl ⟨by simp [iM,hlv,hat],_,_,_,_,aP.1 j⟩⟩⟩;rw [hat] at C;simp only [dV] at d ⊢;simp [d,D6,I,C,hlv]
  | true=>
   obtain⟨Y,Z,s3,s4,E⟩:=L e n (by simp [iM,hlv,hat]);refine⟨[⟨.ret,dV (.ptr (c.nx+1) 0) (.bool true) (.int .i64 e.2.2.2) (.int .i64 lv) (.ptr r off) (.str e.2.2.1) (.bool true) (.int .i64 e.2.2.2),(dF M p).set r B,[],none⟩],?_,λo j=>.inr ⟨q,h1,e,n,y,M,f,.inr ⟨by simp [iM,hlv,hat],_,_,_,_,aP.1 j⟩⟩⟩;rw [hat] at C;simp only [dV] at d ⊢;have A:M.nx=c.nx+2:=f.mn;have F:∀(env:T d9) (G:List d9),lSl 2 G7 (some (u6 (.int .i64 1))) none (v::G) env M.nx=some (v',p):=λenv G=>by rw [A];exact Y
   have U:(dF M p).get r=c.get r:=by
    cases p with
    | none=>exact w
    | some x=>show (M.new x).get r=_;rw [Mem.K5 f.ok,if_neg (by rw [A];omega)];exact w
   have K:(dF M p).lim<=r:=by
    cases p with
    | none=>show M.lim<=r;rw [f.lim];exact E
    | some x=>show M.lim<=r;rw [f.lim];exact E
   have N:∀(env:T d9) (G:List d9) (O:d9),U8 1 G7 eP cf (.ptr r off::O::v'::G) env (dF M p)=some [⟨.undef,(dF M p).set r B⟩]:=λenv G O=>by show bi (Nat.beq (len' v'.cells) 1) (storeAt (dF M p) r off v'.cells _) none=_;rw [s3];show storeAt (dF M p) r off [v'] _=_;rw [lu K (by show bi (r9 v') true false=true;rw [Z];rfl),U,s4];rfl
   simp [d,D6,I,C,hlv,w,J,F,N]
theorem Ny {seen:List Nat}:∀{es:List (d9×d9)} {i:Nat},left seen es i=[]->∀j,i<=j->j<i+es.length->rz j seen=true
 | [],i,_,j,h1,h2=>by simp at h2;omega
 | e::es,i,h,j,h1,h2=>by simp only [left] at h;split at h;rename_i hs;by_cases hj:j=i;rw [hj];exact hs;exact Ny h j (by omega) (by simp at h2;omega);cases h
theorem Ze {c:Mem}{r off D C:Nat}{lv:Int}{d:Option (Int×List UInt8)}{cf:G9}{v v':d9}{p:Option Q6}{B:Q6}
  (A:∀e∈aV,∀M,cf (.func D) [.int .i64 e.2.2.2] M=some [⟨.int .i64 e.1,M⟩])
  (z:∀e∈aV,∀M:Mem,(∀i,i<c.nx->M.get i=c.get i)->cf (.func C) [.ptr r off,.str e.2.2.1] M=some [⟨.bool (Tg d e),M⟩])
  (t:ld1 (c.get r) off=some v) (E:r<c.nx)
  (u:∀e∈aV,iM lv d e=true->N7 (c.nx+2) 2 v 1 none=some (v',p)∧r9 v'=true∧v'.cells=[v']∧vS (c.get r) off [v']=some B∧c.lim<=r) (fu:Nat) (f:d9):
  ∀(n:Nat) (m:Mem) (seen:List Nat) (b kd sg cd:d9),vB c m seen->(left seen aF 0).length=n->(∀j e,rz j seen=true->aV[j]?=some e->iM lv d e=false)->∀N,n<N->
   ∃outs,A9 (λenv m k=>Bn D C cf fu none env m k) N (dV (.ptr (c.nx+1) 0) b kd (.int .i64 lv) (.ptr r off) sg cd f) m []=some outs∧∀o∈outs,
    ((∀e∈aV,iM lv d e=false)∧∃b' kd' sg' cd' M seen',vB c M seen'∧o=⟨.exit 0,dV (.ptr (c.nx+1) 0) b' kd' (.int .i64 lv) (.ptr r off) sg' cd' f,M,[],none⟩)∨
    ∃e∈aV,iM lv d e=true∧∃b' kd' sg' cd' M seen',vB c M seen'∧o=⟨.ret,dV (.ptr (c.nx+1) 0) b' kd' (.int .i64 lv) (.ptr r off) sg' cd' (.int .i64 e.2.2.2),(dF M p).set r B,[],none⟩:=by
 intro n;induction n with
 | zero=>intro m seen b kd sg cd h s y N G;obtain⟨N,rfl⟩:∃N',N=N'+1:=⟨N-1,by omega⟩;have a:left seen aF 0=[]:=aa5.1 s;rw [l8];refine bV (Nw h A z t E u fu b kd sg cd f) ?_;rintro o (⟨_,_,rfl,_⟩ | ⟨q,hq,_⟩);refine⟨_,rfl,λo x=>.inl ⟨λe w=>?_,_,_,_,_,m,seen,h,aP.1 x⟩⟩;obtain⟨j,l⟩:=aa7 w;refine y j e (Ny a j (by omega) ?_) l;have:=(J3.1 l).1;simp [aF];omega;rw [a] at hq;cases hq
 | succ n ih=>intro m seen b kd sg cd h s y N G;obtain⟨N,rfl⟩:∃N',N=N'+1:=⟨N-1,by omega⟩;rw [l8];refine bV (Nw h A z t E u fu b kd sg cd f) ?_;rintro o (⟨a,_⟩ | ⟨q,hq,e,w,hej,M,inv,⟨hh,b',kd',sg',cd',rfl⟩ | ⟨hh,b',kd',sg',cd',rfl⟩⟩);rw [a] at s;cases s;rw [zG];refine ih M (q.1::seen) b' kd' sg' cd' inv ?_ (λj F l g=>?_) N (by omega);have:=(qM hq).length_eq;rw [s,Y1] at this;omega;by_cases hjq:q.1=j;rw [← hjq,hej] at g;cases g;exact hh;rw [Dh hjq] at l;exact y j F l g;exact⟨_,rfl,λo x=>.inr ⟨e,w,hh,b',kd',sg',cd',M,_,inv,aP.1 x⟩⟩
def Fb (M:Mem)(r off:Nat)(tok:Option (Int×List UInt8)):Prop:=∃v,ld1 (M.get r) off=some v∧
 ((tok=none∧(v=.nilSlice∨(∃id o c,v=.slice id o 0 c)∨∃id o es,v=.sliceU id o 0 es))∨∃k s id o len,((∃c,v=.slice id o (len+1) c)∨∃es,v=.sliceU id o (len+1) es)∧ES (M.get id) o 2=some (.agg [.int .i64 k,.str s])∧tok=some (k,s))
theorem Fe {lv k:Int}{s:List UInt8}:∀(l:List (Int×Int×List UInt8×Int)),(∀e∈l,∀e'∈l,e.2.2.1=e'.2.2.1->e=e')->
  match (List.rec none (λe _ ih=>bi (bY e.1 lv) (bi (bY e.2.1 k) (bi (strEq e.2.2.1 s) (some e.2.2.2) ih) ih) ih) l:Option Int) with
  | none=>∀e∈l,iM lv (some (k,s)) e=false
  | some kd=>(∃e∈l,iM lv (some (k,s)) e=true)∧∀e∈l,iM lv (some (k,s)) e=true->e.2.2.2=kd
 | [],_=>λe he=>by cases he
 | e::l,hu=>by
  have ih:=Fe (lv:=lv) (k:=k) (s:=s) l λa ha b hb=>hu a (Z8 _ ha) b (Z8 _ hb);have hb:iM lv (some (k,s)) e=(bY e.1 lv&&(bY e.2.1 k&&strEq e.2.2.1 s)):=by rw [gT,gT,gU];rfl
  have h0:(List.rec none (λe _ ih=>bi (bY e.1 lv) (bi (bY e.2.1 k) (bi (strEq e.2.2.1 s) (some e.2.2.2) ih) ih) ih) (e::l):Option Int) =
    bi (iM lv (some (k,s)) e) (some e.2.2.2) (List.rec none (λe _ ih=>bi (bY e.1 lv) (bi (bY e.2.1 k) (bi (strEq e.2.2.1 s) (some e.2.2.2) ih) ih) ih) l):=by
   rw [hb];show bi (bY e.1 lv) (bi (bY e.2.1 k) (bi (strEq e.2.2.1 s) _ _) _) _=_;cases bY e.1 lv<;>cases bY e.2.1 k<;>cases strEq e.2.2.1 s<;>rfl
  rw [h0];cases hh:iM lv (some (k,s)) e with
  | true=>
   refine⟨⟨e,ac2 ..,hh⟩,λe' he' h'=>?_⟩;have ht:∀x:Int×Int×List UInt8×Int,iM lv (some (k,s)) x=true->x.2.2.1=s:=λx hx=>by simp only [iM,Tg,U9] at hx;simpa using hx.2.2
   rw [hu e' he' e (ac2 ..) (by rw [ht e' h',ht e hh])]
  | false=>
   show match (List.rec none _ l:Option Int) with
    | none=>_
    | some kd=>_
   revert ih;cases (List.rec none (λe _ ih=>bi (bY e.1 lv) (bi (bY e.2.1 k) (bi (strEq e.2.2.1 s) (some e.2.2.2) ih) ih) ih) l:Option Int) with
   | none=>intro ih e' he';rcases Z9.1 he' with rfl | he';exact hh;exact ih e' he'
   | some kd=>rintro⟨⟨x,hx1,hx2⟩,h2⟩;refine⟨⟨x,Z8 _ hx1,hx2⟩,λe' he' h'=>?_⟩;rcases Z9.1 he' with rfl | he';rw [hh] at h';cases h';exact h2 e' he' h'
theorem Nz (lv k:Int)(s:List UInt8):match Kw lv k s with
  | none=>∀e∈aV,iM lv (some (k,s)) e=false
  | some kd=>(∃e∈aV,iM lv (some (k,s)) e=true)∧∀e∈aV,iM lv (some (k,s)) e=true->e.2.2.2=kd:=Fe aV (by decide)
theorem NA {K:Known}{f C A t:Nat}(X:K.fns f=some (Kz C A t))(W:∀args m,K.eff f args m=none){N n:Nat}(hN:14<=N)
  (U:∀m:Mem,m.Ok->m.lim<=m.nx->l7 K N n (.func C) [] m=some [⟨.map m.nx,m.new (.map aF)⟩])
  (T:∀e∈aV,∀M,l7 K N n (.func A) [.int .i64 e.2.2.2] M=some [⟨.int .i64 e.1,M⟩])
  (S:∀a r off M,Fb M r off a->∀e∈aV,l7 K N n (.func t) [.ptr r off,.str e.2.2.1] M=some [⟨.bool (Tg a e),M⟩])
  {m:Mem} (d:m.Ok) (x:m.lim<=m.nx) {r off:Nat} {lv:Int} {a:Option (Int×List UInt8)} {v v':d9} {p:Option Q6} {B:Q6} (R:r<m.nx) (ht:Fb m r off a) (G:ld1 (m.get r) off=some v)
  (L:∀e∈aV,iM lv a e=true->N7 (m.nx+2) 2 v 1 none=some (v',p)∧r9 v'=true∧v'.cells=[v']∧vS (m.get r) off [v']=some B∧m.lim<=r):
  ∃l,l7 K N (n+1) (.func f) [.ptr r off,.int .i64 lv] m=some l∧∀o∈l,∃M seen,vB m M seen∧
   (((∀e∈aV,iM lv a e=false)∧o=⟨.int .i64 0,M⟩)∨∃e∈aV,iM lv a e=true∧o=⟨.int .i64 e.2.2.2,(dF M p).set r B⟩):=by
 have Ha':∀e∈aV,∀M:Mem,(∀i,i<m.nx->M.get i=m.get i)->l7 K N n (.func t) [.ptr r off,.str e.2.2.1] M=some [⟨.bool (Tg a e),M⟩]:=λe Z M Q=>by refine S a r off M ?_ e Z;obtain⟨w,b,h⟩:=ht;refine⟨w,by rw [Q r R];exact b,?_⟩;rcases h with h | ⟨k,s,id,o,len,h3,h4,h5⟩;exact .inl h;obtain⟨_,_,_,V,_⟩:=dB h4;have F:=Mem.I7 d V;exact .inr ⟨k,s,id,o,len,h3,by rw [Q id F];exact h4,h5⟩
 generalize hm2:(m.new (.map aF)).new (.iter (some m.nx) aF.length [])=mI;have y:=Mem.Ok.new d (.map aF);have E:∀i,mI.get i=if i=m.nx+1 then some (.iter (some m.nx) aF.length []) else if i=m.nx then some (.map aF) else m.get i:=λi=>by rw [← hm2,Mem.K5 y,Mem.K5 d];rfl
 have O:vB m mI []:={
  ok:=by rw [← hm2];exact Mem.Ok.new y _
  lim:=by rw [← hm2];rfl
  ll:=x
  mn:=by rw [← hm2];rfl
  gs:=by rw [E,if_neg (by omega),if_pos rfl]
  gi:=by rw [E,if_pos rfl]
  old:=λi g=>by rw [E,if_neg (by omega),if_neg (by omega)]}
 have u:aF.length=13:=by decide
 obtain⟨z,H,I⟩:=Ze (fu:=N) T Ha' G R L (.int .i64 0) 13 mI [] .undef .undef .undef .undef O (by rw [EZ,u]) (λj e Y=>by cases Y) N (by omega);rw [dM];show ∃l,(Option.rec (ob (K.fns f) λP=>bi P.pure (iR K (l7 K N n) N f P [.ptr r off,.int .i64 lv] m) (lS (l7 K N n) (uh K (l7 K N n) N) N P [.ptr r off,.int .i64 lv] m)) (λl=>some l) (K.eff f [.ptr r off,.int .i64 lv] m):eD)=some l∧_;rw [W,X];show ∃l,bnd (j4 (j4 (j5 (F9 (D6 C []) (Qv (nR G7) sH o7))) (D5 0 (P9 (Bn A t)))) (j4 (j5 (I8 (N9 (u6 (.int .i64 (.ofNat 0)))) (sL (sL (sL sH))) o7)) C9) (l7 K N n) N none
  (dV .undef .undef .undef (.int .i64 lv) (.ptr r off) .undef .undef (.int .i64 0)) m []) (leave _ [.tmp 7])=some l∧_
 refine bV (g1:=λo:Out=>∃b' kd' sg' cd' M seen',vB m M seen'∧(((∀e∈aV,iM lv a e=false)∧o=⟨.ret,dV (.ptr (m.nx+1) 0) b' kd' (.int .i64 lv) (.ptr r off) sg' cd' (.int .i64 0),M,[],none⟩)∨
  ∃e∈aV,iM lv a e=true∧o=⟨.ret,dV (.ptr (m.nx+1) 0) b' kd' (.int .i64 lv) (.ptr r off) sg' cd' (.int .i64 e.2.2.2),(dF M p).set r B,[],none⟩)) ?_ ?_
 rw [uV];refine bV (g1:=λo:Out=>∃b' kd' sg' cd' M seen',vB m M seen'∧(((∀e∈aV,iM lv a e=false)∧o=⟨.normal,dV (.ptr (m.nx+1) 0) b' kd' (.int .i64 lv) (.ptr r off) sg' cd' (.int .i64 0),M,[],none⟩)∨
  ∃e∈aV,iM lv a e=true∧o=⟨.ret,dV (.ptr (m.nx+1) 0) b' kd' (.int .i64 lv) (.ptr r off) sg' cd' (.int .i64 e.2.2.2),(dF M p).set r B,[],none⟩)) ?_ ?_
 rw [uV,zF,Kk];have q:D6 C [] (l7 K N n) [] (dV .undef .undef .undef (.int .i64 lv) (.ptr r off) .undef .undef (.int .i64 0)) m=some [⟨.map m.nx,m.new (.map aF)⟩]:=U m d x;rw [q];have J:nR G7 (l7 K N n) [.map m.nx] (dV .undef .undef .undef (.int .i64 lv) (.ptr r off) .undef .undef (.int .i64 0)) (m.new (.map aF))=some [⟨.ptr (m.nx+1) 0,mI⟩]:=by show Ov ((m.new (.map aF)).get m.nx) _=_;rw [Mem.K5 d,if_pos rfl];show one _ ((m.new (.map aF)).new (.iter (some m.nx) (len' aF) []))=_;rw [I9,hm2];rfl
 show ∃l,bnd (bnd (bnd (nR G7 (l7 K N n) [.map m.nx] (dV .undef .undef .undef (.int .i64 lv) (.ptr r off) .undef .undef (.int .i64 0)) (m.new (.map aF))) _) (gQ [])) _=some l∧_;rw [J];show ∃l,bnd (A9 (λD m k=>Bn A t (l7 K N n) N none D m k) N (dV (.ptr (m.nx+1) 0) .undef .undef (.int .i64 lv) (.ptr r off) .undef .undef (.int .i64 0)) mI []) (SQ 0)=some l∧_;refine bV ⟨z,H,I⟩ ?_;rintro o (⟨b,b',kd',sg',cd',M,seen',g,rfl⟩ | ⟨e,b,h,b',kd',sg',cd',M,seen',g,rfl⟩);exact⟨_,rfl,λo c=>⟨b',kd',sg',cd',M,seen',g,.inl ⟨b,aP.1 c⟩⟩⟩;exact⟨_,rfl,λo c=>⟨b',kd',sg',cd',M,seen',g,.inr ⟨e,b,h,aP.1 c⟩⟩⟩;rintro o ⟨b',kd',sg',cd',M,seen',g,⟨b,rfl⟩ | ⟨e,b,h,rfl⟩⟩;exact⟨_,rfl,λo c=>⟨b',kd',sg',cd',M,seen',g,.inl ⟨b,aP.1 c⟩⟩⟩;exact⟨_,rfl,λo c=>⟨b',kd',sg',cd',M,seen',g,.inr ⟨e,b,h,aP.1 c⟩⟩⟩;rintro o ⟨b',kd',sg',cd',M,seen',g,⟨b,rfl⟩ | ⟨e,b,h,rfl⟩⟩;exact⟨_,rfl,λo c=>⟨M,seen',g,.inl ⟨b,aP.1 c⟩⟩⟩;exact⟨_,rfl,λo c=>⟨M,seen',g,.inr ⟨e,b,h,aP.1 c⟩⟩⟩
theorem QZ {m M:Mem}{d:List Nat}(c:m.Ok)(h:vB m M d):Weak M (aN 2 m):=by
 obtain⟨g,j⟩:=rZ 2 m;obtain⟨k,f⟩:=vX 2 c;exact {
  nx:=by rw [g,h.mn]
  lim:=by rw [j,h.lim]
  ok:=k
  old:=λi e=>by rw [h.lim] at e;have:=h.ll;rw [f,if_neg (by omega),h.old i (by omega)]
  blk:=λi b a=>by
   rw [f] at a;split at a;rename_i l;cases a;by_cases e:i=m.nx;rw [e];exact⟨_,h.gs,.inr (.inl ⟨rfl,rfl⟩)⟩;rw [show i=m.nx+1 from by omega];exact⟨_,h.gi,.inr (.inl ⟨rfl,rfl⟩)⟩;have:=Mem.I7 c a;exact⟨b,by rw [h.old i this];exact a,.inl rfl⟩}
theorem Weak.dF {m1 e:Mem}(h:Weak m1 e)(d:m1.Ok)(p:Option Q6):Weak (dF m1 p) (dF e p):=by
 cases p with
 | none=>exact h
 | some x=>
  have c:e.Ok:=h.ok;exact {
   nx:=congrArg Nat.succ h.nx
   lim:=h.lim
   ok:=Mem.Ok.new c x
   old:=λi a=>by have a:i<m1.lim:=a;show (e.new x).get i=(m1.new x).get i;rw [Mem.K5 c,Mem.K5 d,h.nx,h.old i a]
   blk:=λi b hb=>by
    have hb:(e.new x).get i=some b:=hb;show ∃b1,(m1.new x).get i=some b1∧_;rw [Mem.K5 c,h.nx] at hb;rw [Mem.K5 d];split at hb;rename_i a;rw [if_pos a];exact⟨b,hb,.inl rfl⟩;rename_i a;rw [if_neg a];exact h.blk i b hb}
theorem Weak.set {m1 f:Mem}(h:Weak m1 f)(e:m1.Ok){r:Nat}(g:r<m1.nx)(j:m1.lim<=r)(B:Q6):Weak (m1.set r B) (f.set r B):=by
 have d:f.Ok:=h.ok;have c:r<f.nx:=by rw [h.nx];exact g
 exact {
  nx:=h.nx
  lim:=h.lim
  ok:=Mem.Ok.set d c B
  old:=λi a=>by have a:i<m1.lim:=a;rw [Mem.V4 d c,Mem.V4 e g,h.old i a]
  blk:=λi b hb=>by
   rw [Mem.V4 d c] at hb;rw [Mem.V4 e g];split at hb;rename_i a;rw [if_pos a];exact⟨b,hb,.inl rfl⟩;rename_i a;rw [if_neg a];exact h.blk i b hb}
theorem Wi {m:Mem}(a:m.Ok)(p:Option Q6){i:Nat}(b:i<m.nx):(dF m p).get i=m.get i:=by
 cases p with
 | none=>rfl
 | some x=>show (m.new x).get i=_;rw [Mem.K5 a,if_neg (by omega)]
theorem IC (m:Mem)(p:Option Q6):m.nx<=(dF m p).nx∧(dF m p).lim=m.lim:=by
 cases p with
 | none=>exact⟨J2 _,rfl⟩
 | some x=>exact⟨ajr _,rfl⟩
theorem Zf {m:Mem}(a:m.Ok)(p:Option Q6):(dF m p).Ok:=by
 cases p with
 | none=>exact a
 | some x=>exact Mem.Ok.new a x
theorem Wj {P:Program}{K:Known}(hK:VJ P K){f fs fl fa:Nat}(Q:K.fns f=some (Kz fs fl fa))(he:∀args m,K.eff f args m=none){N n:Nat}(hN:14<=N)
  (Hs:∀m:Mem,m.Ok->m.lim<=m.nx->l7 K N n (.func fs) [] m=some [⟨.map m.nx,m.new (.map aF)⟩])
  (Z:∀e∈aV,∀M,l7 K N n (.func fl) [.int .i64 e.2.2.2] M=some [⟨.int .i64 e.1,M⟩])
  (Y:∀tok r off M,Fb M r off tok->∀e∈aV,l7 K N n (.func fa) [.ptr r off,.str e.2.2.1] M=some [⟨.bool (Tg tok e),M⟩])
  {args:List d9} {m:Mem} {outs:List VM} (h:nu args m=some outs):
  AR P f∧∀{ι:K4} {w:World},RM P K.base ι m w.heap->bg (m.nm ι) args->CallsIn Fence.wide 0 P f (p8 ι args).toArray w (Q9 P K.base ι m w outs):=by
 obtain⟨r,off,lv,rfl⟩:∃r off lv,args=[.ptr r off,.int .i64 lv]:=by unfold nu at h;split at h;exact⟨_,_,_,rfl⟩;cases h
 have h:(P8 (m.get r) λrs n A=>ob (cell1 rs n A off) λv=>ob (lenOf v) λg=>
   (Nat.rec (qU v (one (.int .i64 0) (aN 2 m)) (λ_ _ _ _=>one (.int .i64 0) (aN 2 m)) (λ_ _ _ _=>one (.int .i64 0) (aN 2 m))) (λ_ _=>qU v none (λid o _ _=>nu.tok m id o v r off lv) (λid o _ _=>nu.tok m id o v r off lv)) g:eD))=some outs:=h
 obtain⟨rs,nn,A,T,h⟩:=dB h;obtain⟨v,hv,h⟩:=A8 h;obtain⟨g,j,h⟩:=A8 h;have t:ld1 (m.get r) off=some v:=by rw [T];exact hv
 have a:∀tok,Fb m r off tok->(∀e∈aV,iM lv tok e=false)->outs=[⟨.int .i64 0,aN 2 m⟩]->AR P f∧∀{ι:K4} {w:World},RM P K.base ι m w.heap->bg (m.nm ι) [.ptr r off,.int .i64 lv]->CallsIn Fence.wide 0 P f (p8 ι [.ptr r off,.int .i64 lv]).toArray w (Q9 P K.base ι m w outs):=by intro tok R y ho;refine vk hK Q λb E=>?_;have b:m.Ok:=b;obtain⟨l,C,D⟩:=NA (v':=.undef) (p:=none) (B:=.void) Q he hN Hs Z Y b E (Mem.I7 b T) R t (lv:=lv) (λe z q=>by rw [y e z] at q;cases q);refine⟨N,n+1,l,C,λo F=>?_⟩;obtain⟨M,L,i,⟨_,rfl⟩ | ⟨e,z,q,_⟩⟩:=D o F;exact⟨⟨.int .i64 0,aN 2 m⟩,by rw [ho];exact aP.2 rfl,rfl,QZ b i⟩;rw [y e z] at q;cases q
 cases g with
 | zero=>
  cases v with
  | nilSlice=>have h:one (.int .i64 0) (aN 2 m)=some outs:=h;cases h;exact a none ⟨_,t,.inl ⟨rfl,.inl rfl⟩⟩ (λe _=>by simp [iM,Tg]) rfl
  | slice id o l c=>obtain rfl:l=0:=Y8 j;have h:one (.int .i64 0) (aN 2 m)=some outs:=h;cases h;exact a none ⟨_,t,.inl ⟨rfl,.inr (.inl ⟨_,_,_,rfl⟩)⟩⟩ (λe _=>by simp [iM,Tg]) rfl
  | sliceU id o l c=>obtain rfl:l=0:=Y8 j;have h:one (.int .i64 0) (aN 2 m)=some outs:=h;cases h;exact a none ⟨_,t,.inl ⟨rfl,.inr (.inr ⟨_,_,_,rfl⟩)⟩⟩ (λe _=>by simp [iM,Tg]) rfl
  | _=>cases h
 | succ g=>
  have J:∀id o,((∃c,v=.slice id o (g+1) c)∨∃es,v=.sliceU id o (g+1) es)->nu.tok m id o v r off lv=some outs->
    AR P f∧∀{ι:K4} {w:World},RM P K.base ι m w.heap->bg (m.nm ι) [.ptr r off,.int .i64 lv]->CallsIn Fence.wide 0 P f (p8 ι [.ptr r off,.int .i64 lv]).toArray w (Q9 P K.base ι m w outs):=by
   intro id o W h;unfold nu.tok at h;obtain⟨X,n2,G,U,h⟩:=dB h;obtain⟨l,hl,h⟩:=A8 h;split at h;rename_i k s;have R:Fb m r off (some (k,s)):=⟨v,t,.inr ⟨k,s,id,o,g,W,by rw [U];show ob (jO X n2 G o 2) _=_;rw [hl];rfl,rfl⟩⟩;have d:=Nz lv k s;cases hfd:Kw lv k s with
   | none=>rw [hfd] at h d;have h:one (.int .i64 0) (aN 2 m)=some outs:=h;cases h;exact a _ R d rfl
   | some kd=>
    rw [hfd] at h d;have h:(ob (N7 (aN 2 m).nx 2 v 1 none) λp=>storeAt (dF (aN 2 m) p.2) r off [p.1] λm'=>one (.int .i64 kd) m')=some outs:=h;obtain⟨⟨v',p⟩,hs,h⟩:=A8 h;have O:=h;obtain⟨c1,h⟩:=jR h;obtain⟨c2,h⟩:=D9 h;have u:(dF (aN 2 m) p).lim<=r:=adp λq=>(by rw [show Nat.blt r (dF (aN 2 m) p).lim=true from Y5▸q] at c1;cases c1);rw [lu u c2] at O;obtain⟨B,hB,O⟩:=A8 O;cases O;have H:r9 v'=true:=(cZ c2).1;have x:v'.cells=[v']:=by cases v'<;>first | rfl | cases H
    refine vk hK Q λb E=>?_;have b:m.Ok:=b;have V:=Mem.I7 b T;obtain⟨d1,d2⟩:=rZ 2 m;obtain⟨d3,d4⟩:=vX 2 b;have I:m.lim<=r:=(by rw [(IC _ p).2,d2] at u;exact u);rw [Wi d3 p (by rw [d1];omega),d4,if_neg (by omega)] at hB;obtain⟨l,C,D⟩:=NA (v':=v') (p:=p) (B:=B) Q he hN Hs Z Y b E V R t (lv:=lv) (λe z q=>⟨by rw [← d1];exact hs,H,x,hB,I⟩);refine⟨N,n+1,l,C,λo F=>?_⟩;obtain⟨M,L,i,⟨y,_⟩ | ⟨e,z,q,rfl⟩⟩:=D o F;obtain⟨⟨e,z,q⟩,_⟩:=d;rw [y e z] at q;cases q;refine⟨_,aP.2 rfl,by rw [d.2 e z q],?_⟩;have S:M.nx<=(dF M p).nx∧(dF M p).lim=M.lim:=IC M p;exact ((QZ b i).dF i.ok p).set (Zf i.ok p) (by have:=i.mn;omega) (by rw [S.2,i.lim];exact I) B
   cases h
  cases v with
  | slice id o l c=>obtain rfl:l=g+1:=Y8 j;exact J id o (.inl ⟨c,rfl⟩) h
  | sliceU id o l c=>obtain rfl:l=g+1:=Y8 j;exact J id o (.inr ⟨c,rfl⟩) h
  | _=>cases h
set_option maxHeartbeats 2000000
def zL:W9:=⟨false,[],1,[.tmp 0],(j4 (j5 (I8 (N9 (u6 .nilMap)) sH o7)) (j4 (j5 (iJ (ji) (F9 (J8 ay 1 G7 (u6 (.int .i64 (.ofNat 6))) (u6 (.str [42]))) (F9 (J8 ay 1 bW (u6 (.int .i64 (.ofNat 7))) (u6 (.str [47]))) (F9 (J8 ay 1 eP (u6 (.int .i64 (.ofNat 8))) (u6 (.str [37]))) (F9 (J8 ay 1 nP (u6 (.int .i64 (.ofNat 9))) (u6 (.str [43]))) (F9 (J8 ay 1 (cu 4) (u6 (.int .i64 (.ofNat 10))) (u6 (.str [45]))) (F9 (J8 ay 1 (cu 5) (u6 (.int .i64 (.ofNat 11))) (u6 (.str [60]))) (F9 (J8 ay 1 (cu 6) (u6 (.int .i64 (.ofNat 12))) (u6 (.str [60,61]))) (F9 (J8 ay 1 (cu 7) (u6 (.int .i64 (.ofNat 13))) (u6 (.str [62]))) (F9 (J8 ay 1 (cu 8) (u6 (.int .i64 (.ofNat 14))) (u6 (.str [62,61]))) (F9 (J8 ay 1 (cu 9) (u6 (.int .i64 (.ofNat 15))) (u6 (.str [61,61]))) (F9 (J8 ay 1 (cu 10) (u6 (.int .i64 (.ofNat 16))) (u6 (.str [33,61]))) (F9 (J8 ay 1 (cu 11) (u6 (.int .i64 (.ofNat 17))) (u6 (.str [97,110,100]))) (F9 (J8 ay 1 (cu 12) (u6 (.int .i64 (.ofNat 18))) (u6 (.str [111,114]))) (I8 (N9 (cu 13)) sH o7)))))))))))))))) C9)),none⟩
def KA:W9:=⟨false,[(some 0)],10,[.tmp 9],(j4 (j5 (I8 (N9 (u6 (.int .i64 (.ofNat 0)))) (sL (sR (sL sH))) o7)) (j4 (j4 (j5 (I8 (N9 (J9 gH)) (sL sH) o7)) (D5 0 (j4 (j5 (j6 (K8 dO dQ (J9 (gL gH)) (u6 (.int .i64 (.ofNat 18)))) (I8 (N9 G7) (sR sH) o7))) (p9 (J9 (gR gH)) (j4 (j5 (I8 (N9 (u6 (.int .i64 (.ofNat 0)))) (sL (sR (sL sH))) o7)) C9) (j4 (j5 (j6 (K8 dO dQ (J9 (gL gH)) (u6 (.int .i64 (.ofNat 17)))) (I8 (N9 G7) (sL (sL sH)) o7))) (p9 (J9 (gL (gL gH))) (j4 (j5 (I8 (N9 (u6 (.int .i64 (.ofNat 1)))) (sL (sR (sL sH))) o7)) C9) (j4 (j5 (j6 (K8 dO dQ (J9 (gL gH)) (u6 (.int .i64 (.ofNat 5)))) (I8 (N9 G7) (sR (sL sH)) o7))) (p9 (J9 (gR (gL gH))) (j4 (j5 (I8 (N9 (u6 (.int .i64 (.ofNat 2)))) (sL (sR (sL sH))) o7)) C9) (j4 (j4 (j5 (j6 (K8 dO dQ (J9 (gL gH)) (u6 (.int .i64 (.ofNat 11)))) (I8 (N9 G7) (sL (sR sH)) o7))) (p9 (J9 (gL (gR gH))) D7 (j4 (j5 (j6 (K8 dO dQ (J9 (gL gH)) (u6 (.int .i64 (.ofNat 12)))) (I8 (N9 G7) (sL (sR sH)) o7))) (p9 (J9 (gL (gR gH))) D7 (j4 (j5 (j6 (K8 dO dQ (J9 (gL gH)) (u6 (.int .i64 (.ofNat 13)))) (I8 (N9 G7) (sL (sR sH)) o7))) (p9 (J9 (gL (gR gH))) D7 (j4 (j5 (j6 (K8 dO dQ (J9 (gL gH)) (u6 (.int .i64 (.ofNat 14)))) (I8 (N9 G7) (sL (sR sH)) o7))) (p9 (J9 (gL (gR gH))) D7 (j4 (j5 (j6 (K8 dO dQ (J9 (gL gH)) (u6 (.int .i64 (.ofNat 15)))) (I8 (N9 G7) (sL (sR sH)) o7))) (p9 (J9 (gL (gR gH))) D7 (j5 (j6 (K8 dO dQ (J9 (gL gH)) (u6 (.int .i64 (.ofNat 16)))) (I8 (N9 G7) (sL (sR sH)) o7))))))))))))) (p9 (J9 (gL (gR gH))) (j4 (j5 (I8 (N9 (u6 (.int .i64 (.ofNat 3)))) (sL (sR (sL sH))) o7)) C9) (j4 (j4 (j5 (j6 (K8 dO dQ (J9 (gL gH)) (u6 (.int .i64 (.ofNat 9)))) (I8 (N9 G7) (sR (sR sH)) o7))) (p9 (J9 (gR (gR gH))) D7 (j5 (j6 (K8 dO dQ (J9 (gL gH)) (u6 (.int .i64 (.ofNat 10)))) (I8 (N9 G7) (sR (sR sH)) o7))))) (p9 (J9 (gR (gR gH))) (j4 (j5 (I8 (N9 (u6 (.int .i64 (.ofNat 4)))) (sL (sR (sL sH))) o7)) C9) (j4 (j4 (j5 (j6 (K8 dO dQ (J9 (gL gH)) (u6 (.int .i64 (.ofNat 6)))) (I8 (N9 G7) (sL (sL (sL sH))) o7))) (p9 (J9 (gL (gL (gL gH)))) D7 (j4 (j5 (j6 (K8 dO dQ (J9 (gL gH)) (u6 (.int .i64 (.ofNat 7)))) (I8 (N9 G7) (sL (sL (sL sH))) o7))) (p9 (J9 (gL (gL (gL gH)))) D7 (j5 (j6 (K8 dO dQ (J9 (gL gH)) (u6 (.int .i64 (.ofNat 8)))) (I8 (N9 G7) (sL (sL (sL sH))) o7))))))) (p9 (J9 (gL (gL (gL gH)))) (j4 (j5 (I8 (N9 (u6 (.int .i64 (.ofNat 5)))) (sL (sR (sL sH))) o7)) C9) (j4 (j5 (j6 (K8 dO dQ (J9 (gL gH)) (u6 (.int .i64 (.ofNat 4)))) (I8 (N9 G7) (sR (sL (sL sH))) o7))) (p9 (J9 (gR (gL (gL gH)))) (j4 (j5 (I8 (N9 (u6 (.int .i64 (.ofNat 6)))) (sL (sR (sL sH))) o7)) C9) D7)))))))))))))))) (j4 (j5 (I8 (N9 (u6 (.int .i64 (.ofNat 7)))) (sL (sR (sL sH))) o7)) C9))),none⟩
theorem KC {K:Known}{f:FuncId}{sf:W9}(b:K.fns f=some sf)(hp:sf.pure=false)(a:∀args m,K.eff f args m=none)(N n:Nat)(args:List d9)(m:Mem):
  l7 K N (n+1) (.func f) args m=lS (l7 K N n) (uh K (l7 K N n) N) N sf args m:=by
 rw [dM];show (Option.rec (ob (K.fns f) λsf=>bi sf.pure (iR K (l7 K N n) N f sf args m) (lS (l7 K N n) (uh K (l7 K N n) N) N sf args m)) (λl=>some l) (K.eff f args m):eD)=_;rw [a,b];show bi sf.pure _ _=_;rw [hp];rfl
theorem iG {m:Mem}(c:m.Ok)(d:m.lim<=m.nx)(a:List (d9×d9))(k:Int)(s:List UInt8)(h:R8 ay 1 (.int .i64 k) a=some none){mp:OF}{ls:List d9}{env:T d9}(cf:G9)(e:mp ls env=.map m.nx):
  J8 ay 1 mp (u6 (.int .i64 k)) (u6 (.str s)) cf ls env (m.new (.map a))=some [⟨.undef,m.new (.map (a ++ [(.int .i64 k,.str s)]))⟩]:=by
 rw [yh,e];show bi (Nat.blt m.nx m.lim) none (ob (msB ((m.new (.map a)).get m.nx) ay 1 (.int .i64 k) (.str s)) λb=>some [(⟨.undef,(m.new (.map a)).set m.nx b⟩:VM)])=_;rw [Wd d,Mem.K5 c,if_pos rfl];show ob (ob (R8 ay 1 (.int .i64 k) a) _) _=_;rw [h];show some [(⟨.undef,(m.new (.map a)).set m.nx (.map (a ++ [(.int .i64 k,.str s)]))⟩:VM)]=_;rw [Mem.Kl c]
theorem NC {K:Known}{f:FuncId}(v:K.fns f=some zL)(u:∀args m,K.eff f args m=none)(N n:Nat)(m:Mem)(b:m.Ok)(a:m.lim<=m.nx):
  l7 K N (n+1) (.func f) [] m=some [⟨.map m.nx,m.new (.map aF)⟩]:=by
 rw [KC v rfl u];have i:=λ(cf:G9) (mp:OF) (ls:List d9) (env:T d9) (h:mp ls env=.map m.nx)=>iG b a [] 6 [42] (by rfl) cf h;have j:=λ(cf:G9) (mp:OF) (ls:List d9) (env:T d9) (h:mp ls env=.map m.nx)=>iG b a [(.int .i64 6,.str [42])] 7 [47] (by rfl) cf h;have k:=λ(cf:G9) (mp:OF) (ls:List d9) (env:T d9) (h:mp ls env=.map m.nx)=>iG b a [(.int .i64 6,.str [42]),(.int .i64 7,.str [47])] 8 [37] (by rfl) cf h;have l:=λ(cf:G9) (mp:OF) (ls:List d9) (env:T d9) (h:mp ls env=.map m.nx)=>iG b a [(.int .i64 6,.str [42]),(.int .i64 7,.str [47]),(.int .i64 8,.str [37])] 9 [43] (by rfl) cf h;have o:=λ(cf:G9) (mp:OF) (ls:List d9) (env:T d9) (h:mp ls env=.map m.nx)=>iG b a [(.int .i64 6,.str [42]),(.int .i64 7,.str [47]),(.int .i64 8,.str [37]),(.int .i64 9,.str [43])] 10 [45] (by rfl) cf h;have p:=λ(cf:G9) (mp:OF) (ls:List d9) (env:T d9) (h:mp ls env=.map m.nx)=>iG b a [(.int .i64 6,.str [42]),(.int .i64 7,.str [47]),(.int .i64 8,.str [37]),(.int .i64 9,.str [43]),(.int .i64 10,.str [45])] 11 [60] (by rfl) cf h;have q:=λ(cf:G9) (mp:OF) (ls:List d9) (env:T d9) (h:mp ls env=.map m.nx)=>iG b a [(.int .i64 6,.str [42]),(.int .i64 7,.str [47]),(.int .i64 8,.str [37]),(.int .i64 9,.str [43]),(.int .i64 10,.str [45]),(.int .i64 11,.str [60])] 12 [60,61] (by rfl) cf h;have r:=λ(cf:G9) (mp:OF) (ls:List d9) (env:T d9) (h:mp ls env=.map m.nx)=>iG b a [(.int .i64 6,.str [42]),(.int .i64 7,.str [47]),(.int .i64 8,.str [37]),(.int .i64 9,.str [43]),(.int .i64 10,.str [45]),(.int .i64 11,.str [60]),(.int .i64 12,.str [60,61])] 13 [62] (by rfl) cf h
 have s:=λ(cf:G9) (mp:OF) (ls:List d9) (env:T d9) (h:mp ls env=.map m.nx)=>iG b a [(.int .i64 6,.str [42]),(.int .i64 7,.str [47]),(.int .i64 8,.str [37]),(.int .i64 9,.str [43]),(.int .i64 10,.str [45]),(.int .i64 11,.str [60]),(.int .i64 12,.str [60,61]),(.int .i64 13,.str [62])] 14 [62,61] (by rfl) cf h;have t:=λ(cf:G9) (mp:OF) (ls:List d9) (env:T d9) (h:mp ls env=.map m.nx)=>iG b a [(.int .i64 6,.str [42]),(.int .i64 7,.str [47]),(.int .i64 8,.str [37]),(.int .i64 9,.str [43]),(.int .i64 10,.str [45]),(.int .i64 11,.str [60]),(.int .i64 12,.str [60,61]),(.int .i64 13,.str [62]),(.int .i64 14,.str [62,61])] 15 [61,61] (by rfl) cf h;have c:=λ(cf:G9) (mp:OF) (ls:List d9) (env:T d9) (h:mp ls env=.map m.nx)=>iG b a [(.int .i64 6,.str [42]),(.int .i64 7,.str [47]),(.int .i64 8,.str [37]),(.int .i64 9,.str [43]),(.int .i64 10,.str [45]),(.int .i64 11,.str [60]),(.int .i64 12,.str [60,61]),(.int .i64 13,.str [62]),(.int .i64 14,.str [62,61]),(.int .i64 15,.str [61,61])] 16 [33,61] (by rfl) cf h;have d:=λ(cf:G9) (mp:OF) (ls:List d9) (env:T d9) (h:mp ls env=.map m.nx)=>iG b a [(.int .i64 6,.str [42]),(.int .i64 7,.str [47]),(.int .i64 8,.str [37]),(.int .i64 9,.str [43]),(.int .i64 10,.str [45]),(.int .i64 11,.str [60]),(.int .i64 12,.str [60,61]),(.int .i64 13,.str [62]),(.int .i64 14,.str [62,61]),(.int .i64 15,.str [61,61]),(.int .i64 16,.str [33,61])] 17 [97,110,100] (by rfl) cf h
 have g:=λ(cf:G9) (mp:OF) (ls:List d9) (env:T d9) (h:mp ls env=.map m.nx)=>iG b a [(.int .i64 6,.str [42]),(.int .i64 7,.str [47]),(.int .i64 8,.str [37]),(.int .i64 9,.str [43]),(.int .i64 10,.str [45]),(.int .i64 11,.str [60]),(.int .i64 12,.str [60,61]),(.int .i64 13,.str [62]),(.int .i64 14,.str [62,61]),(.int .i64 15,.str [61,61]),(.int .i64 16,.str [33,61]),(.int .i64 17,.str [97,110,100])] 18 [111,114] (by rfl) cf h;simp only [adn,ae1] at i j k l o p q r s t c d g;have e:aF=[(.int .i64 6,.str [42]),(.int .i64 7,.str [47]),(.int .i64 8,.str [37]),(.int .i64 9,.str [43]),(.int .i64 10,.str [45]),(.int .i64 11,.str [60]),(.int .i64 12,.str [60,61]),(.int .i64 13,.str [62]),(.int .i64 14,.str [62,61]),(.int .i64 15,.str [61,61]),(.int .i64 16,.str [33,61]),(.int .i64 17,.str [97,110,100]),(.int .i64 18,.str [111,114])]:=rfl;rw [e];simp [zL,lS,cB,tQ,ji,i,j,k,l,o,p,q,r,s,t,c,d,g]
theorem Wl {K:Known}{f:FuncId}(c:K.fns f=some KA)(b:∀args m,K.eff f args m=none)(N n:Nat):∀e∈aV,∀m:Mem,l7 K N (n+1) (.func f) [.int .i64 e.2.2.2] m=some [⟨.int .i64 e.1,m⟩]:=by intro e a m;rw [KC c rfl b];simp only [aV,Z9,ahw,or_false] at a;rcases a with rfl | rfl | rfl | rfl | rfl | rfl | rfl | rfl | rfl | rfl | rfl | rfl | rfl<;>rfl
def zM:W9:=⟨false,[(some 0)],2,[.tmp 1],(j4 (j5 (I8 (N9 (u6 (.bool false))) (sL sH) o7)) (j4 (j5 (j6 (K8 Ug XL (J9 gH) (u6 (.int .u8 (.ofNat 97)))) (j6 (gP G7 true (N9 (J9 gH))) (j6 (gP bW true (K8 Qq Uh G7 (u6 (.int .u8 (.ofNat 122))))) (j6 (gq eP G7 (u6 (.bool false))) (I8 (N9 G7) (sL sH) o7)))))) C9)),none⟩
def Ti (fi:Nat):W9:=⟨false,[(some 2),(some 0)],5,[.tmp 4],(j4 (j5 (I8 (N9 (u6 (.bool false))) (sR (sL sH)) o7)) (j4 (j5 (I8 (N9 (u6 (.int .i64 (.ofNat 3)))) (sL (sL sH)) o7)) (j4 (j4 (j5 (j6 (tX (J9 gH) (u6 (.int .i64 (.ofNat 0)))) (Qv (D6 fi [G7]) (sL sH) o7))) (p9 (J9 (gL gH)) (j5 (I8 (N9 (u6 (.int .i64 (.ofNat 1)))) (sL (sL sH)) o7)) D7)) (j4 (j5 (j6 (dh (J9 (gR gH))) (j6 (L6 0 G7) (G6 (xu G7) (j6 (yI G7) (j6 (K8 Le Ls G7 (u6 (.int .i64 (.ofNat 0)))) (j6 (gP G7 true (N9 (J9 (gR gH)))) (j6 (gP bW true (dh G7)) (j6 (gP eP true (L6 0 G7)) (G6 (UG nP true (xu G7)) (j6 (gP (cu 4) true (Y0 2 G7 (u6 (.int .i64 (.ofNat 0))))) (G6 (UG (cu 5) true (eu 2 G7)) (j6 (gP (cu 6) true (N9 (J9 (gL (gL gH))))) (j6 (gP (cu 7) true (N9 (J9 gH))) (j6 (gP (cu 8) true (aK [(.int .i64 (.ofNat 0)),(.str [])] [(0,1,bW),(1,1,G7)])) (j6 (gP (cu 9) true (pEq (tV [.i,.s]) nP G7)) (j6 (gq (cu 10) G7 (u6 (.bool false))) (I8 (N9 G7) (sR (sL sH)) o7)))))))))))))))))) C9)))),none⟩
theorem Tj {K:Known}{f:FuncId}(d:K.fns f=some zM)(c:∀args m,K.eff f args m=none)(N n:Nat):∀e∈aV,∃b t,e.2.2.1=b::t∧
  ∀m:Mem,l7 K N (n+1) (.func f) [.int .u8 (b.toNat:Int)] m=some [⟨.bool (decide (e.2.1=1)),m⟩]:=by
 intro e a;simp only [aV,Z9,ahw,or_false] at a;rcases a with rfl | rfl | rfl | rfl | rfl | rfl | rfl | rfl | rfl | rfl | rfl | rfl | rfl<;>exact⟨_,_,rfl,λm=>by rw [KC d rfl c];rfl⟩
theorem Wm:∀e∈aV,e.2.1=1∨e.2.1=3:=by decide
theorem agX (k n:Int)(s a:List UInt8):tV [.i,.s] (.agg [.int .i64 k,.str s]) (.agg [.int .i64 n,.str a])=some (decide (n=k)&&(a==s)):=by
 have h:tV [.i,.s] (.agg [.int .i64 k,.str s]) (.agg [.int .i64 n,.str a])=some (bi (bY k n) (strEq s a) false):=by simp [tV,bO,Gj,ay,eqStr];cases bY k n<;>cases strEq s a<;>rfl
 rw [h,gT,gU];congr 1;by_cases h1:k=n;subst h1;rw [beq_self_eq_true,decide_eq_true rfl];show (s==a)=(true&&(a==s));rw [adl];exact abE.2 ⟨λh=>by simpa using (beq_iff_eq.1 h).symm,λh=>by simpa using (beq_iff_eq.1 h).symm⟩;rw [beq_eq_false_iff_ne.2 h1,decide_eq_false (afR h1)];rfl
theorem ad8 {cf:G9}{h:kR}{N i r off:Nat}{M:Mem}{f:Option (Int×List UInt8)}(q:Fb M r off f){b:UInt8}{t:List UInt8}{g:Bool}(j:cf (.func i) [.int .u8 (b.toNat:Int)] M=some [⟨.bool g,M⟩]):
  lS cf h N (Ti i) [.ptr r off,.str (b::t)] M=some [⟨.bool (match f with | some (k,s)=>decide ((bif g then 1 else 3)=k)&&((b::t)==s) | none=>false),M⟩]:=by
 have e:∀(l r:T d9),tX (J9 gH) (u6 (.int .i64 0)) [] (.nd l (.str (b::t)) r)=some (.int .u8 (b.toNat:Int)):=λ_ _=>rfl;have a:∀(n:Int) (ls:List d9) (env:T d9),lay [(0,1,bW),(1,1,G7)] (.str (b::t) :: .int .i64 n::ls) env [.int .i64 0,.str []]=some [.int .i64 n,.str (b::t)]:=λ_ _ _=>rfl;obtain⟨v,d,⟨rfl,p⟩ | ⟨k,s,id,o,w,u,m,rfl⟩⟩:=q;rcases p with rfl | ⟨id,o,c,rfl⟩ | ⟨id,o,es,rfl⟩<;>cases g<;>simp [Ti,lS,cB,tQ,D6,e,j,d]
 rcases u with⟨c,rfl⟩ | ⟨es,rfl⟩<;>cases g<;>simp [Ti,lS,cB,tQ,D6,e,j,d,m,a,agX,-SX,-SY]
theorem agY {K:Known}{a c:Nat}(d:K.fns a=some (Ti c))(g:K.fns c=some zM)(j:∀f args m,K.eff f args m=none)(N n:Nat):
  ∀tok r off M,Fb M r off tok->∀e∈aV,l7 K N (n+2) (.func a) [.ptr r off,.str e.2.2.1] M=some [⟨.bool (Tg tok e),M⟩]:=by
 intro tok r off M q e k;obtain⟨b,t,i,l⟩:=Tj g (j c) N n e k;rw [KC d rfl (j a),i,ad8 q (l M)];have o:(bif decide (e.2.1=1) then (1:Int) else 3)=e.2.1:=by rcases Wm e k with h | h;rw [h];rfl;rw [h];rfl
 rw [o];unfold Tg;cases tok with
 | none=>rfl
 | some p=>rw [i]
theorem Zg {P:Program}{K:Known}(j:VJ P K){f c b g i:Nat}(l:K.fns f=some (Kz c b g))(hs:K.fns c=some zL)(p:K.fns b=some KA)(k:K.fns g=some (Ti i))(o:K.fns i=some zM)
  (a:∀f args m,K.eff f args m=none) {args:List d9} {m:Mem} {outs:List VM} (h:nu args m=some outs):
  AR P f∧∀{ι:K4} {w:World},RM P K.base ι m w.heap->bg (m.nm ι) args->CallsIn Fence.wide 0 P f (p8 ι args).toArray w (Q9 P K.base ι m w outs):=
 Wj j l (a f) (N:=14) (n:=2) (J2 _) (λm e d=>NC hs (a c) 14 1 m e d) (Wl p (a b) 14 1) (agY k o a 14 0) h
structure Gf (m:Mem)(id rs:Nat)(l:List (List d9)):Prop where
 pos:0<rs
 len:∀r,r∈l->r.length=rs
 blk:∃c t c',m.get id=some (.cells rs c t)∧l.length<=c∧c<=c'∧T.Ok t c'∧∀i (h:i<l.length),t.get i=some l[i]
structure gZ (id:Nat)(m m':Mem):Prop where
 ok:T.Ok m'.t m'.nx
 nx:m.nx<=m'.nx
 lim:m'.lim=m.lim
 old:∀i,i<m.nx->i≠id->m'.get i=m.get i
theorem gZ.refl {id:Nat}{m:Mem}(h:T.Ok m.t m.nx):gZ id m m:=⟨h,J2 _,rfl,λ_ _ _=>rfl⟩
theorem gZ.trans {id:Nat}{a b c:Mem}(h:gZ id a b)(k:gZ id b c):gZ id a c:=
 ⟨k.ok,aA h.nx k.nx,k.lim.trans h.lim,λi d e=>(k.old i (gI d h.nx) e).trans (h.old i d e)⟩
theorem Ext.toB {id:Nat}{a b:Mem}(h:Ext a b):gZ id a b:=⟨h.ok,h.nx,h.lim,λi c _=>h.old i c⟩
theorem Gf.same {m m':Mem}{id rs:Nat}{l:List (List d9)}(h:Gf m id rs l)(e:m'.get id=m.get id):Gf m' id rs l:=by obtain⟨p,f,c,t,a,b,d⟩:=h;exact⟨p,f,c,t,a,e.trans b,d⟩
theorem Gf.ext {m m':Mem}{id rs:Nat}{l:List (List d9)}(h:Gf m id rs l)(a:id<m.nx)(e:Ext m m'):Gf m' id rs l:=h.same (e.old id a)
theorem Gf.take {m:Mem}{id rs:Nat}{l:List (List d9)}(h:Gf m id rs l)(k:Nat):Gf m id rs (l.take k):=by
 obtain⟨p,n,c,t,b,e,q,d,f,g⟩:=h;refine⟨p,λr o=>n r (aeI o),c,t,b,e,by simp;omega,d,f,λi j=>?_⟩;have a:i<l.length:=by simp at j;omega
 rw [g i a,List.getElem_take]
theorem Gf.ES {m:Mem}{id rs:Nat}{l:List (List d9)}(h:Gf m id rs l){i:Nat}(b:i<l.length):AM.ES (m.get id) (i*rs) rs=some (.agg l[i]):=by obtain⟨p,g,c,t,q,e,s,r,u,f⟩:=h;have o:=g l[i] (ac8 b);have d:=yc (rs:=rs) (n:=c) (rows:=t) (i:=i) (j:=0) (k:=rs) p (by omega) (f i b) o (by omega);rw [Y3] at d;rw [e];show P8 (some (Q6.cells rs c t)) (λa n rows=>ob (jO a n rows (i*rs) rs) λl=>some (d9.agg l))=_;rw [fV,d,K6,q9,Xb (by omega)]
theorem Gf.ld1 {m:Mem}{id rs:Nat}{l:List (List d9)}(h:Gf m id rs l){i j:Nat}(f:i<l.length)(g:j<rs):AM.ld1 (m.get id) (i*rs+j)=l[i][j]?:=by obtain⟨p,s,c,t,k,d,q,o,r,e⟩:=h;rw [d];show P8 (some (Q6.cells rs c t)) (λb n a=>cell1 b n a (i*rs+j))=_;rw [fV,nM g (by omega) (e i f)]
theorem Gf.store {m:Mem}{id rs:Nat}{l:List (List d9)}(h:Gf m id rs l)(o:m.Ok)(a:id<m.nx)(d:m.lim<=id){i:Nat}(u:i<l.length){row:List d9}(F:row.length=rs)(C:K7 row=true):
  ∃m',(∀{β:Type} (k:Mem->Option β),storeAt m id (i*rs) row k=k m')∧Gf m' id rs (l.set i row)∧gZ id m m':=by
 obtain⟨p,w,c,t,x,z,A,y,g,s⟩:=h;have E:Nat.div (i*rs) rs=i:=afO i p;have H:Nat.mod (i*rs) rs=0:=Nat.mul_mod_left i rs;have f:=s i u;have D:=w l[i] (ac8 u);have G:aJ rs c t (i*rs) row=some (t.put i row):=by
  unfold aJ;rw [E,H,show Nat.blt i c=true from Y5.mpr (by omega),f];show bi (Nat.ble (Nat.add 0 (len' row)) rs) (some (t.put i (lQ 0 row l[i]))) none=_;rw [I9,show Nat.ble (Nat.add 0 row.length) rs=true from Y4 (by show 0+row.length<=rs;omega),lU _ _ _ (by omega),List.take_zero,aa2,
   abz (by omega)]
  simp
 refine⟨m.set id (.cells rs c (t.put i row)),λk=>?_,⟨p,λr q=>?_,c,t.put i row,x,?_,by simpa using A,y,T.Ok.put g i row (by omega),λj v=>?_⟩,?_⟩;rw [lu d C,z];show ob (ob (aJ rs c t (i*rs) row) λb=>some (Q6.cells rs c b)) _=_;rw [G];rfl;rcases List.mem_or_eq_of_mem_set q with h | rfl;exact w r h;exact F;rw [Mem.V4 o a,if_pos rfl];have n:j<l.length:=by simpa using v
 rw [List.getElem_set];split;rename_i e;subst e;exact T.aL g _ _ (by omega);rename_i e;rw [T.bn g _ _ _ (by omega) e];exact s j n;exact⟨Mem.Ok.set o a _,by simp,rfl,λj v B=>by rw [Mem.V4 o a,if_neg B]⟩
theorem zN {rs n:Nat}{rows:T (List d9)}:∀(a b off:Nat),L9 rs n rows (a+b) off=ob (L9 rs n rows a off) λx=>ob (L9 rs n rows b (off+a)) λy=>some (x++y)
 | 0,b,off=>by rw [aa2,Y3];show _=ob (L9 rs n rows b off) λy=>some ([]++y);cases L9 rs n rows b off<;>rfl
 | a+1,b,off=>by
  rw [show a+1+b=(a+b)+1 from by omega];show ob (cell1 rs n rows off) (λv=>ob (L9 rs n rows (a+b) (off+1)) λl=>some (v::l))=ob (ob (cell1 rs n rows off) λv=>ob (L9 rs n rows a (off+1)) λl=>some (v::l)) _;rw [zN a b (off+1),show off+1+a=off+(a+1) from by omega];cases cell1 rs n rows off with
  | none=>rfl
  | some v=>
   simp only [K6];cases L9 rs n rows a (off+1) with
   | none=>rfl
   | some x=>simp only [K6];cases L9 rs n rows b (off+(a+1))<;>rfl
theorem zO {rs n:Nat}{rows:T (List d9)}{i:Nat}{row:List d9}(b:i<n)(h:rows.get i=some row)(d:row.length=rs):
  ∀k j,j+k=rs->L9 rs n rows k (i*rs+j)=some (row.drop j):=by
 intro k;induction k with
 | zero=>intro j c;rw [abz (by omega)];rfl
 | succ k ih=>
  intro j c;show ob (cell1 rs n rows (i*rs+j)) (λv=>ob (L9 rs n rows k (i*rs+j+1)) λl=>some (v::l))=_;have a:j<row.length:=by omega
  rw [nM (by omega) b h,Hl a,K6,show i*rs+j+1=i*rs+(j+1) from by omega,ih (j+1) (by omega),Xl a];rfl
theorem wY {rs n:Nat}{rows:T (List d9)}{l:List (List d9)}(c:∀r,r∈l->r.length=rs)(h:∀i (h:i<l.length),rows.get i=some l[i])(d:l.length<=n):
  ∀k i,i+k=l.length->L9 rs n rows (k*rs) (i*rs)=some (l.drop i).flatten:=by
 intro k;induction k with
 | zero=>intro i b;rw [abz (by omega),adk];rfl
 | succ k ih=>
  intro i b;have a:i<l.length:=by omega
  have:=zO (n:=n) (i:=i) (by omega) (h i a) (c _ (ac8 a)) rs 0 (by omega);rw [Y3,q9] at this;rw [show (k+1)*rs=rs+k*rs from by rw [ado,Nat.one_mul,ahu],zN,this,K6,show i*rs+rs=(i+1)*rs from by rw [ado,Nat.one_mul],ih (i+1) (by omega),K6,Xl a];rfl
theorem Cn {rs:Nat}:∀(l:List (List d9)),(∀r,r∈l->r.length=rs)->rowsOf rs l.length l.flatten=some l
 | [],_=>rfl
 | r::l,h=>by have hr:=h r (by simp);show ob (takeN rs (r++l.flatten)) (λx=>ob (rowsOf rs l.length (lN rs (r++l.flatten))) λrest=>some (x::rest))=_;rw [nX _ _ (by simp;omega),K6,lT,List.drop_left' hr,List.take_left' hr,Cn l (λx hx=>h x (by simp [hx]))];rfl
theorem Ra {m:Mem}(b:m.Ok){rs:Nat}(hp:0<rs){l:List (List d9)}(a:∀r,r∈l->r.length=rs):Gf (m.new (.cells rs l.length (T.ofList l))) m.nx rs l:=
 ⟨hp,a,l.length,T.ofList l,l.length,by rw [Mem.K5 b,if_pos rfl],J2 _,J2 _,T.eF l,λi h=>by rw [T.bA,Hl h]⟩
theorem Fg {m:Mem}{rs:Nat}{l:List (List d9)}(b:∀r,r∈l->r.length=rs):grown m rs l.length l.flatten=some [⟨.sliceU m.nx 0 l.length rs,m.new (.cells rs l.length (T.ofList l))⟩]:=by show ob (rowsOf rs l.length l.flatten) (λa=>one (d9.sliceU m.nx 0 l.length rs) (m.new (.cells rs l.length (T.ofList a))))=_;rw [Cn l b];rfl
theorem qj:∀(a b:List d9),K7 (a++b)=(K7 a&&K7 b)
 | [],_=>rfl
 | v::a,b=>by show bi (r9 v) (K7 (a++b)) false=(bi (r9 v) (K7 a) false&&K7 b);rw [qj a b];cases r9 v<;>rfl
theorem sP {rs n:Nat}(hp:0<rs):∀(vs:List d9) (t:T (List d9)) (off k n':Nat),n<=n'->T.Ok t n'->k*rs<=off->off+vs.length<=n*rs->
  ∃t',iy rs n vs t off=some t'∧T.Ok t' n'∧∀i,i<k->t'.get i=t.get i
 | [],t,off,k,n',_,h,_,_=>⟨t,rfl,h,λ_ _=>rfl⟩
 | v::vs,t,off,k,n',hnn,h,hk,hn=>by
  have hlt:off<n*rs:=by simp at hn;omega
  have hd:off / rs<n:=Nat.div_lt_of_lt_mul (by rw [adu];exact hlt);obtain⟨row,hrow⟩:=(h.get _).2 (gI hd hnn);have hmod:off%rs<rs:=ahf _ hp;have hkd:k<=off / rs:=(adq hp).2 hk;have hw:aJ rs n t off [v]=some (t.put (off / rs) (lQ (off%rs) [v] row)):=by show bi (Nat.blt (off / rs) n) (ob (t.get (off / rs)) λrow=>bi (Nat.ble (off%rs+1) rs) (some (t.put (off / rs) (lQ (off%rs) [v] row))) none) none=_;rw [show Nat.blt (off / rs) n=true from Y5.mpr hd,hrow,T9,K6,show Nat.ble (off%rs+1) rs=true from Y4 hmod];rfl
  obtain⟨t',h1,h2,h3⟩:=sP hp vs (t.put (off / rs) (lQ (off%rs) [v] row)) (off+1) k n' hnn (T.Ok.put h _ _ (gI hd hnn)) (by omega) (by simp at hn;omega);refine⟨t',?_,h2,λi hi=>?_⟩;show ob (aJ rs n t off [v]) (λrows'=>iy rs n vs rows' (off+1))=_;rw [hw];exact h1;rw [h3 i hi,T.bn h _ _ _ (by omega) (by omega)]
theorem Gf.clear {m:Mem}{id rs:Nat}{l:List (List d9)}(h:Gf m id rs l)(s:m.Ok)(b:id<m.nx)(o:m.lim<=id){k:Nat}(L:k<=l.length){a:List d9}(G:k*rs+a.length<=l.length*rs)(F:K7 a=true):
  ∃m',(∀{β:Type} (f:Mem->Option β),jy m id (k*rs) a f=f m')∧Gf m' id rs (l.take k)∧gZ id m m':=by
 have y:=h.take k;obtain⟨p,M,c,t,w,z,A,x,B,C⟩:=h;cases a with
 | nil=>exact⟨m,λf=>rfl,y,gZ.refl s⟩
 | cons v a=>
  obtain⟨u,H,I,J⟩:=sP p (v::a) t (k*rs) k w x B (J2 _) (aA G (aa1 _ A));refine⟨m.set id (.cells rs c u),λ{β} f=>?_,⟨p,y.len,c,u,w,by rw [Mem.V4 s b,if_pos rfl],by simp;omega,x,I,λi D=>?_⟩,Mem.Ok.set s b _,by simp,rfl,λj K E=>by rw [Mem.V4 s b,if_neg E]⟩;show bi (Nat.blt id m.lim) none (bi (K7 (v::a)) (P8 (m.get id) λr n q=>ob (iy r n (v::a) q (k*rs)) λd=>f (m.set id (.cells r n d))) none)=f (m.set id (.cells rs c u));rw [show Nat.blt id m.lim=false from aby.2 λe=>absurd (Y5.mp e) (Nat.not_lt.2 o),F,z,R5,T9,fV,H];rfl;have g:i<k∧i<l.length:=by simp at D;omega
  rw [J i g.1,C i g.2,List.getElem_take]
def bK (m:Mem)(v:d9)(xs:List d9):Prop:=
 (v=.nilSlice∧xs=[])∨∃id off,((∃c,v=.slice id off xs.length c∧xs.length<=c)∨v=.sliceU id off xs.length 1)∧id<m.nx∧
  (xs=[]∨∃n rows,m.get id=some (.cells 1 n rows)∧off+xs.length<=n∧∀i (h:i<xs.length),rows.get (off+i)=some [xs[i]])
def Fh (m:Mem)(v:d9)(xs:List d9):Prop:=
 ∃id off c,v=.slice id off xs.length c∧xs.length<=c∧id<m.nx∧
  (xs=[]∨∃n rows,m.get id=some (.cells 1 n rows)∧off+xs.length<=n∧∀i (h:i<xs.length),rows.get (off+i)=some [xs[i]])
theorem Fh.vs {m:Mem}{v:d9}{xs:List d9}(h:Fh m v xs):bK m v xs:=by obtain⟨id,a,c,b,d,e,f⟩:=h;exact .inr ⟨id,a,.inl ⟨c,b,d⟩,e,f⟩
theorem bK.keep {m m':Mem}{v:d9}{xs:List d9}(a:bK m v xs)(b:m.nx<=m'.nx)(h:∀id n rows,id<m.nx->m.get id=some (.cells 1 n rows)->(∃o l c,v=.slice id o l c)∨(∃o l e,v=.sliceU id o l e)->m'.get id=m.get id):bK m' v xs:=by rcases a with a | ⟨id,off,h1,h2,h3⟩;exact .inl a;refine .inr ⟨id,off,h1,gI h2 b,?_⟩;rcases h3 with h3 | ⟨n,rows,h4,h5,h6⟩;exact .inl h3;refine .inr ⟨n,rows,(h id n rows h2 h4 ?_).trans h4,h5,h6⟩;rcases h1 with⟨c,rfl,_⟩ | rfl;exact .inl ⟨_,_,_,rfl⟩;exact .inr ⟨_,_,_,rfl⟩
theorem bK.ext {m m':Mem}(h:Ext m m'){v:d9}{xs:List d9}(b:bK m v xs):bK m' v xs:=b.keep h.nx λid _ _ a _ _=>h.old id a
theorem Fh.keep {m m':Mem}{v:d9}{xs:List d9}(g:Fh m v xs)(f:m.nx<=m'.nx)(h:∀id n rows,id<m.nx->m.get id=some (.cells 1 n rows)->(∃o l c,v=.slice id o l c)->m'.get id=m.get id):Fh m' v xs:=by obtain⟨id,b,c,rfl,e,d,a⟩:=g;refine⟨id,b,c,rfl,e,gI d f,?_⟩;rcases a with a | ⟨n,rows,h4,h5,h6⟩;exact .inl a;exact .inr ⟨n,rows,(h id n rows d h4 ⟨_,_,_,rfl⟩).trans h4,h5,h6⟩
theorem Fh.ext {m m':Mem}(h:Ext m m'){v:d9}{xs:List d9}(b:Fh m v xs):Fh m' v xs:=b.keep h.nx λid _ _ a _ _=>h.old id a
theorem bK.cells {m:Mem}{v:d9}{xs:List d9}(h:bK m v xs):v.cells=[v]:=by rcases h with⟨rfl,rfl⟩ | ⟨id,off,⟨c,rfl,_⟩ | rfl,_⟩<;>rfl
theorem bK.lY {m:Mem}{v:d9}{xs:List d9}(h:bK m v xs){β:Type}(p:d9->β)(q:β):bU v p q=q:=by rcases h with⟨rfl,rfl⟩ | ⟨id,off,⟨c,rfl,_⟩ | rfl,_⟩<;>rfl
theorem bK.r9 {m:Mem}{v:d9}{xs:List d9}(h:bK m v xs):Go.AM.r9 v=true:=by rcases h with⟨rfl,rfl⟩ | ⟨id,off,⟨c,rfl,_⟩ | rfl,_⟩<;>rfl
theorem bK.len {m:Mem}{v:d9}{xs:List d9}(h:bK m v xs):qU v (some (d9.int .i64 0)) (λ_ _ n _=>some (.int .i64 n)) (λ_ _ n _=>some (.int .i64 n))=some (.int .i64 xs.length):=by rcases h with⟨rfl,rfl⟩ | ⟨id,off,⟨c,rfl,_⟩ | rfl,_⟩<;>rfl
theorem bK.lenOf {m:Mem}{v:d9}{xs:List d9}(h:bK m v xs):Go.AM.lenOf v=some xs.length:=by rcases h with⟨rfl,rfl⟩ | ⟨id,off,⟨c,rfl,_⟩ | rfl,_⟩<;>rfl
theorem bK.at {m:Mem}{v:d9}{xs:List d9}(h:bK m v xs){i:Nat}(a:i<xs.length):
  ∃id o,qU v none (λid off len _=>idx len (.int .i64 i) λk=>some (d9.ptr id (off+k))) (λid off len _=>idx len (.int .i64 i) λk=>some (d9.ptr id (off+k)))=some (.ptr id o)∧id<m.nx∧ld1 (m.get id) o=some xs[i]:=by
 rcases h with⟨_,rfl⟩ | ⟨id,off,h1,h2,h3⟩;simp at a;rcases h3 with rfl | ⟨n,rows,h4,h5,h6⟩;simp at a;refine⟨id,off+i,?_,h2,by rw [h4];exact QV (by omega) (h6 i a)⟩;rcases h1 with⟨c,rfl,_⟩ | rfl;simp only [Bg];rw [vR _ _ _ a];simp only [xZ];rw [vR _ _ _ a]
theorem ND {n off:Nat}{rows:T (List d9)}{xs:List d9}(h:∀i (h:i<xs.length),rows.get (off+i)=some [xs[i]])(c:off+xs.length<=n):
  ∀(j i:Nat),i+j=xs.length->L9 1 n rows j (off+i)=some (xs.drop i):=by
 intro j;induction j with
 | zero=>intro i b;rw [abz (by omega)];rfl
 | succ j ih=>
  intro i b;have a:i<xs.length:=by omega
  show ob (cell1 1 n rows (off+i)) (λv=>ob (L9 1 n rows j (off+i+1)) λl=>some (v::l))=_;have e:cell1 1 n rows (off+i)=some xs[i]:=by
   have:=nM (rs:=1) (n:=n) (rows:=rows) (i:=off+i) (j:=0) (by omega) (by omega) (h i a)
   rwa [adr] at this
  rw [e,show off+i+1=off+(i+1) from by omega,ih (i+1) (by omega),Xl a];rfl
theorem bK.read {m:Mem}{v:d9}{xs:List d9}(h:bK m v xs):bG m 1 xs.length v=some xs:=by
 rcases h with⟨rfl,rfl⟩ | ⟨id,off,h1,h2,h3⟩;rfl;have b:R9 m id off (Nat.mul xs.length 1)=some xs:=by
  have e:Nat.mul xs.length 1=xs.length:=adr _;rw [e];rcases h3 with rfl | ⟨n,a,h4,h5,h6⟩;rfl;cases hx:xs.length with
  | zero=>rw [aa5.1 hx];rfl
  | succ k=>show P8 (m.get id) (λf d a=>L9 f d a (k+1) off)=_;have:=ND h6 h5 (k+1) 0 (by omega);rw [h4,fV,← Y3 off,this,q9]
 rcases h1 with⟨c,rfl,_⟩ | rfl<;>exact b
theorem Fh.tail {m:Mem}{v x:d9}{xs:List d9}(h:Fh m v (x::xs)):∃v',Fh m v' xs∧(∀(y a:OF) (ls:List d9) (env:T d9) (nid:Nat),y ls env=v->a ls env=.int .i64 1->lSl 1 y (some a) none ls env nid=some (v',none))∧∀i o l c,v'=.slice i o l c->∃o2 l2 c2,v=.slice i o2 l2 c2:=by
 obtain⟨id,b,c,rfl,f,g,d⟩:=h;have k:xs.length+1<=c:=by simpa using f
 refine⟨.slice id (bi (Nat.beq 1 c) b (Nat.add b (Nat.mul 1 1))) xs.length (c-1),⟨id,_,c-1,rfl,by omega,g,?_⟩,λy a ls env nid p j=>?_,λi o l q h=>by cases h;exact⟨_,_,_,rfl⟩⟩;by_cases hx:xs=[];exact .inl hx;have s:=ad1.2 hx;rcases d with d | ⟨n,rows,h4,h5,h6⟩;cases d;refine .inr ⟨n,rows,h4,?_⟩;rw [iE,if_neg (by omega)];have e:Nat.add b (Nat.mul 1 1)=b+1:=rfl;rw [e];refine⟨by simp at h5;omega,λi r=>?_⟩;have:=h6 (i+1) (by simp;omega);rw [show b+1+i=b+(i+1) from by omega,this];rfl;show jN (a ls env) (λl=>N7 nid 1 (y ls env) l none)=_;rw [j,p];show N7 nid 1 (.slice id b (xs.length+1) c) 1 none=_;show bi (Nat.ble 1 (xs.length+1)) (bi (Nat.ble (xs.length+1) c) (some (d9.slice id (bi (Nat.beq 1 c) b (Nat.add b (Nat.mul 1 1))) (Nat.sub (xs.length+1) 1) (Nat.sub c 1),none)) none) none=_;rw [show Nat.ble 1 (xs.length+1)=true from Y4 (by omega),show Nat.ble (xs.length+1) c=true from Y4 k];rfl
structure Fr (lo p:Nat)(m m':Mem):Prop where
 ok:T.Ok m'.t m'.nx
 nx:m.nx<=m'.nx
 lim:m'.lim=m.lim
 old:∀i,i<lo->i≠p->m'.get i=m.get i
theorem Fr.refl {lo p:Nat}{m:Mem}(h:T.Ok m.t m.nx):Fr lo p m m:=⟨h,J2 _,rfl,λ_ _ _=>rfl⟩
theorem Fr.trans {lo p:Nat}{a b c:Mem}(h:Fr lo p a b)(k:Fr lo p b c):Fr lo p a c:=
 ⟨k.ok,aA h.nx k.nx,k.lim.trans h.lim,λi d e=>(k.old i d e).trans (h.old i d e)⟩
theorem Ext.fr {lo p:Nat}{m m':Mem}(h:Ext m m')(a:lo<=m.nx):Fr lo p m m':=⟨h.ok,h.nx,h.lim,λi b _=>h.old i (by omega)⟩
theorem gZ.fr {lo p:Nat}{m m':Mem}(h:gZ p m m')(a:lo<=m.nx):Fr lo p m m':=⟨h.ok,h.nx,h.lim,λi c b=>h.old i (by omega) b⟩
theorem Fr.ext {lo p:Nat}{m m':Mem}(h:Fr lo p m m')(a:m.nx<=lo)(hp:lo<=p):Ext m m':=⟨h.ok,h.nx,h.lim,λi b=>h.old i (by omega) (by omega)⟩
theorem Fr.mono {lo p q:Nat}{m m':Mem}(h:Fr lo p m m')(hp:lo<=p):Fr lo q m m':=⟨h.ok,h.nx,h.lim,λi a _=>h.old i a (by omega)⟩
theorem Fr.down {lo a p:Nat}{m m':Mem}(h:Fr lo p m m')(d:a<=lo):Fr a p m m':=⟨h.ok,h.nx,h.lim,λi c b=>h.old i (by omega) b⟩
def oU (lo:Nat)(m:Mem)(v:d9)(l:List d9):Prop:=
 (v=.nilSlice∧l=[])∨∃id,lo<=id∧id<m.nx∧K7 l=true∧Gf m id 1 (l.map ([·]))∧(v=.slice id 0 l.length l.length∨v=.sliceU id 0 l.length 1)
theorem oU.nil (lo:Nat)(m:Mem):oU lo m .nilSlice []:=.inl ⟨rfl,rfl⟩
theorem oU.keep {lo:Nat}{m m':Mem}{v:d9}{l:List d9}(h:oU lo m v l)(a:m.nx<=m'.nx)(b:∀i,lo<=i->i<m.nx->m'.get i=m.get i):oU lo m' v l:=by rcases h with h | ⟨id,h1,h2,h3,h4,h5⟩;exact .inl h;exact .inr ⟨id,h1,gI h2 a,h3,h4.same (b id h1 h2),h5⟩
theorem oU.ext {lo:Nat}{m m':Mem}{v:d9}{l:List d9}(h:oU lo m v l)(e:Ext m m'):oU lo m' v l:=h.keep e.nx λi _ a=>e.old i a
theorem Fj:∀l:List d9,(l.map ([·])).flatten=l
 | []=>rfl
 | x::l=>by rw [Z7,List.flatten_cons,Fj l];rfl
theorem oU.vs {lo:Nat}{m:Mem}{v:d9}{l:List d9}(h:oU lo m v l):bK m v l:=by rcases h with h | ⟨id,h1,h2,h3,h4,h5⟩;exact .inl h;obtain⟨p,g,c,t,f,b,d,j,k,e⟩:=h4;refine .inr ⟨id,0,?_,h2,.inr ⟨c,t,b,by simpa using d,λi a=>?_⟩⟩;rcases h5 with h5 | h5;exact .inl ⟨_,h5,J2 _⟩;exact .inr h5;rw [aa2,e i (by simpa using a)];simp
theorem oU.sl {lo:Nat}{m:Mem}{v:d9}{xs:List Int}(h:oU lo m v (ints xs)):tC m v xs:=by
 have a:(ints xs).length=xs.length:=by simp [ints]
 rcases h with⟨h,h'⟩ | ⟨id,h1,h2,h3,h4,h5⟩;exact .inl ⟨h,by simpa [ints] using h'⟩;obtain⟨p,j,c,t,g,d,e,k,l,f⟩:=h4;rw [a] at h5;refine .inr ⟨(id,0),?_,h2,.inr ⟨c,t,d,by simpa [ints] using e,λi b=>?_⟩⟩;rcases h5 with h5 | h5;exact .inl ⟨_,h5⟩;exact .inr ⟨_,h5⟩;rw [aa2,f i (by simpa [ints] using b)];simp [ints]
theorem Fp {n bytes:Nat}(h:n<=100000)(hb:1<=bytes∧bytes<=1000):big n bytes 1=true:=by show bi (Nat.ble ((2*n+2048)*bytes) 281474976710656) (bi true (Nat.ble 1 bytes) false) false=true;rw [show Nat.ble ((2*n+2048)*bytes) 281474976710656=true from Y4 (aA (akh (show 2*n+2048<=202048 by omega) hb.2) (by decide)),show Nat.ble 1 bytes=true from Y4 hb.1];rfl
theorem Di {lo:Nat}{m:Mem}(e:m.Ok)(c:lo<=m.nx)(l:List d9)(d:K7 l=true):grown m 1 l.length l=some [⟨.sliceU m.nx 0 l.length 1,m.new (.cells 1 l.length (T.ofList (l.map ([·]))))⟩]∧oU lo (m.new (.cells 1 l.length (T.ofList (l.map ([·]))))) (.sliceU m.nx 0 l.length 1) l:=by
 have b:∀r,r∈l.map ([·])->r.length=1:=λr b=>by obtain⟨x,_,rfl⟩:=ab1.1 b;rfl
 have g:=Fg (m:=m) b;have a:=Ra e (rs:=1) (by omega) b;rw [aaW] at g a;rw [Fj] at g;exact⟨g,.inr ⟨m.nx,c,by simp,d,a,.inr rfl⟩⟩
theorem Fr.new {lo:Nat}{m:Mem}(c:m.Ok)(a:lo<=m.nx)(b:Q6):Fr lo lo m (m.new b):=((Ext.refl c).new b).fr a
theorem Zh {lo bytes:Nat}{m:Mem}{v:d9}{l xs:List d9}(w:m.Ok)(K:m.lim<=lo)(d:lo<=m.nx)(h:oU lo m v l)(A:K7 xs=true)(hb:l.length+xs.length<=100000)(f:1<=bytes∧bytes<=1000):
  ∃v' m',sJ m 1 bytes xs.length xs v=some [⟨v',m'⟩]∧oU lo m' v' (l++xs)∧Fr lo lo m m':=by
 by_cases hf:xs=[];subst hf;refine⟨v,m,?_,by simpa using h,Fr.refl w⟩;rcases h with⟨rfl,rfl⟩ | ⟨id,_,_,_,_,rfl | rfl⟩;rfl;show bi (Nat.ble (l.length+0) l.length) (one (.slice id 0 (l.length+0) l.length) m) _=_;rw [Y3,show Nat.ble l.length l.length=true from Y4 (J2 _)];rfl;rfl;obtain⟨k,C⟩:∃k,xs.length=k+1:=⟨xs.length-1,by have:=ad1.2 hf;omega⟩;rcases h with⟨rfl,rfl⟩ | ⟨id,i1,i2,i3,ha,hv⟩;obtain⟨g,o⟩:=Di (lo:=lo) w d xs A;refine⟨_,_,?_,by rw [adn];exact o,Fr.new w d _⟩;rw [← g];show UC m 1 bytes xs.length xs=_;rw [C];show bi (big (k+1) bytes 1) _ none=_;rw [Fp (by simp at hb;omega) f];rfl;have u:K7 (l++xs)=true:=by rw [qj,i3,A];rfl
 obtain⟨p,P,c,t,H,I,L,V,G,M⟩:=ha;have F:l.length<=c:=by simpa using L
 have E:L9 1 c t l.length 0=some l:=by
  have:=wY (rs:=1) (n:=c) (rows:=t) P M L l.length 0 (by simp)
  rwa [adr,adk,q9,Fj] at this
 rcases hv with rfl | rfl;obtain⟨g,o⟩:=Di (lo:=lo) w d (l++xs) u;refine⟨_,_,?_,o,Fr.new w d _⟩;rw [← g];show nT m 1 bytes xs.length xs id 0 l.length l.length=_;unfold nT;have N:Nat.ble (Nat.add l.length xs.length) l.length=false:=by rw [aby];intro e;have:l.length+xs.length<=l.length:=Y2 e;omega
 have O:R9 m id 0 (Nat.mul l.length 1)=some l:=by
  rw [show Nat.mul l.length 1=l.length from adr _];cases hll:l.length with
  | zero=>rw [aa5.1 hll];rfl
  | succ j=>show P8 (m.get id) (λrs R rows=>L9 rs R rows (j+1) 0)=_;rw [I,fV,← hll,E]
 rw [N,R5,show Nat.add l.length xs.length=(l++xs).length from by simp,Fp (by simpa using hb) f,T9,O,K6,O4];have a:(m.set id .dead).Ok:=Mem.Ok.set w i2 _;have B:∀b,Fr lo lo m ((m.set id .dead).new b):=λb=>⟨Mem.Ok.new a _,by simp,by simp,λi J _=>by
  rw [Mem.K5 a,if_neg (by simp;omega),Mem.V4 w i2,if_neg (by omega)]⟩
 have s:Nat.ble m.lim id=true:=Y4 (by omega);by_cases hone:xs.length=1∧0<l.length;obtain⟨x,rfl⟩:∃x,xs=[x]:=ac9.1 hone.1;have D:∃c'',l.length+1<=c''∧T.Ok (t.put l.length [x]) c'':=by
  by_cases hc:l.length<H;exact⟨H,hc,T.Ok.put G _ _ hc⟩;obtain rfl:H=l.length:=by omega
  exact⟨l.length+1,J2 _,T.Ok.push G _⟩
 obtain⟨c'',S,U⟩:=D;refine⟨.sliceU m.nx 0 (l.length+1) 1,(m.set id .dead).new (.cells 1 (l.length+1) (t.put l.length [x])),?_,.inr ⟨m.nx,d,by simp,u,⟨by omega,λr Q=>?_,l.length+1,t.put l.length [x],c'',?_,by simp,S,U,λi J=>?_⟩,.inr (by simp)⟩,B _⟩;show Aq m 1 bytes 1 [x] id 0 l.length 1=_;show bi (Nat.beq 1 1) (bi (big (l.length+1) bytes 1) (bi (Nat.ble m.lim id) (bi (K7 [x]) (BH (m.get id) _ _) none) none) none) none=_;rw [Fp (by simpa using hb) f,s,A,I];show bi (bi (Nat.beq 1 1) (bi (Nat.beq 0 0) (bi (Nat.ble l.length c) (bi (Nat.beq 1 1) (bi (Nat.beq (len' [x]) 1) (Nat.blt 0 l.length) false) false) false) false) false) _ _=_;rw [show Nat.ble l.length c=true from Y4 F,show Nat.blt 0 l.length=true from Eq.mpr Y5 hone.2];rfl;obtain⟨y,_,rfl⟩:=ab1.1 Q;rfl;rw [Mem.K5 a];simp;by_cases hil:i=l.length;subst hil;rw [T.aL G _ _ (by omega)];simp;have q:i<l.length:=by simp at J;omega
 rw [T.bn G _ _ _ (by omega) (afR hil),M i (by simpa using q)];simp [afP,q];obtain⟨g,o⟩:=Di (lo:=lo) a (by simpa using d) (l++xs) u;refine⟨_,_,?_,o,B _⟩;rw [← g];show Aq m 1 bytes xs.length xs id 0 l.length 1=_;unfold Aq;rw [C];show bi (Nat.beq 1 1) (bi (big (l.length+(k+1)) bytes 1) (bi (Nat.ble m.lim id) (bi (K7 xs) (BH (m.get id) _ _) none) none) none) none=_;rw [Fp (by omega) f,s,A,I];show bi (bi (Nat.beq 1 1) (bi (Nat.beq 0 0) (bi (Nat.ble l.length c) (bi (Nat.beq (k+1) 1) (bi (Nat.beq (len' xs) 1) (Nat.blt 0 l.length) false) false) false) false) false) _ (ob (L9 1 c t (Nat.mul l.length 1) 0) λz=>grown (m.set id .dead) 1 (Nat.add l.length (k+1)) (U2 z xs))=_
 rw [show Nat.ble l.length c=true from Y4 F,show bi (Nat.beq (k+1) 1) (bi (Nat.beq (len' xs) 1) (Nat.blt 0 l.length) false) false=false from by
     rw [I9,C];cases A:Nat.beq (k+1) 1 with
     | false=>rfl
     | true=>
      cases h2:Nat.blt 0 l.length with
      | false=>rfl
      | true=>exact absurd ⟨by rw [C];exact q8 A,Eq.mp Y5 h2⟩ hone,
  show Nat.mul l.length 1=l.length from adr _,show Nat.add l.length (k+1)=(l++xs).length from by simp [C]]
 show ob (L9 1 c t l.length 0) (λz=>grown (m.set id .dead) 1 (l++xs).length (U2 z xs))=_;rw [E,K6,O4]
theorem ad9 {lo bytes:Nat}{m:Mem}{v x:d9}{l xs:List d9}(k:m.Ok)(a:m.lim<=lo)(c:lo<=m.nx)(h:oU lo m v l)(e:bK m x xs)(j:K7 xs=true)(hb:l.length+xs.length<=100000)(b:1<=bytes∧bytes<=1000):
  ∃v' m',(∀(s y:OF) (cf:G9) (ls:List d9) (env:T d9),s ls env=v->y ls env=x->qy 1 bytes s y cf ls env m=some [⟨v',m'⟩])∧oU lo m' v' (l++xs)∧Fr lo lo m m':=by
 obtain⟨v',m',f,g,i⟩:=Zh k a c h j hb b;refine⟨v',m',λs y cf ls env o p=>?_,g,i⟩;show ob (AM.lenOf (y ls env)) (λn=>ob (bG m 1 n (y ls env)) λd=>sJ m 1 bytes n d (s ls env))=_;rw [p,o,e.lenOf,K6,e.read,K6,f]
theorem o9:∀a b:List UInt8,strEq a b=decide (a=b)
 | [],[]=>rfl
 | [],_ :: _=>rfl
 | _ :: _,[]=>rfl
 | x::a,y::b=>by show bi (Nat.beq x.toNat y.toNat) (strEq a b) false=_;rw [iE,o9 a b];by_cases h:x=y;subst h;rw [if_pos rfl];simp;rw [if_neg (λe=>h (aix.1 e))];simp [h]
@[simp] theorem alR (a b:List UInt8):dQ a b=some (.bool (decide (a=b))):=by rw [← o9];rfl
@[simp] theorem alS (a b:List UInt8):BF a b=some (.bool (!decide (a=b))):=by rw [← o9];rfl
theorem F6 {a b:List UInt8}(h:a.length+b.length<9223372036854775808):I6 a b=some (.str (a++b)):=by show bi (Nat.blt (Nat.add (len' a) (len' b)) 9223372036854775808) (some (d9.str (U2 a b))) none=_;rw [I9,I9,O4,show Nat.blt (Nat.add a.length b.length) 9223372036854775808=true from Y5.mpr h];rfl
@[simp] theorem zP (a b:List UInt8):eqStr (.str a) (.str b)=some (decide (a=b)):=by rw [← o9];rfl
section
variable {x lo hi:OF}{ls:List d9}{env:T d9}{s:List UInt8}{l h:Nat}
theorem Fq (d:x ls env=.str s)(c:lo ls env=.int .i64 (l:Int))(a:l<s.length):tX x lo ls env=some (.int .u8 (s[l].toNat:Nat)):=by show oO (x ls env) (λs=>jN (lo ls env) λk=>ob (oN k s) λb=>some (d9.int .u8 b.toNat))=_;rw [d,YM,c,YN,VK,jf,Hl a];rfl
end
def strs (l:List (List UInt8)):List d9:=l.map d9.str
theorem bL (l:List (List UInt8)):(strs l).length=l.length:=by simp [strs]
theorem Fu:∀l:List (List UInt8),K7 (strs l)=true
 | []=>rfl
 | _::l=>by show bi true (K7 (strs l)) false=true;rw [Fu l];rfl
def gK (m:Mem)(rs:Nat)(v:d9)(l:List (List d9)):Prop:=
 (v=.nilSlice∧l=[])∨∃id o,((∃c,v=.slice id (o*rs) l.length c∧l.length<=c)∨v=.sliceU id (o*rs) l.length rs)∧id<m.nx∧
  (l=[]∨∃n rows,m.get id=some (.cells rs n rows)∧o+l.length<=n∧(∀r,r∈l->r.length=rs)∧∀i (h:i<l.length),rows.get (o+i)=some l[i])
section
variable {m m':Mem}{rs:Nat}{v:d9}{l:List (List d9)}
theorem gK.keep (a:gK m rs v l)(b:m.nx<=m'.nx)(h:∀id n rows,id<m.nx->m.get id=some (.cells rs n rows)->(∃o l c,v=.slice id o l c)∨(∃o l e,v=.sliceU id o l e)->m'.get id=m.get id):gK m' rs v l:=by rcases a with a | ⟨id,o,h1,h2,h3⟩;exact .inl a;refine .inr ⟨id,o,h1,gI h2 b,?_⟩;rcases h3 with h3 | ⟨n,rows,h4,h5⟩;exact .inl h3;refine .inr ⟨n,rows,(h id n rows h2 h4 ?_).trans h4,h5⟩;rcases h1 with⟨c,rfl,_⟩ | rfl;exact .inl ⟨_,_,_,rfl⟩;exact .inr ⟨_,_,_,rfl⟩
theorem gK.ext (h:Ext m m')(b:gK m rs v l):gK m' rs v l:=b.keep h.nx λid _ _ a _ _=>h.old id a
theorem gK.cells (h:gK m rs v l):v.cells=[v]:=by rcases h with⟨rfl,rfl⟩ | ⟨id,off,⟨c,rfl,_⟩ | rfl,_⟩<;>rfl
theorem gK.lY (h:gK m rs v l){β:Type}(p:d9->β)(q:β):bU v p q=q:=by rcases h with⟨rfl,rfl⟩ | ⟨id,off,⟨c,rfl,_⟩ | rfl,_⟩<;>rfl
theorem gK.r9 (h:gK m rs v l):Go.AM.r9 v=true:=by rcases h with⟨rfl,rfl⟩ | ⟨id,off,⟨c,rfl,_⟩ | rfl,_⟩<;>rfl
theorem gK.len (h:gK m rs v l):qU v (some (d9.int .i64 0)) (λ_ _ n _=>some (.int .i64 n)) (λ_ _ n _=>some (.int .i64 n))=some (.int .i64 l.length):=by rcases h with⟨rfl,rfl⟩ | ⟨id,off,⟨c,rfl,_⟩ | rfl,_⟩<;>rfl
theorem gK.lenOf (h:gK m rs v l):Go.AM.lenOf v=some l.length:=by rcases h with⟨rfl,rfl⟩ | ⟨id,off,⟨c,rfl,_⟩ | rfl,_⟩<;>rfl
theorem Tk {n i rs:Nat}{rows:T (List d9)}{r:List d9}(b:i<n)(h:rows.get i=some r)(e:r.length=rs){j k:Nat}(c:j<rs)(d:j+k<=rs):ES (some (.cells rs n rows)) (i*rs+j) k=some (.agg ((r.drop j).take k)):=by show P8 (some (Q6.cells rs n rows)) (λa n rows=>ob (jO a n rows (i*rs+j) k) λl=>some (d9.agg l))=_;rw [fV,yc c b h e d,K6]
theorem gK.at (h:gK m rs v l){i:Nat}(d:i<l.length):
  ∃id o,qU v none (λid off len _=>idx len (.int .i64 i) λk=>some (d9.ptr id (off+k*rs))) (λid off len _=>idx len (.int .i64 i) λk=>some (d9.ptr id (off+k*rs)))=some (.ptr id o)∧id<m.nx∧
   (l[i]).length=rs∧(∀j k,j<rs->j+k<=rs->ES (m.get id) (o+j) k=some (.agg (((l[i]).drop j).take k)))∧∀j,j<rs->ld1 (m.get id) (o+j)=(l[i])[j]?:=by
 rcases h with⟨_,rfl⟩ | ⟨id,off,h1,h2,h3⟩;simp at d;rcases h3 with rfl | ⟨n,a,h4,h5,h7,h6⟩;simp at d;have b:=h7 l[i] (ac8 d);refine⟨id,off*rs+i*rs,?_,h2,b,λj k e g=>?_,λj e=>?_⟩;rcases h1 with⟨c,rfl,_⟩ | rfl;simp only [Bg];rw [vR _ _ _ d];simp only [xZ];rw [vR _ _ _ d];rw [← ado,h4];exact Tk (by omega) (h6 i d) b e g;rw [← ado,h4];show P8 (some (Q6.cells rs n a)) (λf n a=>cell1 f n a ((off+i)*rs+j))=_;rw [fV,nM e (by omega) (h6 i d)]
end
def iO (lo rs:Nat)(m:Mem)(v:d9)(l:List (List d9)):Prop:=
 (v=.nilSlice∧l=[])∨∃id,lo<=id∧id<m.nx∧K7 l.flatten=true∧Gf m id rs l∧l≠[]∧(v=.slice id 0 l.length l.length∨v=.sliceU id 0 l.length rs)
section
variable {m m':Mem}{lo rs:Nat}{v:d9}{l:List (List d9)}
theorem iO.nil (lo rs:Nat)(m:Mem):iO lo rs m .nilSlice []:=.inl ⟨rfl,rfl⟩
theorem iO.keep (h:iO lo rs m v l)(a:m.nx<=m'.nx)(b:∀i,lo<=i->i<m.nx->m'.get i=m.get i):iO lo rs m' v l:=by rcases h with h | ⟨id,h1,h2,h3,h4,h5⟩;exact .inl h;exact .inr ⟨id,h1,gI h2 a,h3,h4.same (b id h1 h2),h5⟩
theorem iO.ext (h:iO lo rs m v l)(e:Ext m m'):iO lo rs m' v l:=h.keep e.nx λi _ a=>e.old i a
theorem iO.lt (h:iO lo rs m v l){i o n e:Nat}(a:v=.sliceU i o n e):lo<=i∧i<m.nx:=by rcases h with⟨rfl,_⟩ | ⟨id,h1,h2,_,_,_,rfl | rfl⟩;cases a;cases a;cases a;exact⟨h1,h2⟩
theorem iO.down {a:Nat}(h:iO lo rs m v l)(b:a<=lo):iO a rs m v l:=by rcases h with h | ⟨id,h1,h2⟩;exact .inl h;exact .inr ⟨id,aA b h1,h2⟩
theorem iO.slice (h:iO lo rs m v l):gK m rs v l:=by rcases h with h | ⟨id,h1,h2,h3,h4,_,h5⟩;exact .inl h;obtain⟨p,b,c,t,g,d,e,j,k,f⟩:=h4;refine .inr ⟨id,0,?_,h2,.inr ⟨c,t,d,by simpa using e,b,λi a=>?_⟩⟩;rw [adk];rcases h5 with h5 | h5;exact .inl ⟨_,h5,J2 _⟩;exact .inr h5;simp only [aa2];exact f i a
theorem Wn {n bytes es:Nat}(h:n<=100000)(hb:1<=bytes∧bytes<=1000)(a:1<=es):big n bytes es=true:=by show bi (Nat.ble ((2*n+2048)*bytes) 281474976710656) (bi (Nat.ble 1 es) (Nat.ble 1 bytes) false) false=true;rw [show Nat.ble ((2*n+2048)*bytes) 281474976710656=true from Y4 (aA (akh (show 2*n+2048<=202048 by omega) hb.2) (by decide)),show Nat.ble 1 bytes=true from Y4 hb.1,show Nat.ble 1 es=true from Y4 a];rfl
theorem NG (e:m.Ok)(a:lo<=m.nx)(hp:0<rs)(c:∀r,r∈l->r.length=rs)(d:K7 l.flatten=true)(b:l≠[]):grown m rs l.length l.flatten=some [⟨.sliceU m.nx 0 l.length rs,m.new (.cells rs l.length (T.ofList l))⟩]∧iO lo rs (m.new (.cells rs l.length (T.ofList l))) (.sliceU m.nx 0 l.length rs) l:=
 ⟨Fg (m:=m) c,.inr ⟨m.nx,a,by simp,d,Ra e hp c,b,.inr rfl⟩⟩
theorem Wo {bytes:Nat}{r:List d9}(f:m.Ok)(N:m.lim<=lo)(y:lo<=m.nx)(hp:0<rs)(h:iO lo rs m v l)(I:r.length=rs)(F:K7 r=true)(hb:l.length+1<=100000)(q:1<=bytes∧bytes<=1000):
  ∃v' m',sJ m rs bytes 1 r v=some [⟨v',m'⟩]∧iO m.nx rs m' v' (l ++ [r])∧Fr lo lo m m'∧(∀i,i<m.nx->(∀o n e,v≠.sliceU i o n e)->m'.get i=m.get i):=by
 have B:∀b,∀i,i<m.nx->(∀o n e,v≠.sliceU i o n e)->(m.new b).get i=m.get i:=λb i C _=>by rw [Mem.K5 f,if_neg (by omega)]
 have s:[r].flatten=r:=by simp
 rcases h with⟨rfl,rfl⟩ | ⟨id,i1,i2,i3,ha,hne,K⟩;obtain⟨g,o⟩:=NG (lo:=m.nx) (rs:=rs) (l:=[r]) f (J2 _) hp (by simpa using I) (by rw [s];exact F) (by simp);refine⟨_,_,?_,by rw [adn];exact o,Fr.new f y _,B _⟩;rw [← g,s];show bi (big 1 bytes rs) _ none=_;rw [Wn (by simp) q hp];rfl;have u:K7 (l ++ [r]).flatten=true:=by rw [List.flatten_append,s,qj,i3,F];rfl
 have z:∀x,x∈l ++ [r]->x.length=rs:=λx V=>by rcases aa3.1 V with h | h;exact ha.len x h;rw [aP.1 h];exact I
 obtain⟨p,U,c,t,E,O,P,Z,D,Q⟩:=ha;have k:0<l.length:=ad1.2 hne;have J:L9 rs c t (l.length*rs) 0=some l.flatten:=by
  have:=wY (rs:=rs) (n:=c) (rows:=t) U Q P l.length 0 (by simp)
  rwa [adk,q9] at this
 rcases K with rfl | rfl;obtain⟨g,o⟩:=NG (lo:=m.nx) (rs:=rs) (l:=l ++ [r]) f (J2 _) hp z u (by simp);refine⟨_,_,?_,o,Fr.new f y _,B _⟩;rw [← g];show nT m rs bytes 1 r id 0 l.length l.length=_;unfold nT;have R:Nat.ble (Nat.add l.length 1) l.length=false:=by rw [aby];intro e;have:l.length+1<=l.length:=Y2 e;omega
 have S:R9 m id 0 (Nat.mul l.length rs)=some l.flatten:=by have e:Nat.mul l.length rs=l.length*rs:=rfl;rw [e];obtain⟨j,M⟩:∃j,l.length*rs=j+1:=⟨l.length*rs-1,by have:=Nat.mul_pos k hp;omega⟩;rw [M];show P8 (m.get id) (λL W rows=>L9 L W rows (j+1) 0)=_;rw [O,fV,← M,J]
 rw [R,R5,show Nat.add l.length 1=(l ++ [r]).length from by simp,Wn (by simpa using hb) q hp,T9,S,K6,O4];simp;have a:(m.set id .dead).Ok:=Mem.Ok.set f i2 _;have G:∀b,Fr lo lo m ((m.set id .dead).new b):=λb=>⟨Mem.Ok.new a _,by simp,by simp,λi C _=>by
  rw [Mem.K5 a,if_neg (by simp;omega),Mem.V4 f i2,if_neg (by omega)]⟩
 have w:Nat.ble m.lim id=true:=Y4 (by omega);have A:∃c'',l.length+1<=c''∧T.Ok (t.put l.length r) c'':=by
  by_cases hc:l.length<E;exact⟨E,hc,T.Ok.put D _ _ hc⟩;obtain rfl:E=l.length:=by omega
  exact⟨l.length+1,J2 _,T.Ok.push D _⟩
 obtain⟨c'',X,Y⟩:=A;refine⟨.sliceU m.nx 0 (l.length+1) rs,(m.set id .dead).new (.cells rs (l.length+1) (t.put l.length r)),?_,.inr ⟨m.nx,J2 _,by simp,u,⟨hp,z,l.length+1,t.put l.length r,c'',?_,by simp,X,Y,λi C=>?_⟩,by simp,.inr (by simp)⟩,G _,λi C K=>?_⟩;show Aq m rs bytes 1 r id 0 l.length rs=_;show bi (Nat.beq rs rs) (bi (big (l.length+1) bytes rs) (bi (Nat.ble m.lim id) (bi (K7 r) (BH (m.get id) _ _) none) none) none) none=_;rw [Wn (by simpa using hb) q hp,w,F,O,show Nat.beq rs rs=true from abp rs];show bi (bi (Nat.beq rs rs) (bi (Nat.beq 0 0) (bi (Nat.ble l.length c) (bi (Nat.beq 1 1) (bi (Nat.beq (len' r) rs) (Nat.blt 0 l.length) false) false) false) false) false) _ _=_;rw [show Nat.ble l.length c=true from Y4 P,show Nat.blt 0 l.length=true from Eq.mpr Y5 k,I9,I,show Nat.beq rs rs=true from abp rs];rfl;rw [Mem.K5 a];simp;by_cases hil:i=l.length;subst hil;rw [T.aL D _ _ (by omega)];simp;have d:i<l.length:=by simp at C;omega
 rw [T.bn D _ _ _ (by omega) (afR hil),Q i d];simp [afP,d];have H:i≠id:=by rintro rfl;exact K _ _ _ rfl
 rw [Mem.K5 a,if_neg (by simp;omega),Mem.V4 f i2,if_neg H]
theorem Zi {bytes:Nat}{x:d9}{r:List d9}(F:m.Ok)(a:m.lim<=lo)(g:lo<=m.nx)(hp:0<rs)(h:iO lo rs m v l)(w:gK m rs x [r])(u:r.length=rs)(D:K7 r=true)(hb:l.length+1<=100000)(b:1<=bytes∧bytes<=1000):
  ∃v' m',(∀(s y:OF) (cf:G9) (ls:List d9) (env:T d9),s ls env=v->y ls env=x->qy rs bytes s y cf ls env m=some [⟨v',m'⟩])∧iO m.nx rs m' v' (l ++ [r])∧Fr lo lo m m'∧(∀i,i<m.nx->(∀o n e,v≠.sliceU i o n e)->m'.get i=m.get i):=by
 obtain⟨v',m',z,A,B,C⟩:=Wo F a g hp h u D hb b;refine⟨v',m',λs y cf ls env G H=>?_,A,B,C⟩;have k:bG m rs 1 x=some r:=by
  rcases w with⟨_,h⟩ | ⟨id,o,q1,q2,q3⟩;cases h;rcases q3 with h | ⟨n,rows,e1,e2,e3,e4⟩;cases h;have p:R9 m id (o*rs) (Nat.mul 1 rs)=some r:=by
   have e:Nat.mul 1 rs=1*rs:=rfl;have f:=zO (rs:=rs) (n:=n) (rows:=rows) (i:=o) (by simp at e2;omega) (by simpa using e4 0 (by simp)) u;obtain⟨j,E⟩:∃j,1*rs=j+1:=⟨rs-1,by omega⟩;have d:rs=j+1:=by omega
   rw [e,E];show P8 (m.get id) (λt I rows=>L9 t I rows (j+1) (o*rs))=_;rw [e1,fV,← d];have:=f rs 0 (by omega)
   rwa [Y3,q9] at this
  rcases q1 with⟨c,rfl,_⟩ | rfl<;>exact p
 show ob (AM.lenOf (y ls env)) (λn=>ob (bG m rs n (y ls env)) λq=>sJ m rs bytes n q (s ls env))=_;rw [H,G,w.lenOf,K6];show ob (bG m rs 1 x) _=_;rw [k,K6];exact z
theorem Wp {bytes:Nat}{x:d9}{r:List d9}(k:m.Ok)(a:m.lim<=lo)(b:lo<=m.nx)(hp:0<rs)(h:iO lo rs m v l)(q:gK m rs x [r])(p:r.length=rs)(j:K7 r=true)(hb:l.length+1<=100000)(c:1<=bytes∧bytes<=1000):
  ∃v' m',(∀(s y:OF) (cf:G9) (ls:List d9) (env:T d9),s ls env=v->y ls env=x->qy rs bytes s y cf ls env m=some [⟨v',m'⟩])∧iO lo rs m' v' (l ++ [r])∧Fr lo lo m m'∧(∀i,i<m.nx->(∀o n e,v≠.sliceU i o n e)->m'.get i=m.get i):=by
 obtain⟨v',m',d,f,g⟩:=Zi k a b hp h q p j hb c;exact⟨v',m',d,f.down b,g⟩
theorem KD (b:m.Ok)(r:List d9)(hp:0<r.length):gK (m.new (o8 r)) r.length (.slice m.nx 0 1 1) [r]:=
 .inr ⟨m.nx,0,.inl ⟨1,by simp,by simp⟩,by simp,.inr ⟨1,T.ofList [r],by rw [Mem.K5 b,if_pos rfl];simp [o8];rfl,by simp,by simp,λi a=>by
  obtain rfl:i=0:=by simpa using a
  rw [T.bA];rfl⟩⟩
end
def gM (m:Mem)(S:Nat->Prop)(rs:Nat)(v:d9)(l:List (List d9)):Prop:=
 (v=.nilSlice∧l=[])∨∃id o,S id∧((∃c,v=.slice id (o*rs) l.length c∧l.length<=c)∨v=.sliceU id (o*rs) l.length rs)∧id<m.nx∧
  (l=[]∨∃n rows,m.get id=some (.cells rs n rows)∧o+l.length<=n∧(∀r,r∈l->r.length=rs)∧∀i (h:i<l.length),rows.get (o+i)=some l[i])
section
variable {m m':Mem}{S S':Nat->Prop}{rs:Nat}{v:d9}{l:List (List d9)}
theorem gM.slice (h:gM m S rs v l):gK m rs v l:=by rcases h with h | ⟨id,o,_,h⟩;exact .inl h;exact .inr ⟨id,o,h⟩
theorem gM.mono (h:gM m S rs v l)(hn:m.nx<=m'.nx)(ho:∀i,i<m.nx->S i->m'.get i=m.get i)(hS:∀i,i<m.nx->S i->S' i):gM m' S' rs v l:=by rcases h with h | ⟨id,o,h0,h1,h2,h3⟩;exact .inl h;refine .inr ⟨id,o,hS _ h2 h0,h1,gI h2 hn,?_⟩;rcases h3 with h3 | ⟨n,rows,h4,h5⟩;exact .inl h3;exact .inr ⟨n,rows,(ho id h2 h0).trans h4,h5⟩
theorem gK.all (h:gK m rs v l):gM m (λi=>i<m.nx) rs v l:=by rcases h with h | ⟨id,o,h1,h2,h3⟩;exact .inl h;exact .inr ⟨id,o,h2,h1,h2,h3⟩
theorem iO.s {lo:Nat}(h:iO lo rs m v l):gM m (λi=>lo<=i) rs v l:=by rcases h with h | ⟨id,h1,h2,h3,h4,_,h5⟩;exact .inl h;obtain⟨p,b,c,t,g,d,e,j,k,f⟩:=h4;refine .inr ⟨id,0,h1,?_,h2,.inr ⟨c,t,d,by simpa using e,b,λi a=>?_⟩⟩;rw [adk];rcases h5 with h5 | h5;exact .inl ⟨_,h5,J2 _⟩;exact .inr h5;simp only [aa2];exact f i a
end
inductive Ex where
 | mk (k n:Int) (s:List UInt8) (a:List Ex)
inductive aR where
 | mk (k:Int) (s:List UInt8) (e:List Ex) (t f:List aR)
mutual
def bF (m:Mem)(S:Nat->Prop):Ex->List d9->Prop
 | .mk k n s a,row=>∃v rows,row=[.int .i64 k,.int .i64 n,.str s,v]∧gM m S 4 v rows∧H6 m S a rows
def H6 (m:Mem)(S:Nat->Prop):List Ex->List (List d9)->Prop
 | [],rows=>rows=[]
 | e::es,rows=>∃r rs,rows=r::rs∧bF m S e r∧H6 m S es rs
end
mutual
def lD (m:Mem)(S:Nat->Prop):aR->List d9->Prop
 | .mk k s e t f,row=>∃ve vt vf re rt rf,row=[.int .i64 k,.str s,ve,vt,vf]∧gM m S 4 ve re∧H6 m S e re∧gM m S 5 vt rt∧I4 m S t rt∧gM m S 5 vf rf∧I4 m S f rf
def I4 (m:Mem)(S:Nat->Prop):List aR->List (List d9)->Prop
 | [],rows=>rows=[]
 | s::ss,rows=>∃r rs,rows=r::rs∧lD m S s r∧I4 m S ss rs
end
section
variable {m m':Mem}{S S':Nat->Prop}(hn:m.nx<=m'.nx)(ho:∀i,i<m.nx->S i->m'.get i=m.get i)(hS:∀i,i<m.nx->S i->S' i)
include hn ho hS
mutual
theorem bF.mono:∀(e:Ex) (row:List d9),bF m S e row->bF m' S' e row
 | .mk k n s a,row,⟨v,rows,h1,h2,h3⟩=>⟨v,rows,h1,h2.mono hn ho hS,H6.mono a rows h3⟩
theorem H6.mono:∀(l:List Ex) (rows:List (List d9)),H6 m S l rows->H6 m' S' l rows
 | [],_,h=>h
 | e::es,_,⟨r,rs,h1,h2,h3⟩=>⟨r,rs,h1,bF.mono e r h2,H6.mono es rs h3⟩
end
mutual
theorem lD.mono:∀(e:aR) (row:List d9),lD m S e row->lD m' S' e row
 | .mk k s e t f,row,⟨ve,vt,vf,re,rt,rf,h1,h2,h3,h4,h5,h6,h7⟩=>⟨ve,vt,vf,re,rt,rf,h1,h2.mono hn ho hS,H6.mono hn ho hS e re h3,h4.mono hn ho hS,I4.mono t rt h5,h6.mono hn ho hS,I4.mono f rf h7⟩
theorem I4.mono:∀(l:List aR) (rows:List (List d9)),I4 m S l rows->I4 m' S' l rows
 | [],_,h=>h
 | e::es,_,⟨r,rs,h1,h2,h3⟩=>⟨r,rs,h1,lD.mono e r h2,I4.mono es rs h3⟩
end
end
section
variable {m m':Mem}{S:Nat->Prop}
theorem H6.len:∀{l:List Ex} {rows:List (List d9)},H6 m S l rows->rows.length=l.length
 | [],_,h=>by cases h;rfl
 | e::es,_,⟨r,rs,h1,h2,h3⟩=>by rw [h1,Y1,H6.len h3];rfl
theorem I4.len:∀{l:List aR} {rows:List (List d9)},I4 m S l rows->rows.length=l.length
 | [],_,h=>by cases h;rfl
 | e::es,_,⟨r,rs,h1,h2,h3⟩=>by rw [h1,Y1,I4.len h3];rfl
theorem H6.get:∀{l:List Ex} {rows:List (List d9)},H6 m S l rows->∀i (h:i<l.length) (h':i<rows.length),bF m S l[i] rows[i]
 | e::es,_,⟨r,rs,h1,h2,h3⟩,0,h,h'=>by subst h1;exact h2
 | e::es,_,⟨r,rs,h1,h2,h3⟩,i+1,h,h'=>by subst h1;exact H6.get h3 i (by simpa using h) (by simpa using h')
theorem I4.get:∀{l:List aR} {rows:List (List d9)},I4 m S l rows->∀i (h:i<l.length) (h':i<rows.length),lD m S l[i] rows[i]
 | e::es,_,⟨r,rs,h1,h2,h3⟩,0,h,h'=>by subst h1;exact h2
 | e::es,_,⟨r,rs,h1,h2,h3⟩,i+1,h,h'=>by subst h1;exact I4.get h3 i (by simpa using h) (by simpa using h')
def iZ (m:Mem)(S:Nat->Prop)(l:List Ex)(v:d9):Prop:=∃rows,gM m S 4 v rows∧H6 m S l rows
def R4 (m:Mem)(S:Nat->Prop)(l:List aR)(v:d9):Prop:=∃rows,gM m S 5 v rows∧I4 m S l rows
theorem bF.row {e:Ex}{row:List d9}(h:bF m S e row):row.length=4∧K7 row=true:=by obtain⟨k,n,s,a⟩:=e;obtain⟨v,b,rfl,c,_⟩:=h;refine⟨rfl,?_⟩;have d:=c.slice.r9;rw [bD,bD,bD,bD,d];rfl
theorem lD.row {e:aR}{row:List d9}(h:lD m S e row):row.length=5∧K7 row=true:=by obtain⟨k,s,e,t,f⟩:=e;obtain⟨o,q,p,j,n,l,rfl,d,_,g,_,i,_⟩:=h;refine⟨rfl,?_⟩;have a:=d.slice.r9;have b:=g.slice.r9;have c:=i.slice.r9;rw [bD,bD,bD,bD,bD,a,b,c];rfl
end
open Go Go.RowKit
section
variable {P:Program}{G:Mem}{ι:K4}{m:Mem}{w w':World}
theorem Fv (h:RM P G ι m w.heap)(hb:Below w.heap.size w w'):Step P G ι m w ι m w':=by refine⟨⟨h.ok,λi x a=>?_,λi x o a d=>?_,h.glim,h.limn,h.gle,h.base,h.ghas,h.glob,h.spot,h.LU λk p _=>hb.block k p⟩,λ_ _=>rfl,λ_ h=>h,J2 _,rfl,λ_ _=>rfl,hb.size,λb f _=>hb.block b f,λ_ h=>.inl h,hb.os,hb.output,hb.tape⟩;exact (h.blk i x a).mono (n:=m.nm ι) (λ_ _=>rfl) (Mem.au (λ_ h=>h) λ_ _=>rfl) λd=>hb.block _ (eG (h.blk i x a) d);have j:=h.own i x o a d;refine⟨j.alone,λc e l g=>?_⟩;rw [hb.block _ (eG (h.blk i x a) d)] at g;exact j.free c e l g
end
section
variable {P:Program}{G:Mem}
theorem qN {f:FuncId}{args:List d9}{v:d9}(a:BK (layAll [] G).nx ⟨v,V6 G []⟩=some ⟨v,[]⟩)(c:∀n:Nm,v.lt n)(h:∀ι ι',l9 ι v=l9 ι' v)
  (g:∀(ι:K4) (w:World),RM P G ι (V6 G []) w.heap->Calls P f (p8 ι args).toArray w λe w'=>e=.returned (l9 ι v)∧Below w.heap.size w w'):ko P G f args [] ⟨v,[]⟩:=by
 intro ι w d b;refine callsIn_wide.2 ((g ι w d).mono ?_);rintro e w' ⟨rfl,hb⟩;exact⟨ι,⟨v,V6 G []⟩,Fv d hb,c _,rfl,a⟩
end
end
end Go.AM
namespace Go.AM
open Go Go.RowKit
noncomputable section
theorem Fw (m:Mem)(lo n:Nat)(a:List (Nat×NB)):reach m lo (n+1) [] a=some a.reverse:=rfl
theorem Tm {m:Mem}{lo i:Nat}{b:Q6}{a:NB}(h:m.get i=some b)(hb:xC b=some a)(c:LG lo a=[])(n:Nat):reach m lo (n+2) [i] []=some [(i,a)]:=by show bi (GZ i []) (reach m lo (n+1) [] []) (ob (m.get i) λb=>ob (xC b) λa=>reach m lo (n+1) (LG lo a ++ []) [(i,a)])=_;rw [h,K6,hb,K6,c];rfl
theorem NH (lo:Nat):∀ws:List (List UInt8),LG lo (.cells 1 (ws.map λw=>[d9.str w]))=[]
 | []=>rfl
 | w::ws=>by show sW lo [d9.str w]++LG lo (.cells 1 (ws.map λw=>[d9.str w]))=[];rw [NH lo ws];rfl
theorem NI (r:Nat->Option Nat):∀ws:List (List UInt8),nV r (ws.map λw=>[d9.str w])=some (ws.map λw=>[d9.str w])
 | []=>rfl
 | w::ws=>by show ob (kI r [d9.str w]) (λx=>ob (nV r (ws.map λw=>[d9.str w])) λy=>some (x::y))=_;rw [NI r ws];rfl
section
variable {G:Mem}
end
theorem Fx {lo:Nat}{v:d9}(m:Mem)(b:sW lo [v]=[])(c:∀r,kI r [v]=some [v]):je lo [v] m=some ⟨[],[v],[]⟩:=by show ob (reach m lo (99999+1) (sW lo [v]) []) _=_;rw [b,Fw];show ob (kI (wz lo []) [v]) (λd=>ob (some []) λa=>some (⟨[],d,a⟩:CO))=_;rw [c];rfl
theorem Dj {K:Known}{cf:G9}{b:Nat}{f:FuncId}{sf:W9}{args:List d9}{m:Mem}{c:CO}{a:BJ}(g:je K.base.nx args m=some c)(d:K.sum f c.vs c.bs=some a):
  iR K cf b f sf args m=ob (eZ (mF K.base.nx c.ids m.nx) a.v) λv=>ob (wJ (mF K.base.nx c.ids m.nx) a.bs) λbs=>one v (layAll bs m):=by
 show ob (je K.base.nx args m) (λc=>ob (BL K cf b f sf c.vs c.bs) λa=>ob (eZ (mF K.base.nx c.ids m.nx) a.v) λv=>ob (wJ (mF K.base.nx c.ids m.nx) a.bs) λbs=>one v (layAll bs m))=_;rw [g,K6];have e:BL K cf b f sf c.vs c.bs=some a:=by unfold BL;rw [d]
 rw [e,K6]
open Go
theorem zQ {α:Type}(t:T α):∀(l:List α) (i:Nat),(∀j,j<l.length->t.get (i+j)=l[j]?)->t.slice l.length i=some l
 | [],i,h=>rfl
 | x::l,i,h=>by
  rw [Y1,T.xG];have h0:=h 0 (by simp);rw [Y3] at h0;rw [h0,afV,K6,zQ t l (i+1) (λj hj=>by
   have:=h (j+1) (by simp;omega);rw [show i+1+j=i+(j+1) from by omega,this,abF])]
  rfl
def tF (lo:Nat)(m:Mem)(v:d9)(l:List (List UInt8)):Prop:=
 (v=.nilSlice∧l=[])∨∃id t c,lo<=id∧id<m.nx∧l≠[]∧v=.sliceU id 0 l.length 1∧m.get id=some (.cells 1 l.length t)∧T.Ok t c∧l.length<=c∧∀i (h:i<l.length),t.get i=some [.str l[i]]
section
variable {lo:Nat}{m m':Mem}{v:d9}{l:List (List UInt8)}
theorem tF.keep (h:tF lo m v l)(a:m.nx<=m'.nx)(b:∀i,lo<=i->i<m.nx->m'.get i=m.get i):tF lo m' v l:=by rcases h with h | ⟨id,t,c,h1,h2,h3,h4,h5,h6⟩;exact .inl h;exact .inr ⟨id,t,c,h1,gI h2 a,h3,h4,(b id h1 h2).trans h5,h6⟩
theorem tF.ext (h:tF lo m v l)(e:Ext m m'):tF lo m' v l:=h.keep e.nx λi _ a=>e.old i a
theorem tF.cells (h:tF lo m v l):v.cells=[v]:=by rcases h with⟨rfl,_⟩ | ⟨id,t,c,_,_,_,rfl,_⟩<;>rfl
theorem tF.r9 (h:tF lo m v l):Go.AM.r9 v=true:=by rcases h with⟨rfl,_⟩ | ⟨id,t,c,_,_,_,rfl,_⟩<;>rfl
theorem tF.lY (h:tF lo m v l){β:Type}(p:d9->β)(q:β):bU v p q=q:=by rcases h with⟨rfl,_⟩ | ⟨id,t,c,_,_,_,rfl,_⟩<;>rfl
theorem alT {bytes:Nat}{x:d9}{s:List UInt8}(k:m.Ok)(r:m.lim<=lo)(d:lo<=m.nx)(h:tF lo m v l)(A:lenOf x=some 1)(w:bG m 1 1 x=some [.str s])(hb:l.length+1<=100000)(e:1<=bytes∧bytes<=1000):
  ∃v' m',(∀(s y:OF) (cf:G9) (ls:List d9) (env:T d9),s ls env=v->y ls env=x->qy 1 bytes s y cf ls env m=some [⟨v',m'⟩])∧tF lo m' v' (l ++ [s])∧Fr lo lo m m':=by
 have g:∀(o:eD),sJ m 1 bytes 1 [.str s] v=o->∀(s y:OF) (cf:G9) (ls:List d9) (env:T d9),s ls env=v->y ls env=x->qy 1 bytes s y cf ls env m=o:=λo u s y cf ls env z B=>by show ob (AM.lenOf (y ls env)) (λn=>ob (bG m 1 n (y ls env)) λq=>sJ m 1 bytes n q (s ls env))=_;rw [B,z,A,K6,w,K6];exact u
 rcases h with⟨rfl,rfl⟩ | ⟨id,t,c,h1,h2,h3,rfl,h4,h5,h6,h7⟩;refine⟨.sliceU m.nx 0 1 1,m.new (.cells 1 1 (T.ofList [[.str s]])),g _ ?_,.inr ⟨m.nx,_,1,d,by simp,by simp,rfl,by rw [Mem.K5 k,if_pos rfl];rfl,T.eF [[.str s]],by simp,λi j=>?_⟩,Fr.new k d _⟩;show bi (big 1 bytes 1) _ none=_;rw [Fp (by omega) e];rfl;obtain rfl:i=0:=by simpa using j
 rw [T.bA];rfl;have a:(m.set id .dead).Ok:=Mem.Ok.set k h2 _;have p:0<l.length:=ad1.2 h3;have f:∃c'',l.length+1<=c''∧T.Ok (t.put l.length [.str s]) c'':=by
  by_cases hc:l.length<c;exact⟨c,hc,T.Ok.put h5 _ _ hc⟩;obtain rfl:c=l.length:=by omega
  exact⟨l.length+1,J2 _,T.Ok.push h5 _⟩
 obtain⟨c'',C,D⟩:=f;refine⟨.sliceU m.nx 0 (l.length+1) 1,(m.set id .dead).new (.cells 1 (l.length+1) (t.put l.length [.str s])),g _ ?_,.inr ⟨m.nx,_,c'',d,by simp,by simp,by simp,?_,D,by simpa using C,λi j=>?_⟩,
  ⟨Mem.Ok.new a _,by simp,by simp,λi j _=>by rw [Mem.K5 a,if_neg (by simp;omega),Mem.V4 k h2,if_neg (by omega)]⟩⟩
 show Aq m 1 bytes 1 [.str s] id 0 l.length 1=_;show bi (Nat.beq 1 1) (bi (big (l.length+1) bytes 1) (bi (Nat.ble m.lim id) (bi (K7 [.str s]) (BH (m.get id) _ _) none) none) none) none=_;rw [Fp hb e,show Nat.ble m.lim id=true from Y4 (by omega),h4];show bi (bi (Nat.beq 1 1) (bi (Nat.beq 0 0) (bi (Nat.ble l.length l.length) (bi (Nat.beq 1 1) (bi (Nat.beq 1 1) (Nat.blt 0 l.length) false) false) false) false) false) _ _=_;rw [show Nat.ble l.length l.length=true from Y4 (J2 _),show Nat.blt 0 l.length=true from Eq.mpr Y5 p];rfl;rw [Mem.K5 a];simp;by_cases hil:i=l.length;subst hil;rw [T.aL h5 _ _ (by omega)];simp;have b:i<l.length:=by simp at j;omega
 rw [T.bn h5 _ _ _ (by omega) (afR hil),h7 i b];simp [afP,b]
theorem agZ {b:Nat}(h:tF lo m v l)(hb:b<=lo)(a:List UInt8):
  (l=[]∧je b [v,.str a] m=some ⟨[],[.nilSlice,.str a],[]⟩)∨
  ∃id,l≠[]∧je b [v,.str a] m=some ⟨[id],[.sliceU b 0 l.length 1,.str a],[.cells 1 (l.map λw=>[.str w])]⟩:=by
 rcases h with⟨rfl,rfl⟩ | ⟨id,t,c,h1,h2,h3,rfl,h4,h5,h6,h7⟩;exact .inl ⟨rfl,rfl⟩;refine .inr ⟨id,h3,?_⟩;have k:xC (.cells 1 l.length t)=some (.cells 1 (l.map λw=>[.str w])):=by
  show ob (t.slice l.length 0) (λl=>some (NB.cells 1 l))=_;have:=zQ t (l.map λw=>[d9.str w]) 0 (λj i=>by
   have d:j<l.length:=by simpa using i
   rw [aa2,h7 j d,abq,Hl d];rfl)
  rw [aaW] at this;rw [this];rfl
 have n:=Tm (lo:=b) h4 k (NH b l) 99998;have e:Nat.ble b id=true:=Y4 (by omega);have g:sW b [d9.sliceU id 0 l.length 1,.str a]=[id]:=by show bi (Nat.ble b id) [id] [] ++ _=_;rw [e];rfl
 have o:wz b [id] id=some b:=by show bi (Nat.ble b id) (bi (Nat.beq id id) (some b) none) _=_;rw [e,show Nat.beq id id=true from abp id];rfl
 show ob (reach m b (99998+2) (sW b _) []) _=_;rw [g,n];show ob (ob (ob (wz b [id] id) λj=>some (d9.sliceU j 0 l.length 1)) λx=>ob (some [d9.str a]) λy=>some (x::y)) (λp=>ob (ob (ob (nV (wz b [id]) (l.map λw=>[d9.str w])) λx=>some (NB.cells 1 x)) λx=>ob (some []) λy=>some (x::y)) λf=>some (⟨[id],p,f⟩:CO))=_;rw [o,NI];rfl
theorem Fy:∀l:List (List UInt8),rY (l.map λw=>[d9.str w])=some l
 | []=>rfl
 | w::l=>by show ob (rY (l.map λw=>[d9.str w])) (λt=>some (w::t))=_;rw [Fy l];rfl
theorem IE {α:Type}:∀l:List α,takeN l.length l=some l
 | []=>rfl
 | x::l=>by show ob (takeN l.length l) (λr=>some (x::r))=_;rw [IE l];rfl
theorem Tn {d e c b:Nat}(g:Nat.beq c d=false)(h:Nat.beq c e=false){l:List (List UInt8)}(j:l.length<1000000){a:List UInt8}(i:(aW a l).length<1000000):
  VX d e c b c [.sliceU b 0 l.length 1,.str a] [.cells 1 (l.map λw=>[.str w])]=some ⟨.str (aW a l),[]⟩:=by
 unfold VX;rw [g,h,show Nat.beq c c=true from abp c,R5,R5,T9];show bi (Nat.beq b b) (bi (Nat.blt l.length 1000000) (ob (takeN l.length (l.map λw=>[d9.str w])) λl=>ob (rY l) λf=>bi (Nat.blt (len' (aW a f)) 1000000) (some (⟨.str (aW a f),[]⟩:BJ)) none) none) none=_;have:=IE (l.map λw=>[d9.str w]);rw [aaW] at this;rw [show Nat.beq b b=true from abp b,show Nat.blt l.length 1000000=true from Y5.mpr j,T9,T9,this,K6,Fy,K6,I9,show Nat.blt (aW a l).length 1000000=true from Y5.mpr i,T9]
end
section
variable (cf:G9)(fu:Nat)(ls:List d9)(env:T d9)(m:Mem)(k:List Mk)
@[simp] theorem aft (x:OF):Jw x cf ls env m=Yg (x ls env) m:=id rfl
@[simp] theorem ada (t:TypeId)(v:d9):Yg (.iface t v) m=some [⟨.lY (.iface t v),m⟩]:=id rfl
@[simp] theorem adb (x:d9):gQ k ⟨env,m,some x,[]⟩=some [⟨.ret,env,m,k,some x⟩]:=id rfl
@[simp] theorem ade (x:Mk):gQ k ⟨env,m,none,[x]⟩=some [⟨.normal,env,m,x::k,none⟩]:=id rfl
@[simp] theorem afu (a:kR)(rs:List pY)(x:d9):leave a rs ⟨.ret,env,m,[],some x⟩=some [⟨.lY x,m⟩]:=id rfl
@[simp] theorem abo:lG .nilIface .nilIface=some true:=id rfl
@[simp] theorem Zj (t:TypeId)(v:d9):lG (.iface t v) .nilIface=some false:=id rfl
@[simp] theorem afv (r:RC):Jz r cf fu none env m k=bnd (r cf [] env m) (gQ k):=id rfl
@[simp] theorem ah0 (g:OF)(args:List OF):LA g args cf ls env m=Lm (g ls env) λfn a b=>some [⟨env,m,none,[.d (.func fn a b) (evs args ls env)]⟩]:=id rfl
def behind (rs:List pY)(env:T d9)(r:Mem×Option d9):eD:=xB rs env r.2 r.1
@[simp] theorem afw (rs:List pY):behind rs env (m,none)=ob (results rs env m) λl=>some [⟨result l,m⟩]:=id rfl
def ah1 (b:U7)(r:LH):Option (List LH):=match r.o.x with
 | .normal=>match r.o.marks with
  | []=>Qx b cf fu r.o.env r.o.m r.md
  | _=>none
 | _=>some [r]
variable (md:Option d9)
def ah2 (r:EM×Option d9):Option (List LH):=some [⟨⟨.normal,r.1.env,r.1.m,[],none⟩,r.2⟩]
def alU (md:Option d9)(o:Out):Option (List LH):=some [⟨o,md⟩]
@[simp] theorem ah3 (b:U7):ah1 cf fu b ⟨⟨.normal,env,m,[],none⟩,md⟩=Qx b cf fu env m md:=id rfl
@[simp] theorem ake (o:Out):alU md o=some [⟨o,md⟩]:=id rfl
@[simp] theorem ah4 (e:EM):ah2 (e,md)=some [⟨⟨.normal,e.env,e.m,[],none⟩,md⟩]:=id rfl
end
theorem Bo (b c:UInt8):Nat.beq b.toNat c.toNat=decide (b=c):=by
 by_cases h:b=c;subst h;rw [decide_eq_true rfl];exact abp _;rw [decide_eq_false h];cases hb:Nat.beq b.toNat c.toNat with
 | false=>rfl
 | true=>exact absurd (aix.1 (q8 hb)) h
theorem Fz (c:UInt8):∀s:List UInt8,Za c s=decide (0<=Lib.indexByte s c)
 | []=>rfl
 | b::l=>by show bi (Nat.beq b.toNat c.toNat) true (Za c l)=_;rw [Bo,Fz c l];have hg:=Lib.indexByte_ge l c;rw [show Lib.indexByte (b::l) c=if b==c then 0 else if Lib.indexByte l c == -1 then -1 else Lib.indexByte l c+1 from rfl];by_cases h:b=c;rw [decide_eq_true h,if_pos (beq_iff_eq.2 h)];rfl;rw [decide_eq_false h,if_neg (by simpa using h)];show decide _=_;by_cases h2:Lib.indexByte l c=-1;rw [if_pos (beq_iff_eq.2 h2),h2];rw [if_neg (by simpa using h2)];exact decide_eq_decide.2 (by omega)
section
variable {P:Program}{G:Mem}
theorem Wq (n:Nat)(b:Bool)(m:Mem):BK n ⟨.bool b,m⟩=some ⟨.bool b,[]⟩:=rfl
theorem Zk (n:Nat)(s:List UInt8)(m:Mem):BK n ⟨.str s,m⟩=some ⟨.str s,[]⟩:=rfl
theorem KE {f:FuncId}(a:∀(s:ByteArray)(c:UInt8)(w:World),Calls P f #[.string s,.string ⟨#[c]⟩] w λe w'=>e=.returned (.bool (decide (0<=Lib.indexByte s.data.toList c)))∧w'=w)
  (s:List UInt8) (c:UInt8):ko P G f [.str s,.str [c]] [] ⟨.bool (Za c s),[]⟩:=
 qN (Wq _ _ _) (λ_=>trivial) (λ_ _=>by simp [l9]) λb w _=>by refine afF (a ⟨s.toArray⟩ c w) ?_;rintro e w' ⟨rfl,rfl⟩;exact⟨by simp [l9,Fz],Below.refl _ _⟩
theorem IG (c:UInt8):∀s:List UInt8,EX c s=Lib.indexByte s c
 | []=>rfl
 | b::l=>by show bi (Nat.beq b.toNat c.toNat) 0 (bi (bY (EX c l) (Int.negSucc 0)) (Int.negSucc 0) (EX c l+1))=_;rw [Bo,IG c l,gT];rw [show Lib.indexByte (b::l) c=if b==c then 0 else if Lib.indexByte l c == -1 then -1 else Lib.indexByte l c+1 from rfl];by_cases h:b=c;rw [decide_eq_true h,if_pos (beq_iff_eq.2 h)];rfl;rw [decide_eq_false h,if_neg (by simpa using h)];show bi (Lib.indexByte l c == -1) (-1) (Lib.indexByte l c+1)=_;cases Lib.indexByte l c == -1<;>rfl
theorem II (c:UInt8):∀s:List UInt8,EY c s=Lib.countByte s c
 | []=>rfl
 | b::l=>by show bi (Nat.beq b.toNat c.toNat) (Nat.succ (EY c l)) (EY c l)=_;rw [Bo,II c l];unfold Lib.countByte;rw [List.count_cons];by_cases h:b=c;rw [decide_eq_true h,if_pos (by simpa using h)];rfl;rw [decide_eq_false h,if_neg (by simpa using h)];rfl
theorem Tp {f:FuncId}(a:∀(s:ByteArray)(c:UInt8)(w:World),Calls P f #[.string s,.string ⟨#[c]⟩] w λe w'=>e=.returned (.int .i64 (Lib.indexByte s.data.toList c))∧w'=w)
  (s:List UInt8) (c:UInt8):ko P G f [.str s,.str [c]] [] ⟨.int .i64 (EX c s),[]⟩:=
 qN rfl (λ_=>trivial) (λ_ _=>by simp [l9]) λb w _=>by refine afF (a ⟨s.toArray⟩ c w) ?_;rintro e w' ⟨rfl,rfl⟩;exact⟨by simp [l9,IG],Below.refl _ _⟩
theorem Tq {f:FuncId}(a:∀(s:ByteArray)(c:UInt8)(w:World),Calls P f #[.string s,.string ⟨#[c]⟩] w λe w'=>e=.returned (.int .i64 (Lib.countByte s.data.toList c))∧w'=w)
  (s:List UInt8) (c:UInt8):ko P G f [.str s,.str [c]] [] ⟨.int .i64 (.ofNat (EY c s)),[]⟩:=
 qN rfl (λ_=>trivial) (λ_ _=>by simp [l9]) λb w _=>by refine afF (a ⟨s.toArray⟩ c w) ?_;rintro e w' ⟨rfl,rfl⟩;exact⟨by simp [l9,II],Below.refl _ _⟩
theorem FB (sep:List UInt8):∀ws,aW sep ws=Lib.join ws sep
 | []=>rfl
 | [x]=>(Lib.join_one x sep).symm
 | x::y::r=>by have ih:=FB sep (y::r);have e:aW sep (x::y::r)=U2 x (U2 sep (aW sep (y::r))):=rfl;rw [e,ih,O4,O4,Lib.join_cons,Lib.join_cons];simp [Lib.joinTail]
theorem Co:∀{l:List (List d9)} {ws:List (List UInt8)},rY l=some ws->l=ws.map λw=>[d9.str w]
 | [],ws,h=>by have h:some ([]:List (List UInt8))=some ws:=h;cases h;rfl
 | r::l,ws,h=>by
  match r,h with
  | [.str s],h=>have h:ob (rY l) (λt=>some (s::t))=some ws:=h;obtain⟨t,h1,h2⟩:=A8 h;cases h2;rw [Co h1];rfl
theorem PX {α:Type}(n:Nat):∀(l:List α) {r:List α},takeN n l=some r->r=l.take n∧n<=l.length:=by
 intro l r h;by_cases a:n<=l.length;rw [nX n l a] at h;cases h;exact⟨rfl,a⟩;exfalso;revert l r;induction n with
 | zero=>intro l r _ a;exact a (afr _)
 | succ n ih=>
  intro l r h a;cases l with
  | nil=>cases h
  | cons x l=>have h:ob (takeN n l) (λt=>some (x::t))=some r:=h;obtain⟨t,b,_⟩:=A8 h;exact ih l b (by simp at a;omega)
theorem Ws {f:FuncId}(hG:T.Ok G.t G.nx)
  (Y:∀(a:Option Addr) (c:Nat) (d:ByteArray) (w:World),Calls P f #[.slice a 0 c,.string d] w λe w'=>e=.returned (.string ⟨#[]⟩)∧w'=w)
  (Z:∀(bk o c:Nat) (x d:ByteArray) (w:World),w.cell? ⟨bk,o,none⟩=some (.string x)->Calls P f #[.slice (some ⟨bk,o,none⟩) 1 c,.string d] w λe w'=>e=.returned (.string x)∧w'=w)
  (c2:∀(bk o c:Nat) (xs:List ByteArray) (d:ByteArray) (w:World),(∀(j:Nat) x,xs[j]?=some x->w.cell? ⟨bk,o+j,none⟩=some (.string x))->bk<w.heap.size->2<=xs.length->xs.length<=140737488355328->xs.length<=c->
   (Lib.join (xs.map (·.data.toList)) d.data.toList).length<=140737488355328->Calls P f #[.slice (some ⟨bk,o,none⟩) xs.length c,.string d] w λe w'=>e=.returned (.string ⟨(Lib.join (xs.map (·.data.toList)) d.data.toList).toArray⟩)∧Below w.heap.size w w')
  {v:d9} {off n:Nat} (hv:(∃c,v=.slice G.nx off n c∧n<=c)∨∃es,v=.sliceU G.nx off n es) {rows l:List (List d9)} {A:List (List UInt8)} {d:List UInt8} (hn:n<1000000)
  (V:takeN n (lN off rows)=some l) (hw:rY l=some A) (B:(aW d A).length<1000000):ko P G f [v,.str d] [.cells 1 rows] ⟨.str (aW d A),[]⟩:=by
 intro i w Q D;rw [lT] at V;obtain⟨F,a0⟩:=PX n _ V;have H:=Co hw;have h:A.length=n:=by have:=congrArg List.length H;rw [F,ag1,aaW] at this;omega
 have U:(V6 G [.cells 1 rows]).get G.nx=some (.cells 1 (len' rows) (T.ofList rows)):=by show (G.new (iQ (.cells 1 rows))).get G.nx=_;rw [Mem.K5 (m:=G) hG];exact if_pos rfl
 have q:=Q.spot G.nx _ U rfl;obtain⟨c,e,fz,R,h1,_,hr⟩:=Q.blk G.nx _ U;have g:∀j (x:List UInt8),A[j]?=some x->w.cell? ⟨(i G.nx).b,(i G.nx).base+off+j,none⟩=some (.string ⟨x.toArray⟩):=λj x K=>by
  have hj:j<n:=by rw [← h];exact (J3.1 K).1
  have C:rows[off+j]?=some [d9.str x]:=by
   have I:l[j]?=some [d9.str x]:=by rw [H,abq,K];rfl
   rw [F,ad3,if_pos hj,ae6] at I;exact I
  obtain⟨a1,X,q2,q3,q4⟩:=hr (off+j) (by rw [I9];exact (J3.1 C).1);rw [T.bA,C] at X;cases X;have:=q4 0 (by omega);rw [adr,Y3] at this;have J:c[(i G.nx).base+off+j]?=some (.string ⟨x.toArray⟩):=by rw [aeF,this];simp [l9]
  simp [World.cell?,R,J]
 have E:(i G.nx).b<w.heap.size:=(Q5.1 R).1;have k:∀(x:ByteArray) (w':World),x=⟨(aW d A).toArray⟩->Below w.heap.size w w'->∃ι' r,Step P G i (V6 G [.cells 1 rows]) w ι' r.m w'∧r.v.lt (r.m.nm ι')∧Ending.returned (.string x)=.returned (l9 ι' r.v)∧
   BK (layAll [.cells 1 rows] G).nx r=some ⟨.str (aW d A),[]⟩:=λx w' K L=>
  ⟨i,⟨.str (aW d A),V6 G [.cells 1 rows]⟩,Fv Q L,trivial,by rw [K];simp [l9],rfl⟩
 have M:∃cap,n<=cap∧l9 i v=.slice (some ⟨(i G.nx).b,(i G.nx).base+off,none⟩) n cap:=by rcases hv with⟨cap,rfl,p⟩ | ⟨es,rfl⟩;exact⟨cap,p,by simp [l9,K4.yP q]⟩;have O:d9.lt ((V6 G [.cells 1 rows]).nm i) (.sliceU G.nx off n es):=D.1;obtain⟨_,I,J⟩:=O;refine⟨((i G.nx).cap-off) / es,?_,by simp [l9,K4.yP q]⟩;have J:off+n*es<=(i G.nx).cap:=J;exact (adq I).2 (by omega)
 obtain⟨cap,p,N⟩:=M;have s:(p8 i [v,.str d]).toArray=#[.slice (some ⟨(i G.nx).b,(i G.nx).base+off,none⟩) n cap,.string ⟨d.toArray⟩]:=by simp [p8,N,l9]
 rw [s];refine callsIn_wide.2 ?_;match A,h,g,B,k with
 | [],h,_,_,k=>obtain rfl:n=0:=h.symm;refine afF (Y _ cap ⟨d.toArray⟩ w) ?_;rintro e w' ⟨rfl,rfl⟩;exact k _ _ rfl (Below.refl _ _)
 | [x],h,g,_,k=>obtain rfl:n=1:=h.symm;refine afF (Z _ _ cap ⟨x.toArray⟩ ⟨d.toArray⟩ w (g 0 x rfl)) ?_;rintro e w' ⟨rfl,rfl⟩;exact k _ _ rfl (Below.refl _ _)
 | x::y::t,h,g,B,k=>
  have S:((x::y::t).map λz:List UInt8=>(⟨z.toArray⟩:ByteArray)).map (λb:ByteArray=>b.data.toList)=x::y::t:=by rw [ad4];exact List.map_id'' (λ_=>rfl) _
  have:=c2 (i G.nx).b ((i G.nx).base+off) cap ((x::y::t).map λz:List UInt8=>(⟨z.toArray⟩:ByteArray)) ⟨d.toArray⟩ w (λj z W=>by
   rw [abq] at W;obtain⟨u,hu,rfl⟩:=abD.1 W;exact g j u hu) E (by simp) (by rw [aaW,h];omega) (by rw [aaW,h];exact p) (by
    rw [S];show (Lib.join (x::y::t) d).length<=_;rw [← FB];omega)
  rw [S,aaW,h] at this;refine afF this ?_;rintro e w' ⟨rfl,L⟩;refine k _ _ ?_ L;rw [FB]
end
end
end Go.AM
