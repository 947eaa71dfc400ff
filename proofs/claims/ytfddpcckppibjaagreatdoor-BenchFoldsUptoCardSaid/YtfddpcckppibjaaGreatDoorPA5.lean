/- A part of an evaluator for the model, proved sound: what it answers holds of the model; it speaks of every program, no condition. -/
import Derived.Test.YtfddpcckppibjaaGreatDoorPA4
import Derived.Below
import Derived.Lib.SplitLaws
import Derived.Lib.Join
import Derived.Lib.SmallJoins
set_option linter.all false
namespace Go.AM
open Go
noncomputable section
def Xj (P:Program)(S:List TypeId):Bool:=S.all λt=>match P.underlying t with
 | some .bool=>true
 | some (.int _)=>true
 | some .string=>true
 | some (.slice e)=>S.contains e&&Nat.blt 0 (P.cellsOf e)
 | some (.struct fs)=>fs.toList.all (λf=>S.contains f.type)&&KQ P fs.toList 0 (P.cellsOf t)
 | _=>false
section
variable {P:Program}{G:Mem}{H:Type}{enc:TypeId×Value->H}{w:World}{held:Bool}
end
def vF (S:TypeId->Nat->List d9->Prop):List Field->Nat->List d9->Prop
 | [],b,vs=>vs=[]∧1<=b
 | f::fs,b,vs=>∃a c b1 b2,vs=a++c∧S f.type b1 a∧vF S fs b2 c∧b1+b2<=b
def Ux (bs:Nat->Nat):Nat->Nat->Nat
 | _,0=>0
 | j,k+1=>bs j+Ux bs (j+1) k
def je (P:Program)(m:Mem):Nat->TypeId->Nat->List d9->Prop
 | 0,_,_,_=>False
 | n+1,t,b,vs=>match P.underlying t with
  | some .bool=>∃b,vs=[.bool b]
  | some (.int k)=>∃i,vs=[.int k i]∧(Lit.int k i).wf=true
  | some .string=>∃s:List UInt8,vs=[.str s]∧s.length+1<=b
  | some (.slice e)=>vs=[.nilSlice]∨∃id len cap,vs=[.slice id 0 len cap]∧len<=cap∧
    ((cap=0∧m.get id=some .dead)∨∃rows bs,0<cap∧m.get id=some (.cells (P.cellsOf e) cap rows)∧Ux bs 0 len+1<=b∧∀i,i<cap->∃row,rows.get i=some row∧row.length=P.cellsOf e∧(i<len->je P m n e (bs i) row))
  | some (.struct fs)=>vF (je P m n) fs.toList b vs
  | _=>False
theorem Cq {S S':TypeId->Nat->List d9->Prop}(h:∀t b vs,S t b vs->S' t b vs):∀fs b vs,vF S fs b vs->vF S' fs b vs
 | [],_,_,hv=>hv
 | _::fs,_,_,⟨a,c,b1,b2,e,h1,h2,h3⟩=>⟨a,c,b1,b2,e,h _ _ _ h1,Cq h fs b2 c h2,h3⟩
theorem Bj {P:Program}{m m':Mem}(h:∀i b,m.get i=some b->m'.get i=some b):∀n t b vs,je P m n t b vs->je P m' n t b vs:=by
 intro n;induction n with
 | zero=>intro t b vs a;exact a
 | succ n ih=>
  intro t b vs a;unfold je at a ⊢;split at a;exact a;exact a;exact a;rcases a with a | ⟨id,len,cap,h1,h2,h4⟩;exact .inl a;refine .inr ⟨id,len,cap,h1,h2,?_⟩;rcases h4 with⟨h4,h5⟩ | ⟨rows,bs,h4,h5,h7,h6⟩;exact .inl ⟨h4,h _ _ h5⟩;exact .inr ⟨rows,bs,h4,h _ _ h5,h7,λi g=>by
   obtain⟨c,d,e,f⟩:=h6 i g;exact⟨c,d,e,λj=>ih _ _ _ (f j)⟩⟩
  exact Cq (λt b vs=>ih t b vs) _ _ _ a;exact a
theorem Uy {S:TypeId->Nat->List d9->Prop}:∀{fs:List Field} {b b':Nat} (_:b<=b') (vs:List d9),vF S fs b vs->vF S fs b' vs
 | [],_,_,h,_,hv=>⟨hv.1,aA hv.2 h⟩
 | _ :: _,_,_,h,_,⟨a,c,b1,b2,e,h1,h2,h3⟩=>⟨a,c,b1,b2,e,h1,h2,aA h3 h⟩
theorem NY {α:Type}(f:α->Nat)(d:Nat->Nat):∀(l:List α) (j:Nat),(∀i (h:i<l.length),d (j+i)=f l[i])->Ux d j l.length=(l.map f).sum
 | [],_,_=>rfl
 | x::l,j,h=>by
  have h0:=h 0 (by simp);simp only [Y1,adM] at h0;simp only [Y6,Ux,Z6,agm,h0];rw [NY f d l (j+1) (λi hi=>by
   have:=h (i+1) (by simp;omega);simp only [ahh] at this;rw [show j+1+i=j+(i+1) from by omega];exact this)]
section
variable {P:Program}{G:Mem}{hp:Array Obj}{H:Type}{enc:TypeId×Value->H}{w:World}{held:Bool}
theorem KR {cs:List Value}{S:Mem->TypeId->Nat->List d9->Prop}(A:∀m m' t b vs,(∀i x,m.get i=some x->m'.get i=some x)->S m t b vs->S m' t b vs):
  ∀(fs:List Field) (bs:List Nat) (o:Nat),bs.length=fs.length->(∀(i:Nat) (f:Field) (b:Nat),fs[i]?=some f->bs[i]?=some b->∀ι m,RM P G ι m hp->m.lim=m.nx->Gets P G hp ι m ((cs.drop f.offset).take (P.cellsOf f.type)) (λm' vs=>S m' f.type b vs))->KQ P fs o cs.length=true->
   ∀ι m,RM P G ι m hp->m.lim=m.nx->Gets P G hp ι m (cs.drop o) (λm' vs=>vF (S m') fs (bs.sum+1) vs):=by
 intro fs;induction fs with
 | nil=>intro bs o _ _ d ι m l k;have:o=cs.length:=gI d;exact⟨ι,m,[],Lifts.refl l k,by rw [this];simp [u6],trivial,rfl,by omega⟩
 | cons f fs ih=>
  intro bs o r s d ι m l k;cases bs with
  | nil=>simp at r
  | cons b bs=>simp only [KQ,Hl] at d;have z:f.offset=o:=gI d.1;obtain⟨n,E,a,g,w,q,y⟩:=s 0 f b rfl rfl ι m l k;obtain⟨p,F,c,e,B,C,D⟩:=ih bs (o+P.cellsOf f.type) (by simpa using r) (λi v u j h=>s (i+1) v u j h) d.2 n E g.rm g.lim;refine⟨p,F,a++c,g.trans e,?_,jr (e.lt q) C,a,c,b,bs.sum+1,rfl,A _ _ _ _ _ e.get y,D,by simp;omega⟩;rw [kC,e.o8 q,w,B,z,← aiS,List.take_append_drop]
theorem Qy {n:Nat}{row:Nat->List Value}{S:Mem->Nat->List d9->Prop}(q:∀m m' i vs,(∀i b,m.get i=some b->m'.get i=some b)->S m i vs->S m' i vs)
  (h:∀i,i<n->∀ι m,RM P G ι m hp->m.lim=m.nx->Gets P G hp ι m (row i) (λm' vs=>S m' i vs)):∀c,c<=n->∀ι m,RM P G ι m hp->m.lim=m.nx->
   ∃(ι':J9) (m':Mem) (rl:List (List d9)),Lifts P G hp ι m ι' m'∧rl.length=c∧∀i r,rl[i]?=some r->u6 ι' r=row i∧aU (m'.nm ι') r∧S m' i r:=by
 intro c;induction c with
 | zero=>intro _ ι m g f;exact⟨ι,m,[],Lifts.refl g f,rfl,λi r a=>by simp at a⟩
 | succ c ih=>
  intro A ι m g f;obtain⟨j,v,rl,e,o,p⟩:=ih (by omega) ι m g f;obtain⟨k,w,r,d,s,t,u⟩:=h c (by omega) j v e.rm e.lim;refine⟨k,w,rl ++ [r],e.trans d,by simp [o],λi z a=>?_⟩;by_cases hi:i<rl.length;rw [Z9 hi] at a;obtain⟨x,l,y⟩:=p i z a;exact⟨by rw [d.o8 l,x],d.lt l,q _ _ _ _ d.get y⟩;rw [aaL (by omega)] at a;have:i-rl.length=0:=by have:=(J2.1 a).1;simp at this;omega
  rw [this] at a;simp at a;subst a;obtain rfl:i=c:=by omega
  exact⟨s,t,u⟩
theorem KS {mu:DataW H->Nat}(j:∀e s,((e.map mu).sum+1<=mu (.slice e s))){t e:TypeId}{n:Nat}{cs:List Value}{x:DataW H×List MemPlace}(m:P.underlying t=some (.slice e))(h:DataW.trod enc P w 0 (λ_=>true) held (n+1) t cs=some x):
  cs=[.slice none 0 0]∨∃(a:Addr) (len cap:Nat) (bs:Nat->Nat),cs=[.slice (some a) len cap]∧len<=cap∧cap<=maxLen∧Ux bs 0 len+1<=mu x.1∧
   ∀i,i<cap->∃row d,w.cells? 0 (a.add (i*P.cellsOf e)) (P.cellsOf e)=some row∧DataW.trod enc P w 0 (λ_=>true) held n e row=some d∧(i<len->mu d.1=bs i):=by
 rcases DataW.trod_slice m h with⟨h0,_⟩ | ⟨a,len,cap,elems,rest,n',hn,rfl,rfl,_,hl,hm,hlen,hel,hsp,_⟩;exact .inl h0;obtain rfl:n'=n:=by omega
 obtain⟨q,k⟩:=hsp rfl;have b:∀(o:Option (List Value)) (d:DataW H×List MemPlace),o.bind (DataW.trod enc P w 0 (λ_=>true) held n' e)=some d->∃row,o=some row∧DataW.trod enc P w 0 (λ_=>true) held n' e row=some d:=λo d h=>by obtain⟨row,c,l⟩:=acX.1 h;exact⟨row,c,l⟩
 refine .inr ⟨a,len,cap,λi=>((elems[i]?).map λd=>mu d.1).getD 0,rfl,hl,hm,?_,λi p=>?_⟩;have:=NY (λd:DataW H×List MemPlace=>mu d.1) (λi=>((elems[i]?).map λd=>mu d.1).getD 0) elems 0 (λi h=>by simp [h]);rw [hlen] at this;rw [this];have:=j (elems.map (·.1)) (rest.map (·.1));rw [ahk] at this;exact this;by_cases c:i<len;have:=hel i c;rw [J3 (by omega)] at this;obtain⟨row,f,g⟩:=b _ _ this;exact⟨row,_,f,g,λ_=>by simp [J3 (show i<elems.length by omega)]⟩;have:=k (i-len) (by omega);rw [J3 (by omega),show len+(i-len)=i from by omega] at this;obtain⟨row,f,g⟩:=b _ _ this;exact⟨row,_,f,g,λh=>absurd h c⟩
theorem aiA {mu:DataW H->Nat}(ac:∀e s,((e.map mu).sum+1<=mu (.slice e s)))(aa:∀p,(p.map mu).sum+1<=mu (.agg p))(ab:∀b,b.length+1<=mu (.lit (.string b))){S:List TypeId}(hS:Xj P S=true):∀(n:Nat) (t:TypeId) (cs:List Value) (x:DataW H×List MemPlace),DataW.trod enc P w 0 (λ_=>true) held n t cs=some x->S.contains t=true->
  ∀ι m,RM P G ι m w.heap->m.lim=m.nx->Gets P G w.heap ι m cs (λm' vs=>je P m' n t (mu x.1) vs):=by
 intro n;induction n with
 | zero=>intro t cs x z;simp [DataW.trod] at z
 | succ k ih=>
  intro t cs x z hp ι m J y;have hp:=aaX.1 hS t (List.elem_iff.1 hp);have A:∀vs:List d9,u6 ι vs=cs->aU (m.nm ι) vs->je P m (k+1) t (mu x.1) vs->Gets P G w.heap ι m cs (λm' vs=>je P m' (k+1) t (mu x.1) vs):=λvs X h2 h3=>⟨ι,m,vs,Lifts.refl J y,X,h2,h3⟩;split at hp;rename_i q;obtain⟨b,rfl,_⟩:=DataW.trod_bool q z;exact A [.bool b] rfl ⟨trivial,trivial⟩ (by unfold je;rw [q];exact⟨b,rfl⟩);rename_i ik q;obtain⟨i,rfl,_,hw⟩:=DataW.trod_int q z;exact A [.int ik i] rfl ⟨trivial,trivial⟩ (by unfold je;rw [q];exact⟨i,rfl,hw⟩);rename_i q;obtain⟨s,rfl,rfl,_⟩:=DataW.trod_string q z;have ad:=ab s.data.toList;exact A [.str s.data.toList] (by simp [u6,o8]) ⟨trivial,trivial⟩ (by unfold je;rw [q];exact⟨s.data.toList,rfl,ad⟩);rename_i e q;simp only [Hl] at hp;have C:0<P.cellsOf e:=Y4.mp hp.2;rcases KS ac q z with rfl | ⟨a,len,mm,bs,rfl,D,hcap,hsum,hel⟩;exact A [.nilSlice] rfl ⟨trivial,trivial⟩ (by unfold je;rw [q];exact .inl rfl);by_cases h0:mm=0;subst h0;have D:len=0:=by omega
  subst D;have L:=Lifts.push (b:=.dead) (l:=⟨a.block,a.off,0,a.spot⟩) J y rfl (by intro h;cases h) trivial;refine⟨_,_,[.slice m.nx 0 0 0],L,?_,⟨⟨.dead,by rw [Mem.vE,Mem.L9 J.ok,if_pos rfl],rfl⟩,trivial⟩,?_⟩;simp [u6,o8,J9.at];unfold je;rw [q];exact .inr ⟨m.nx,0,0,rfl,q9 _,.inl ⟨rfl,by rw [Mem.vE,Mem.L9 J.ok,if_pos rfl]⟩⟩;obtain⟨row,R⟩:=Deep.choose_lt hel;obtain⟨B,F,U,V,g2,g3⟩:=Qy (n:=mm) (row:=row) (S:=λm' i vs=>i<len->je P m' k e (bs i) vs) (λm m' i vs h hs y=>Bj h k e (bs i) vs (hs y))
   (λi o ι m J y=>by
    obtain⟨d,_,hd,hb⟩:=R i o;obtain⟨ag,m9,ae,K,M,I,Y⟩:=ih e (row i) d hd hp.1 ι m J y;exact⟨ag,m9,ae,K,M,I,λy=>hb y▸Y⟩) mm (q9 _) ι m J y
  have g:∀i j,i<mm->j<P.cellsOf e->w.cell? ((a.add (i*P.cellsOf e)).add j)=(row i)[j]?∧(row i).length=P.cellsOf e:=λi j o Q=>by obtain⟨d,q0,_,_⟩:=R i o;obtain⟨_,M,I⟩:=World.cells?_some q0;exact⟨I j Q,M⟩
  have u:∀i j,i<mm->j<P.cellsOf e->∃v,(row i)[j]?=some v:=λi j o Q=>⟨_,J3 (by rw [(g i j o Q).2];exact Q)⟩;have E:a.spot=none:=by
   obtain⟨v,W⟩:=u 0 0 (by omega) C;have:=(g 0 0 (by omega) C).1;rw [W] at this;unfold World.cell? at this;split at this;split at this;cases this;rename_i hn;simp only [ad4,Addr.add,if_true] at hn;cases hs:a.spot with
   | none=>rfl
   | some s=>rw [hs] at hn;simp at hn
   cases this
  obtain⟨c,Z,fz,hc⟩:∃c Z fz,w.heap[a.block]?=some (.cells c Z fz):=by obtain⟨v,W⟩:=u 0 0 (by omega) C;have:=(g 0 0 (by omega) C).1;rw [W] at this;unfold World.cell? at this;split at this;rename_i c Z fz hh;simp only [ad4,Addr.add,if_true] at hh;exact⟨c,Z,fz,hh⟩;cases this
  have a0:∀i j,(a.add (i*P.cellsOf e)).add j=⟨a.block,a.off+(i*P.cellsOf e+j),none⟩:=λi j=>by rw [Deep.add_add];unfold Addr.add;split;rename_i h;rw [h,Y1,← E];rfl
  have a1:∀i j,i<mm->j<P.cellsOf e->c[a.off+(i*P.cellsOf e+j)]?=(row i)[j]?:=λi j o Q=>by have:=(g i j o Q).1;rw [a0] at this;simpa [World.cell?,hc] using this
  have N:a.off+mm*P.cellsOf e<=c.size:=by
   obtain⟨v,W⟩:=u (mm-1) (P.cellsOf e-1) (by omega) (by omega);have:=a1 (mm-1) (P.cellsOf e-1) (by omega) (by omega);rw [W] at this;have X:=(U9.1 this).1;have h2:(mm-1)*P.cellsOf e+P.cellsOf e=mm*P.cellsOf e:=by rw [← adf];congr 1;omega
   omega
  have a6:∀i,i<mm->∃r,U[i]?=some r∧u6 B r=row i∧aU (F.nm B) r∧(i<len->je P F k e (bs i) r)∧r.length=P.cellsOf e:=λi o=>by have hh:U[i]?=some U[i]:=J3 (by omega);obtain⟨K,M,I⟩:=g3 i _ hh;refine⟨_,hh,K,M,I,?_⟩;have:=congrArg List.length K;rw [V5] at this;rw [this,(g i 0 o C).2]
  have a5:∀i x,F.get i=some x->i≠F.nx:=λi x z e=>by have:=Mem.J5 V.rm.ok z;omega
  have O:∀j,F.has j->(B.upd F.nx ⟨a.block,a.off,mm*P.cellsOf e,none⟩) j=B j:=λj ⟨x,z,_⟩=>B.upd_ne _ (a5 j x z);have a2:∀i,F.has i->(F.new (.cells (P.cellsOf e) mm (T.ofList U))).has i:=λi ⟨x,z,W⟩=>⟨x,by rw [Mem.L9 V.rm.ok,if_neg (a5 i x z)];exact z,W⟩;have L:=Lifts.push (b:=.cells (P.cellsOf e) mm (T.ofList U)) (l:=⟨a.block,a.off,mm*P.cellsOf e,none⟩) V.rm V.lim rfl (λ_=>rfl)
   ⟨c,Z,fz,hc,N,⟨q9 _,U.length,by omega,T.gG U,xS λX=>by
    rw [T.aD];exact agj (by omega)⟩,λi o=>by
    obtain⟨r,K,M,I,Y,q5⟩:=a6 i o;refine⟨r,by rw [T.aD];exact K,q5,dJ (Mem.aB a2 O) r I,λj Q=>?_⟩;show c[a.off+(i*P.cellsOf e+j)]?=_;rw [a1 i j o Q,← M,aL];cases hr:r[j]? with
    | none=>rfl
    | some v=>simp [R4 (n:=F.nm B) O v (cB.1 I v (Y2 hr))]⟩
  refine⟨_,_,[.slice F.nx 0 len mm],V.trans L,?_,⟨⟨_,by rw [Mem.vE,Mem.L9 V.rm.ok,if_pos rfl],rfl⟩,trivial⟩,?_⟩;simp only [u6,o8];rw [J9.yX (by rw [J9.Z0]),J9.Z0];simp only [Y1];rw [← E];unfold je;rw [q];refine .inr ⟨F.nx,len,mm,rfl,D,.inr ⟨T.ofList U,bs,by omega,by rw [Mem.vE,Mem.L9 V.rm.ok,if_pos rfl],hsum,λi o=>?_⟩⟩;obtain⟨r,K,M,I,Y,q5⟩:=a6 i o;exact⟨r,by rw [T.aD];exact K,q5,λy=>Bj L.get k e (bs i) r (Y y)⟩;rename_i fs q;simp only [Hl,aaX] at hp;obtain⟨xs,n',hn,rfl,a8,a7,hf⟩:=DataW.trod_struct q z;obtain rfl:n'=k:=by omega
  have:=KR (P:=P) (G:=G) (hp:=w.heap) (cs:=cs) (S:=λm' t b vs=>je P m' n' t b vs) (λm m' t b vs h hs=>Bj h n' t b vs hs) fs.toList (xs.map λd=>mu d.1) 0 (by simp [a7])
   (λi f b o hb ι m J y=>by
    have a9:=Y2 o;have a3:fs[i]?=some f:=(by simpa using o);have X:=hf i f a3;have a4:i<xs.length:=(by rw [a7];exact (U9.1 a3).1);rw [J3 a4] at X;rw [aaM,J3 a4] at hb;cases hb;exact ih f.type _ _ X (hp.1 f a9) ι m J y) (by rw [a8];exact hp.2) ι m J y
  obtain⟨af,m',vs,K,M,I,Y⟩:=this;refine⟨af,m',vs,K,by simpa using M,I,?_⟩;unfold je;rw [q];have hg:=aa (xs.map (·.1));rw [ahk] at hg;exact Uy hg _ Y;cases hp
end
def KT (P:Program)(slots:List Nat)(ops:Array Oper):Option U8:=
 match jV P slots ops [] (canon (Eh ops) (masks ops.toList) ops.size) with
 | none=>none
 | some insts=>some (.dreg (Ke insts) (numbered (masks ops.toList) ((canon (Eh ops) (masks ops.toList) ops.size).zip insts) [] 0))
theorem Je {P:Program}{a:List Nat}{ops:Array Oper}{c:U8}(h:yU P a ops=some c):KT P a ops=some c:=by unfold yU at h;unfold KT;split at h;cases h;rename_i b d;rw [d];split at h;exact h;cases h
def KU (P:Program)(slots:List Nat)(ops:Array Oper):Option U8:=
 match KT P slots (ops.extract 0 (ops.size-3)) with
 | some (.dreg n l)=>Dr (pX P slots [] ops (ops.size-3)) (pX P slots [(ops[ops.size-3]?).bind (·.dst)] ops (ops.size-2)) (pX P slots [] ops (ops.size-1)) n l
 | _=>none
theorem Qz {P:Program}{a:List Nat}{ops:Array Oper}{c:U8}(h:Ei P a ops=some c):KU P a ops=some c:=by unfold Ei at h;unfold KU;split at h;rename_i n l b;rw [Je b];split at h;exact h;cases h;cases h
def iR (P:Program)(slots:List Nat):Code->Option U8
 | .skip=>some .skip
 | .region _ ops false=>match jV P slots ops [] (List.range ops.size) with
  | some l=>some (.reg l)
  | none=>none
 | .region _ ops true=>if splits ops then KU P slots ops else KT P slots ops
 | .seq a b=>match iR P slots a,iR P slots b with
  | some x,some y=>some (.seq x y)
  | _,_=>none
 | .cond c a b=>match N7 P slots [] c,iR P slots a,iR P slots b with
  | some z,some x,some y=>some (.cond z x y)
  | _,_,_=>none
 | .block id a=>match iR P slots a with
  | some x=>some (.block id x)
  | none=>none
 | .loop a=>match iR P slots a with
  | some x=>some (.loop x)
  | none=>none
 | .exit id=>some (.exit id)
 | .ret=>some .ret
 | .rangeFunc f ps a b=>match N7 P slots [] f,iR P slots a,iR P slots b with
  | some z,some x,some y=>some (.rangeFunc z (ps.toList.map λt=>idxOf t slots 0) x y)
  | _,_,_=>none
 | .refuse _=>some (.reg [⟨.e .bad,none,none⟩])
 | _=>none
theorem iL {P:Program}{slots:List Nat}:∀(k:Code) {c:U8},R6 P slots k=some c->iR P slots k=some c
 | .skip,_,h=>h
 | .region _ _ false,_,h=>h
 | .region _ ops true,_,h=>by unfold R6 at h;unfold iR;split at h;rename_i hs;rw [if_pos hs];exact Qz h;rename_i hs;rw [if_neg hs];exact Je h
 | .seq a b,c,h=>by unfold R6 at h;split at h;rename_i x y hx hy;unfold iR;rw [iL a hx,iL b hy];exact h;cases h
 | .cond z a b,c,h=>by unfold R6 at h;split at h;rename_i w x y hw hx hy;unfold iR;rw [hw,iL a hx,iL b hy];exact h;cases h
 | .block _ a,c,h=>by unfold R6 at h;split at h;rename_i x hx;unfold iR;rw [iL a hx];exact h;cases h
 | .loop a,c,h=>by unfold R6 at h;split at h;rename_i x hx;unfold iR;rw [iL a hx];exact h;cases h
 | .rangeFunc z _ a b,c,h=>by unfold R6 at h;split at h;rename_i w x y hw hx hy;unfold iR;rw [hw,iL a hx,iL b hy];exact h;cases h
 | .exit _,_,h=>h
 | .ret,_,h=>h
 | .scope _,_,h=>by cases h
 | .label _,_,h=>by cases h
 | .goto _,_,h=>by cases h
 | .refuse _,_,h=>h
def aeu (P:Program)(slots:List Nat)(f:FuncId):Option AFn:=
 match P.funcs[f]? with
 | none=>none
 | some fn=>match fn.body with
  | none=>none
  | some c=>match iR P slots c,CZ P slots fn.results.toList with
   | some b,some r=>some ⟨fn.params.size+fn.nfree,(List.range (fn.params.size+fn.nfree)).map λt=>idxOf t slots 0,slots.length,r,b⟩
   | _,_=>none
theorem aap {P:Program}{d:List Nat}{f:FuncId}{a:AFn}(h:PE P d f=some a):aeu P d f=some a:=by unfold PE at h;unfold aeu;split at h;cases h;rename_i k i;rw [i];split at h;cases h;rename_i c g;simp only [g];split at h;rename_i b r e j;rw [iL _ e,j];split at h;exact h;cases h;cases h
def cT (P:Program)(slots:List Nat)(pure rc:Bool)(f:FuncId):R5:=Un pure rc ((aeu P slots f).getD ⟨0,[],0,[],.skip⟩)
theorem fP {P:Program}{b:List Nat}{f:FuncId}{c d:Bool}(h:(PE P b f).isSome=true):qF P f (cT P b c d f):=by
 obtain⟨a,e⟩:=aj2.1 h;have:cT P b c d f=Un c d a:=by unfold cT;rw [aap e];rfl
 rw [this];exact RV e c d
def Sd (ops:Array Oper)(done:List (Option Nat))(i:Nat):List Nat:=
 match ops[i]? with
 | none=>[]
 | some o=>o.op.operands.toList.filterMap fun
  | .tmp t=>match iQ t done 0 with
   | none=>some t
   | some _=>none
  | _=>none
def Xk (ops:Array Oper):List Nat->List (Option Nat)->List Nat
 | [],_=>[]
 | i::l,done=>Sd ops done i++Xk ops l (((ops[i]?).bind (·.dst))::done)
def aiB:Operand->List Nat
 | .tmp t=>[t]
 | _=>[]
def zP:Code->List Nat
 | .region _ ops false=>Xk ops (List.range ops.size) []
 | .region _ ops true=>Xk ops (canon (Eh ops) (masks ops.toList) ops.size) []++(if splits ops then Sd ops [] (ops.size-3)++(Sd ops [(ops[ops.size-3]?).bind (·.dst)] (ops.size-2)++Sd ops [] (ops.size-1)) else [])
 | .seq a b=>zP a++zP b
 | .cond c a b=>aiB c++(zP a++zP b)
 | .block _ b=>zP b
 | .loop b=>zP b
 | .rangeFunc f _ a b=>aiB f++(zP a++zP b)
 | _=>[]
def aiC (x:Nat):List Nat->Bool
 | []=>false
 | y::l=>bif Nat.beq x y then true else aiC x l
def aev:List Nat->List Nat->List Nat
 | [],acc=>acc.reverse
 | x::l,acc=>bif aiC x acc then aev l acc else aev l (x::acc)
def aew:List ResultVar->List Nat
 | []=>[]
 | .tmp t::l=>t::aew l
 | .cell t _::l=>t::aew l
def vG (P:Program)(f:FuncId):List Nat:=match P.funcs[f]? with
 | none=>[]
 | some fn=>match fn.body with
  | none=>[]
  | some c=>aev (zP c++aew fn.results.toList) []
def fnQ (P:Program)(M PM RM:Nat)(f:FuncId):Option R5:=bif Nat.testBit M f then some (cT P (vG P f) (Nat.testBit PM f) (Nat.testBit RM f) f) else none
def NZ (P:Program)(M a n:Nat):Bool:=Nat.rec true (λi ih=>bif bif Nat.testBit M (a+i) then (PE P (vG P (a+i)) (a+i)).isSome else true then ih else false) n
theorem wo {P:Program}{M a:Nat}:∀{n:Nat},NZ P M a n=true->∀i,i<n->Nat.testBit M (a+i)=true->(PE P (vG P (a+i)) (a+i)).isSome=true:=by
 intro n;induction n with
 | zero=>intro _ i c;omega
 | succ n ih=>
  intro h i c b;have h:(bif (bif Nat.testBit M (a+n) then (PE P (vG P (a+n)) (a+n)).isSome else true) then NZ P M a n else false)=true:=h;cases h1:(bif Nat.testBit M (a+n) then (PE P (vG P (a+n)) (a+n)).isSome else true) with
  | false=>rw [h1] at h;cases h
  | true=>rw [h1] at h;by_cases hn:i=n;subst hn;rw [b] at h1;exact h1;exact ih h i (by omega) b
def orQ (o:Option (Option R5))(q:Option R5):Option R5:=Option.rec q (λx=>Option.rec q (λy=>some y) x) o
theorem aex {P:Program}{t:T (Option R5)}{M a b:Nat}(e:TOk P (λi=>i) t)(d:∀f,Nat.testBit M f=true->(PE P (vG P f) f).isSome=true):∀f sf,orQ (t.get f) (fnQ P M a b f)=some sf->qF P f sf:=by
 intro f sf h;have c:fnQ P M a b f=some sf->qF P f sf:=λh=>by
  unfold fnQ at h;cases hb:Nat.testBit M f with
  | false=>rw [hb] at h;cases h
  | true=>rw [hb] at h;cases h;exact fP (d f hb)
 cases ho:t.get f with
 | none=>rw [ho] at h;exact c h
 | some x=>
  rw [ho] at h;cases x with
  | none=>exact c h
  | some y=>cases h;exact e f _ ho
structure Weak (m1 m2:Mem):Prop where
 nx:m2.nx=m1.nx
 lim:m2.lim=m1.lim
 ok:T.Ok m2.t m2.nx
 old:∀i,i<m1.lim->m2.get i=m1.get i
 blk:∀i b,m2.get i=some b->∃b1,m1.get i=some b1∧(b=b1∨(b=.dead∧cO b1=false)∨
  ∃es es1,(b1=.map es1∨b1=.mapU es1)∧b=.mapU es∧es.Perm es1∧(∀e∈es,∃s,e.1=.str s)∧(es.map (·.1)).Nodup)
theorem Weak.void {m1 c:Mem}(h:Weak m1 c){i:Nat}{b b1:P8}(j:c.get i=some b)(f:m1.get i=some b1):cO b=cO b1:=by obtain⟨d,a,e⟩:=h.blk i b j;rw [f] at a;cases a;rcases e with rfl | ⟨rfl,g⟩ | ⟨es,es1,rfl | rfl,rfl,_⟩;rfl;rw [g];rfl;rfl;rfl
theorem Weak.live {m1 c:Mem}(h:Weak m1 c){i:Nat}{b:P8}(f:c.get i=some b)(a:U7 b=true):∃b1,m1.get i=some b1∧U7 b1=true:=by obtain⟨b1,d,e⟩:=h.blk i b f;refine⟨b1,d,?_⟩;rcases e with rfl | ⟨rfl,g⟩ | ⟨es,es1,rfl | rfl,rfl,_⟩;exact a;cases a;rfl;rfl
theorem Weak.get {m1 d:Mem}(h:Weak m1 d)(a:T.Ok m1.t m1.nx){i:Nat}{c:P8}(e:m1.get i=some c):∃b,d.get i=some b:=
 (h.ok.get i).2 (by rw [h.nx];exact (a.get i).1 ⟨c,e⟩)
theorem Weak.has {m1 f:Mem}(h:Weak m1 f)(c:T.Ok m1.t m1.nx)(i:Nat):f.has i↔m1.has i:=by constructor;rintro⟨b,a,hv⟩;obtain⟨d,e,_⟩:=h.blk i b a;exact⟨d,e,by rw [← h.void a e];exact hv⟩;rintro⟨d,h1,hv⟩;obtain⟨b,a⟩:=h.get c h1;exact⟨b,a,by rw [h.void a h1];exact hv⟩
theorem Weak.nm {m1 b:Mem}(h:Weak m1 b)(a:T.Ok m1.t m1.nx)(ι:J9):b.nm ι=m1.nm ι:=by unfold Mem.nm;congr 1;funext i;exact propext (h.has a i)
theorem xB (ι:J9):∀(es:List (d9×d9)) (i:Nat),(I9 ι es i).map (λx=>(x.key,x.val))=es.map λe=>(o8 ι e.1,o8 ι e.2)
 | [],_=>rfl
 | e::es,i=>by simp [I9,xB ι es (i+1)]
section
variable {P:Program}{G:Mem}{ι:J9}
theorem Weak.rm {m1 t:Mem}{h:Array Obj}(k:Weak m1 t)(a:RM P G ι m1 h):RM P G ι t h where
 ok:=k.ok
 blk i b hb:=by rw [k.nm a.ok];obtain⟨c,d,f⟩:=k.blk i b hb;have l:=a.blk i c d;rcases f with rfl | ⟨rfl,_⟩ | ⟨es,es1,hb1,rfl,hp,hs,hn⟩;exact l;trivial;have g:(es1.map λe=>(o8 ι e.1,o8 ι e.2)).Perm (es.map λe=>(o8 ι e.1,o8 ι e.2)):=(hp.map _).symm;rcases hb1 with rfl | rfl;exact⟨I9 ι es1 0,es1.length,l.1,⟨by rw [xB];exact g,hs,hn⟩,λe q=>l.2 e (hp.subset q)⟩;obtain⟨L,x,u,v,w⟩:=l;exact⟨L,x,u,⟨v.1.trans g,hs,hn⟩,λe q=>w e (hp.subset q)⟩
 own i b hi hb hl:=by
  obtain⟨c,d,f⟩:=k.live hb hl;obtain⟨y,z⟩:=a.own i c (by rw [← k.lim];exact hi) d f;exact⟨λj A s p r=>by
   obtain⟨m,n,o⟩:=k.live p r;exact y j m s n o,z⟩
 glim:=by rw [k.lim];exact a.glim
 limn:=by rw [k.lim,k.nx];exact a.limn
 gle:=a.gle
 base i hi:=(k.old i (gq hi a.glim)).trans (a.base i hi)
 ghas i hi:=(k.has a.ok i).2 (a.ghas i hi)
 glob:=a.glob
 spot i b hb hl:=by obtain⟨c,d,f⟩:=k.live hb hl;exact a.spot i c d f
 gsz:=a.gsz
theorem Step.weak {ι':J9}{m m1 a:Mem}{w w':World}(h:Step P G ι m w ι' m1 w')(k:Weak m1 a):Step P G ι m w ι' a w' where
 rm:=k.rm h.rm
 ext:=h.ext
 has i hi:=(k.has h.rm.ok i).2 (h.has i hi)
 nx:=by rw [k.nx];exact h.nx
 lim:=k.lim.trans h.lim
 old i hi:=(k.old i (by rw [h.lim];exact hi)).trans (h.old i hi)
 size:=h.size
 frame:=h.frame
 own b:=by rintro⟨i,x,h1,h2,h3,h4⟩;obtain⟨c,d,e⟩:=k.live h2 h3;exact h.own b ⟨i,c,by rw [← k.lim];exact h1,d,e,h4⟩
 os:=h.os
 out:=h.out
 tape:=h.tape
theorem Q8.weak {m:Mem}{w w':World}{a b:List VM}{e:Ending}(h:Q8 P G ι m w a e w')(k:∀o∈a,∃o'∈b,o'.v=o.v∧Weak o.m o'.m):Q8 P G ι m w b e w':=by rcases h with⟨v,he,r,hr,ι',hst,hlt,hv⟩ | ⟨r,hr,x,ι',hx,hst,hlt,he⟩;obtain⟨o',f,d,c⟩:=k r hr;exact .inl ⟨v,he,o',f,ι',hst.weak c,by rw [d,c.nm hst.rm.ok];exact hlt,by rw [d];exact hv⟩;obtain⟨o',f,d,c⟩:=k r hr;exact .inr ⟨o',f,x,ι',d.trans hx,hst.weak c,by rw [c.nm hst.rm.ok];exact hlt,he⟩
theorem QA {K:Known}(j:WZ P K){c n:Nat}{f:FuncId}{args:List d9}{m:Mem}{a b:List VM}(h:l7 K c n (.func f) args m=some a)
  (k:∀o∈a,∃o'∈b,o'.v=o.v∧Weak o.m o'.m):
  AV P f∧∀{ι:J9} {w:World},RM P K.base ι m w.heap->aU (m.nm ι) args->CallsIn Fence.wide 0 P f (u6 ι args).toArray w (Q8 P K.base ι m w b):=by
 obtain⟨g,i⟩:=(Bh j c n).func h;exact⟨g,λp d=>(i p d).mono λe q l=>l.weak k⟩
theorem vH {K:Known}(b:WZ P K){f:FuncId}{sf:R5}(e:K.fns f=some sf){args:List d9}{m:Mem}{a:List VM}
  (h:T.Ok m.t m.nx->m.lim<=m.nx->∃fuel n outs1,l7 K fuel n (.func f) args m=some outs1∧∀o∈outs1,∃o'∈a,o'.v=o.v∧Weak o.m o'.m):
  AV P f∧∀{ι:J9} {w:World},RM P K.base ι m w.heap->aU (m.nm ι) args->CallsIn Fence.wide 0 P f (u6 ι args).toArray w (Q8 P K.base ι m w a):=by
 refine⟨(b.fns f sf e).ok,λ{ι w} hm hargs=>?_⟩;obtain⟨fuel,n,outs1,c,d⟩:=h hm.ok hm.limn;exact (QA b c d).2 hm hargs
end
theorem Oa {α β:Type}{f:α->Option (List β)}{g:β->Prop}:∀{l:List α},(∀r∈l,∃os,f r=some os∧∀o∈os,g o)->∃outs,Ed f l=some outs∧∀o∈outs,g o
 | [],_=>⟨[],rfl,λo ho=>by cases ho⟩
 | a::l,h=>by obtain⟨os,h1,h2⟩:=h a (ady ..);obtain⟨outs,h3,h4⟩:=Oa (l:=l) λr hr=>h r (Z7 _ hr);refine⟨os++outs,by rw [xZ,h1,h3];rfl,λo ho=>?_⟩;rcases aaD.1 ho with ho | ho;exact h2 o ho;exact h4 o ho
theorem aey {α β:Type}{l:List α}{f:α->Option (List β)}{g:β->Prop}(h:∀r∈l,∃os,f r=some os∧∀o∈os,g o):∃outs,bnd (some l) f=some outs∧∀o∈outs,g o:=by
 match l,h with
 | [],_=>exact⟨[],rfl,λo c=>by cases c⟩
 | [a],h=>exact h a (aP.2 rfl)
 | a::b::t,h=>exact Oa (l:=a::b::t) h
theorem bW {α β:Type}{x:Option (List α)}{f:α->Option (List β)}{g1:α->Prop}{g:β->Prop}(c:∃l,x=some l∧∀r∈l,g1 r)(h:∀r,g1 r->∃os,f r=some os∧∀o∈os,g o):∃outs,bnd x f=some outs∧∀o∈outs,g o:=by obtain⟨l,rfl,a⟩:=c;exact aey λr b=>h r (a r b)
def aK (n:Nat)(m:Mem):Mem:=Nat.rec (λm=>m) (λ_ ih m=>ih (m.new .dead)) n m
def KV (k:d9)(l:List (d9×d9)):Bool:=match k with
 | .str s=>List.rec true (λe _ ih=>match e.1 with
  | .str t=>bi (strEq s t) false ih
  | _=>false) l
 | _=>false
def strKeys (l:List (d9×d9)):Bool:=List.rec true (λe t ih=>bi (KV e.1 t) ih false) l
def Fy (l:List (d9×d9)):Bool:=List.rec true (λe _ ih=>match e.2 with
 | .agg [a,b]=>bi (u7 a) (bi (u7 b) ih false) false
 | _=>false) l
def wu (args:List d9)(m:Mem):gN:=match args with
 | [.map d,.map s]=>bi (Nat.blt d m.lim) none (bi (Nat.beq d s) none (Pf (m.get s) λes=>CJ (m.get d) λds=>
   bi (strKeys (aC ds es)) (bi (Fy es) (bi (Nat.blt (len' es) 100000) (one (.tuple []) ((aK (Nat.succ (len' es)) m).set d (.mapU (aC ds es)))) none) none) none))
 | _=>none
def aQ:List (Int×Int×List UInt8×Int):=
 [(5,3,[42],6),(5,3,[47],7),(5,3,[37],8),(4,3,[43],9),(4,3,[45],10),(3,3,[60],11),(3,3,[60,61],12),(3,3,[62],13),(3,3,[62,61],14),(3,3,[61,61],15),(3,3,[33,61],16),
  (1,1,[97,110,100],17),(0,1,[111,114],18)]
def KX (lv k:Int)(s:List UInt8):Option Int:=List.rec none (λe _ ih=>bi (bU e.1 lv) (bi (bU e.2.1 k) (bi (strEq e.2.2.1 s) (some e.2.2.2) ih) ih) ih) aQ
def nN (args:List d9)(m:Mem):gN:=match args with
 | [.ptr r off,.int .i64 lv]=>U1 (m.get r) λrs n rows=>ob (cell1 rs n rows off) λv=>ob (lenOf v) λlen=>Nat.rec (rO v (one (.int .i64 0) (aK 2 m)) (λ_ _ _ _=>one (.int .i64 0) (aK 2 m)) (λ_ _ _ _=>one (.int .i64 0) (aK 2 m))) (λ_ _=>rO v none (λid o _ _=>tok id o v r off lv) (λid o _ _=>tok id o v r off lv)) len
 | _=>none
where
 tok (id o:Nat) (v:d9) (r off:Nat) (lv:Int):gN:=U1 (m.get id) λrs n rows=>ob (jQ rs n rows o 2) λl=>match l with
  | [.int .i64 k,.str s]=>Option.rec (one (.int .i64 0) (aK 2 m)) (λkd=>ob (M9 (aK 2 m).nx 2 v 1 none) λp=>storeAt (dH (aK 2 m) p.2) r off [p.1] λm'=>one (.int .i64 kd) m') (KX lv k s)
  | _=>none
def acV (t:List UInt8):List UInt8->Bool:=List.rec (λ_=>true) (λb _ ih s=>List.rec false (λc cs _=>bi (Nat.beq b.toNat c.toNat) (ih cs) false) s) t
def isIn (t s:List UInt8):Bool:=List.rec (acV t []) (λb l ih=>bi (acV t (b::l)) true ih) s
def iM (sep:List UInt8)(l:List (List UInt8)):List UInt8:=List.rec [] (λs t ih=>List.rec s (λ_ _ _=>aC s (aC sep ih)) t) l
def Bl (l:List (List d9)):Option (List (List UInt8)):=List.rec (some []) (λr _ ih=>match r with
 | [.str s]=>ob ih λt=>some (s::t)
 | _=>none) l
def aaq (c:UInt8)(s:List UInt8):Bool:=List.rec false (λb _ ih=>bi (Nat.beq b.toNat c.toNat) true ih) s
def Fz (c:UInt8)(s:List UInt8):Int:=List.rec (Int.negSucc 0) (λb _ ih=>bi (Nat.beq b.toNat c.toNat) 0 (bi (bU ih (Int.negSucc 0)) (Int.negSucc 0) (ih+1))) s
def FB (c:UInt8)(s:List UInt8):Nat:=List.rec 0 (λb _ ih=>bi (Nat.beq b.toNat c.toNat) (Nat.succ ih) ih) s
def aez (fi fn fj nx:Nat)(f:FuncId)(args:List d9)(bs:List NB):Option CX:=
 bi (Nat.beq f fi) (match args,bs with
  | [.str s,.str [c]],[]=>bi (Nat.blt (len' s) 1000000) (some ⟨.int .i64 (Fz c s),[]⟩) none
  | _,_=>none)
 (bi (Nat.beq f fn) (match args,bs with
  | [.str s,.str [c]],[]=>bi (Nat.blt (len' s) 1000000) (some ⟨.int .i64 (.ofNat (FB c s)),[]⟩) none
  | _,_=>none)
 (bi (Nat.beq f fj) (match args,bs with
  | [v,.str sep],[.cells 1 rows]=>rO v none
    (λid off n c=>bi (Nat.beq id nx) (bi (Nat.ble n c) (bi (Nat.blt n 1000000) (ob (takeN n (lW off rows)) λl=>ob (Bl l) λws=>bi (Nat.blt (len' (iM sep ws)) 1000000) (some ⟨.str (iM sep ws),[]⟩) none) none) none) none)
    (λid off n _=>bi (Nat.beq id nx) (bi (Nat.blt n 1000000) (ob (takeN n (lW off rows)) λl=>ob (Bl l) λws=>bi (Nat.blt (len' (iM sep ws)) 1000000) (some ⟨.str (iM sep ws),[]⟩) none) none) none)
  | [.nilSlice,.str _],[]=>some ⟨.str [],[]⟩
  | _,_=>none) none))
set_option maxRecDepth 100000
set_option maxHeartbeats 1000000
def left (seen:List Nat):List (d9×d9)->Nat->List (Nat×(d9×d9))
 | [],_=>[]
 | e::es,i=>if rX i seen=true then left seen es (i+1) else (i,e)::left seen es (i+1)
theorem Jf (n x:Nat)(l:List Nat):rX n (x::l)=bi (Nat.beq x n) true (rX n l):=rfl
theorem Uz (n:Nat)(l:List Nat):rX n (n::l)=true:=by rw [Jf,abB];rfl
theorem Dx {n x:Nat}(h:x≠n)(l:List Nat):rX n (x::l)=rX n l:=by
 rw [Jf,show Nat.beq x n=false from by
  cases hb:Nat.beq x n with
  | false=>rfl
  | true=>exact absurd (gI hb) h];rfl
theorem left_skip (j:Nat)(seen:List Nat):∀(es:List (d9×d9)) (k:Nat),j<k->left (j::seen) es k=left seen es k
 | [],_,_=>rfl
 | e::es,k,h=>by simp only [left];rw [Dx (by omega),left_skip j seen es (k+1) (by omega)]
theorem vI {seen:List Nat}:∀{es:List (d9×d9)} {i:Nat} {p:Nat×(d9×d9)},p∈left seen es i->i<=p.1∧es[p.1-i]?=some p.2∧rX p.1 seen=false
 | e::es,i,p,h=>by
  simp only [left] at h;have next:p∈left seen es (i+1)->i<=p.1∧(e::es)[p.1-i]?=some p.2∧rX p.1 seen=false:=λh=>by obtain⟨h1,h2,h3⟩:=vI h;refine⟨by omega,?_,h3⟩;rw [show p.1-i=(p.1-(i+1))+1 from by omega,adz];exact h2
  split at h;exact next h;rename_i hs;rcases Z5.1 h with rfl | h;exact⟨q9 _,by simp,by simpa using hs⟩;exact next h
theorem rz {seen:List Nat}:∀{es:List (d9×d9)} {i:Nat} {p:Nat×(d9×d9)},p∈left seen es i->(left seen es i).Perm (p::left (p.1::seen) es i)
 | e::es,i,p,h=>by
  have hm:=vI h;simp only [left] at h ⊢;by_cases hs:rX i seen=true;rw [if_pos hs] at h ⊢;have hne:p.1≠i:=λe=>by rw [e,hs] at hm;cases hm.2.2
  rw [Dx hne,if_pos hs];exact rz h
  ·rw [if_neg hs] at h ⊢;rcases Z5.1 h with rfl | h;rw [Uz,if_pos rfl,left_skip _ _ _ _ (akj _)]
   ·have:=(vI h).1;rw [Dx (by omega),if_neg hs];exact ((rz h).cons _).trans (List.Perm.swap ..)
theorem Ob (es:List (d9×d9)):∀i,(left [] es i).map (·.2)=es:=by
 induction es with
 | nil=>intro i;rfl
 | cons e es ih=>intro i;simp [left,ih,rX]
theorem FC (es:List (d9×d9)):∀i,(left [] es i).length=es.length:=λi=>by have:=congrArg List.length (Ob es i);simpa using this
theorem FD (m:Mem)(id mp since:Nat)(seen:List Nat):∀(es:List (d9×d9)) (i:Nat),
  nexts m id mp since seen es i=(left seen es i).map λp=>⟨.tuple [.bool true,p.2.1,p.2.2],m.set id (.iter (some mp) since (p.1::seen))⟩
 | [],_=>rfl
 | e::es,i=>by have h:nexts m id mp since seen (e::es) i=bi (rX i seen) (nexts m id mp since seen es (i+1)) (⟨.tuple [.bool true,e.1,e.2],m.set id (.iter (some mp) since (i::seen))⟩::nexts m id mp since seen es (i+1)):=rfl;rw [h,FD m id mp since seen es (i+1)];simp only [left];cases rX i seen<;>rfl
theorem Oc {it:OF}{cf:H8}{ls:List d9}{env:T d9}{m:Mem}{i s:Nat}{a:List Nat}{es:List (d9×d9)}(h:it ls env=.ptr i 0)(c:m.lim<=i)
  (g:m.get i=some (.iter (some s) es.length a)) (hs:m.get s=some (.map es)):
  ∃l,BL it cf ls env m=some l∧∀r∈l,(left a es 0=[]∧r=⟨.tuple [.bool false],m⟩)∨∃p∈left a es 0,r=⟨.tuple [.bool true,p.2.1,p.2.2],m.set i (.iter (some s) es.length (p.1::a))⟩:=by
 have e:BL it cf ls env m=some (JV m (nexts m i s es.length a es 0)):=by
  show iw (it ls env) _=_;rw [h];show bi (Nat.beq 0 0) (bi (Nat.blt i m.lim) none _) none=_;rw [show Nat.blt i m.lim=false from by
   cases hb:Nat.blt i m.lim with
   | false=>rfl
   | true=>have:=Y4.mp hb;omega]
  show Ie (m.get i) _ _=_;rw [g];show Pf (m.get s) _=_;rw [hs];show bi (Nat.beq (len' es) es.length) _ _=_;rw [K4,abB];rfl
 refine⟨_,e,λr b=>?_⟩;rw [FD] at b;match c:left a es 0 with
 | []=>rw [c] at b;exact .inl ⟨rfl,aP.1 b⟩
 | q::t=>rw [c] at b;have b:r∈(q::t).map λp=>(⟨.tuple [.bool true,p.2.1,p.2.2],m.set i (.iter (some s) es.length (p.1::a))⟩:VM):=b;obtain⟨p,d,f⟩:=adh.1 b;exact .inr ⟨p,d,f.symm⟩
theorem Jg {it:OF}{ls:List d9}{env:T d9}{m:Mem}{i s j:Nat}{a:List Nat}{es:List (d9×d9)}{e:d9×d9}(h:it ls env=.ptr i 0)
  (b:m.get i=some (.iter (some s) es.length (j::a))) (hs:m.get s=some (.map es)) (c:es[j]?=some e):rV it ls env m=some (.tuple [e.1,e.2]):=by
 show iw (it ls env) _=_;rw [h];show bi (Nat.beq 0 0) (Ie (m.get i) none _) none=_;rw [b];show Pf (m.get s) _=_;rw [hs];show bi (Nat.beq (len' es) es.length) (ob (pI j es) _) _=_;rw [K4,abB,jh,c];rfl
theorem Cr (k:List UInt8):∀(es:List (d9×d9)) (i:Nat),(∀e∈es,∃s,e.1=.str s∧s≠k)->findKey eqStr (.str k) es i=some none
 | [],_,_=>rfl
 | e::es,i,h=>by obtain⟨s,h1,h2⟩:=h e (ady ..);show ob (eqStr (.str k) e.1) _=_;rw [h1];show bi (strEq k s) _ _=_;rw [iB,beq_eq_false_iff_ne.2 (ahq h2)];exact Cr k es (i+1) λe he=>h e (Z7 _ he)
theorem KY (k:List UInt8)(es:List (d9×d9))(h:∀e∈es,∃s,e.1=.str s∧s≠k):R3 eqStr 1 (.str k) es=some none:=by
 cases es with
 | nil=>rw [KP];rfl
 | cons e es=>rw [HV];exact Cr k (e::es) 0 h
theorem Od {k:d9}{l:List (d9×d9)}(h:KV k l=true):∃s,k=.str s∧∀e∈l,∃t,e.1=.str t∧s≠t:=by
 cases k with
 | str s=>
  refine⟨s,rfl,?_⟩;induction l with
  | nil=>intro e a;cases a
  | cons x l ih=>
   obtain⟨b,c⟩:=x;intro e a;cases b with
   | str t=>have h:bi (strEq s t) false (KV (.str s) l)=true:=h;rw [iB] at h;by_cases hst:s=t;rw [beq_iff_eq.2 hst] at h;cases h;rw [beq_eq_false_iff_ne.2 hst] at h;rcases Z5.1 a with rfl | a;exact⟨t,rfl,hst⟩;exact ih h e a
   | _=>cases h
 | _=>cases h
theorem zQ:∀{l:List (d9×d9)},strKeys l=true->(∀e∈l,∃s,e.1=.str s)∧(l.map (·.1)).Nodup
 | [],_=>⟨λe he=>(by cases he),List.nodup_nil⟩
 | x::l,h=>by obtain⟨h1,h2⟩:=dx (show bi (KV x.1 l) (strKeys l) false=true from h);obtain⟨s,hs,hl⟩:=Od h1;obtain⟨g1,g2⟩:=zQ h2;refine⟨λe he=>?_,?_⟩;rcases Z5.1 he with rfl | he;exact⟨s,hs⟩;exact g1 e he;rw [Z6];refine aeJ.2 ⟨λhm=>?_,g2⟩;obtain⟨e,he,hk⟩:=adh.1 hm;obtain⟨t,ht,hne⟩:=hl e he;rw [hs] at hk;rw [ht] at hk;cases hk;exact hne rfl
theorem Jh:∀{l:List (d9×d9)},Fy l=true->∀e∈l,∃a b,e.2=.agg [a,b]∧u7 a=true∧u7 b=true
 | (k,.agg [a,b])::l,h,e,he=>by obtain⟨h1,h2⟩:=dx (show bi (u7 a) (bi (u7 b) (Fy l) false) false=true from h);obtain⟨h2,h3⟩:=dx h2;rcases Z5.1 he with rfl | he;exact⟨a,b,rfl,h1,h2⟩;exact Jh h3 e he
def Bn:SC:=j4 (j5 (D8 (BL (J7 (gL gH))) (I6 (pExt H7 0) (sR sH) o9))) (j4 (w9 (J7 (gR gH)) D7 (rY 0)) (F9 1 (j4 (j5 (C9 (rV (J7 (gL gH))) (j6 (pExt H7 0) (j6 (pExt bY 1)
 (jg (kU [(.int .i64 (.ofNat 0)),.nilFunc]) (sL (sR sH)) (I6 (N8 bZ) (sR (sL sH)) (D8 (O6 2 bY bZ) o9))))))) (j5 (C9 (bG 2 (J7 (gL (gR gH)))) (D8 (I5 eqStr 1 (J7 (gL (gL gH))) (J7 (gR (gL gH))) H7) o9))))))
def Xm:R5:=⟨false,[(some 3),(some 0)],6,[],(j4 (j5 (Pt (oz (J7 gH)) (sL sH) o9)) (F9 0 (O7 Bn))),none⟩
def oZ (s it d b k p:d9):T d9:=.nd (.nd (.nd .e d .e) it (.nd .e p .e)) s (.nd (.nd .e k .e) b .e)
def mkB (u:Bool)(l:List (d9×d9)):P8:=match u with
 | false=>.map l
 | true=>.mapU l
structure Sg (m0:Mem)(d s it:Nat)(u:Bool)(es:List (d9×d9))(m:Mem)(seen:List Nat)(cur:List (d9×d9)):Prop where
 ok:m.Ok
 lim:m.lim=m0.lim
 dl:m0.lim<=d
 dn:d<m0.nx
 ds:d≠s
 sn:s<m0.nx
 itn:it=m0.nx
 mn:m0.nx<m.nx
 gs:m.get s=some (.map es)
 gi:m.get it=some (.iter (some s) es.length seen)
 gd:m.get d=some (mkB u cur)
 old:∀i,i<m0.nx->i≠d->m.get i=m0.get i
 new:∀i,m0.nx<=i->∀b,m.get i=some b->cO b=false
 len:m.nx+(left seen es 0).length=m0.nx+1+es.length
structure Xn (m0:Mem)(d:Nat)(u:Bool)(all:List (d9×d9))(n:Nat)(m:Mem):Prop where
 ok:m.Ok
 lim:m.lim=m0.lim
 nx:m.nx=m0.nx+1+n
 gd:∃l,m.get d=some (mkB u l)∧all.Perm l
 old:∀i,i<m0.nx->i≠d->m.get i=m0.get i
 new:∀i,m0.nx<=i->∀b,m.get i=some b->cO b=false
theorem Xo {a b:Nat}(h:b<=a):Nat.blt a b=false:=by
 cases hb:Nat.blt a b with
 | false=>rfl
 | true=>have:=Y4.mp hb;omega
theorem Oe {C:Mem}{d s it:Nat}{u:Bool}{es:List (d9×d9)}{m:Mem}{f:List Nat}{g:List (d9×d9)}(h:Sg C d s it u es m f g)(I:C.lim<=C.nx)(h2:∀e∈es,∃a b,e.2=.agg [a,b]∧u7 a=true∧u7 b=true)
  (R:(∀e∈g++(left f es 0).map (·.2),∃t,e.1=.str t)∧((g++(left f es 0).map (·.2)).map (·.1)).Nodup) (cf:H8) (fu:Nat) (b k p:d9):
  ∃outs,Bn cf fu none (oZ (.map s) (.ptr it 0) (.map d) b k p) m []=some outs∧∀o∈outs,
   (left f es 0=[]∧∃env,o=⟨.exit 0,env,m,[],none⟩)∨
   ∃q∈left f es 0,∃m' b' k' p',o=⟨.normal,oZ (.map s) (.ptr it 0) (.map d) b' k' p',m',[],none⟩∧Sg C d s it u es m' (q.1::f) (g ++ [q.2]):=by
 unfold Bn;rw [vD,zM];refine bW (g1:=λo:Out=>(left f es 0=[]∧o=⟨.normal,oZ (.map s) (.ptr it 0) (.map d) (.bool false) k p,m,[],none⟩)∨
  ∃q∈left f es 0,o=⟨.normal,oZ (.map s) (.ptr it 0) (.map d) (.bool true) k p,m.set it (.iter (some s) es.length (q.1::f)),[],none⟩) ?_ ?_
 refine bW (g1:=λe:EM=>(left f es 0=[]∧e=⟨oZ (.map s) (.ptr it 0) (.map d) (.bool false) k p,m,none,[]⟩)∨
  ∃q∈left f es 0,e=⟨oZ (.map s) (.ptr it 0) (.map d) (.bool true) k p,m.set it (.iter (some s) es.length (q.1::f)),none,[]⟩) ?_ ?_
 rw [KN];refine bW (Oc (it:=J7 (gL gH)) (env:=oZ (.map s) (.ptr it 0) (.map d) b k p) rfl (by rw [h.lim,h.itn];exact I) h.gi h.gs) ?_;rintro r (⟨h1,rfl⟩ | ⟨q,h1,rfl⟩);exact⟨_,rfl,λo n=>.inl ⟨h1,aP.1 n⟩⟩;exact⟨_,rfl,λo n=>.inr ⟨q,h1,aP.1 n⟩⟩;rintro e (⟨h1,rfl⟩ | ⟨q,h1,rfl⟩);exact⟨_,rfl,λo n=>.inl ⟨h1,aP.1 n⟩⟩;exact⟨_,rfl,λo n=>.inr ⟨q,h1,aP.1 n⟩⟩;rintro o (⟨h1,rfl⟩ | ⟨q,h1,rfl⟩);exact⟨_,rfl,λo n=>.inl ⟨h1,_,aP.1 n⟩⟩;obtain⟨_,B,a1⟩:=vI h1;rw [aky] at B;have V:q.2∈es:=Y2 B;obtain⟨x,y,O,Z,a0⟩:=h2 q.2 V;have hp:=rz h1;have U:(g++(left f es 0).map (·.2)).Perm (g++q.2::(left (q.1::f) es 0).map (·.2)):=(hp.map _).append_left _;have J:q.2∈g++(left f es 0).map (·.2):=ad2 _ (aht h1);obtain⟨t,Y⟩:=R.1 q.2 J;have l:R3 eqStr 1 (.str t) g=some none:=KY t g λe P=>by obtain⟨t',N⟩:=R.1 e (adE _ P);refine⟨t',N,λe'=>?_⟩;have hn:((g++q.2::(left (q.1::f) es 0).map (·.2)).map (·.1)).Nodup:=(U.map _).nodup R.2;rw [abN,List.nodup_append] at hn;exact hn.2.2 _ (aht P) _ (by rw [Z6];exact ady ..) (by rw [N,Y,e'])
 have A:it<m.nx:=by rw [h.itn];exact h.mn
 have L:s≠it:=by rw [h.itn];exact aiM h.sn
 have E:d≠it:=by rw [h.itn];exact aiM h.dn
 have W:s<m.nx:=Nat.lt_trans h.sn h.mn;have F:d<m.nx:=Nat.lt_trans h.dn h.mn;generalize hM:m.set it (.iter (some s) es.length (q.1::f))=M;have Mok:M.Ok:=by rw [← hM];exact Mem.Ok.set h.ok A _
 have Mn:M.nx=m.nx:=by rw [← hM];rfl
 have Ml:M.lim=C.lim:=by rw [← hM];exact h.lim
 have Mg:∀i,M.get i=if i=it then some (.iter (some s) es.length (q.1::f)) else m.get i:=λi=>by rw [← hM,Mem.V9 h.ok A]
 have Ms:M.get s=some (.map es):=by rw [Mg,if_neg L];exact h.gs
 have Mi:M.get it=some (.iter (some s) es.length (q.1::f)):=by rw [Mg,if_pos rfl]
 have Md:M.get d=some (mkB u g):=by rw [Mg,if_neg E];exact h.gd
 have G:∀(env:T d9),gL gH env=.ptr it 0->rV (J7 (gL gH)) [] env M=some (.tuple [q.2.1,q.2.2]):=λenv P=>Jg (it:=J7 (gL gH)) P Mi Ms B;have Mlim:M.lim<=M.nx:=by rw [Ml,Mn];exact aA I (ahj h.mn)
 have g1:(M.new (l9 [x,y])).get d=some (mkB u g):=by rw [Mem.L9 Mok,if_neg (by rw [Mn];exact aiM F)];exact Md
 have K:∀(env:T d9) (ls:List d9),env=oZ (.map s) (.ptr it 0) (.map d) (.bool true) (.str t) (.ptr M.nx 0)->ls=[.agg [x,y]]->
   I5 eqStr 1 (J7 (gL (gL gH))) (J7 (gR (gL gH))) H7 cf ls env (M.new (l9 [x,y]))=some [⟨.undef,(M.new (l9 [x,y])).set d (mkB u (g ++ [(.str t,.agg [x,y])]))⟩]:=by
  rintro env ls rfl rfl;rw [sU];show bi (Nat.blt d M.lim) none (ob (msB ((M.new (l9 [x,y])).get d) eqStr 1 (.str t) (.agg [x,y])) _)=_;rw [Xo (by rw [Ml];exact h.dl),g1];cases u with
  | false=>show ob (ob (R3 eqStr 1 (.str t) g) _) _=_;rw [l];rfl
  | true=>show ob (ob (R3 eqStr 1 (.str t) g) _) _=_;rw [l];rfl
 refine⟨[⟨.normal,oZ (.map s) (.ptr it 0) (.map d) (.bool true) (.str t) (.ptr M.nx 0),(M.new (l9 [x,y])).set d (mkB u (g ++ [(.str t,.agg [x,y])])),[],none⟩],?_,λo n=>.inr ⟨q,h1,_,_,_,_,aP.1 n,?_⟩⟩;have X:∀(env:T d9) (c:d9),O6 2 bY bZ cf [.str t,.ptr M.nx 0,.agg [x,y],.str t,.tuple [.str t,.agg [x,y]]] env (M.new (l9 [c,.nilFunc]))=some [⟨.undef,M.new (l9 [x,y])⟩]:=λenv c=>by show storeAt (M.new (l9 [c,.nilFunc])) M.nx 0 [x,y] (λm'=>one .undef m')=_;rw [lJ (m:=M.new (l9 [c,.nilFunc])) Mlim (by show bi (u7 x) (bi (u7 y) true false) false=true;rw [Z,a0];rfl),Mem.L9 Mok,if_pos rfl,eX (by simp) (by simp),L8,Mem.KO Mok];rfl
 have j:=G (oZ (.map s) (.ptr it 0) (.map d) (.bool true) k p) rfl;have v:=K _ _ rfl rfl;have S:Gw ((M.new (l9 [x,y])).get M.nx) 0 2=some (.agg [x,y]):=by rw [Mem.L9 Mok,if_pos rfl,eU (by simp) (by simp)];rfl
 rw [Y,O] at j;simp only [oZ] at j v ⊢;simp [j,X,v,S,kU];have hq:q.2=(.str t,.agg [x,y]):=by rw [← Y,← O]
 rw [← hq];have Nok:(M.new (l9 [x,y])).Ok:=Mem.Ok.new Mok _;have z:d<(M.new (l9 [x,y])).nx:=by show d<M.nx+1;rw [Mn];exact Nat.lt_succ_of_lt F
 have D:∀i,((M.new (l9 [x,y])).set d (mkB u (g ++ [q.2]))).get i=if i=d then some (mkB u (g ++ [q.2])) else if i=M.nx then some (l9 [x,y]) else if i=it then some (.iter (some s) es.length (q.1::f)) else m.get i:=λi=>by rw [Mem.V9 Nok z,Mem.L9 Mok,Mg]
 exact {
  ok:=Mem.Ok.set Nok z _
  lim:=Ml
  dl:=h.dl
  dn:=h.dn
  ds:=h.ds
  sn:=h.sn
  itn:=h.itn
  mn:=by show C.nx<M.nx+1;rw [Mn];exact Nat.lt_succ_of_lt h.mn
  gs:=by rw [D,if_neg (ahq h.ds),if_neg (by rw [Mn];exact aiM W),if_neg L];exact h.gs
  gi:=by rw [D,if_neg (ahq E),if_neg (by rw [Mn];exact aiM A),if_pos rfl]
  gd:=by rw [D,if_pos rfl]
  old:=λi Q H=>by rw [D,if_neg H,if_neg (by rw [Mn];have:=h.mn;omega),if_neg (by rw [h.itn];omega)];exact h.old i Q H
  new:=λi Q b' w=>by
   rw [D] at w;split at w;cases w;cases u<;>rfl
   split at w;cases w;rfl;split at w;cases w;rfl;exact h.new i Q b' w
  len:=by
   have:=h.len;have hl:=hp.length_eq;rw [Y6] at hl;show M.nx+1 + _=_;rw [Mn];omega}
theorem aas {r:Mem}{d s it:Nat}{u:Bool}{es:List (d9×d9)}(i:r.lim<=r.nx)(w:∀e∈es,∃a b,e.2=.agg [a,b]∧u7 a=true∧u7 b=true)(cf:H8)(fu:Nat){all:List (d9×d9)}
  (l:(∀e∈all,∃t,e.1=.str t)∧(all.map (·.1)).Nodup):
  ∀(n:Nat) (m:Mem) (seen:List Nat) (cur:List (d9×d9)) (b k p:d9),Sg r d s it u es m seen cur->(left seen es 0).length=n->all.Perm (cur++(left seen es 0).map (·.2))->∀N,n<N->
   ∃outs,C8 (λenv m k=>Bn cf fu none env m k) N (oZ (.map s) (.ptr it 0) (.map d) b k p) m []=some outs∧∀o∈outs,∃env m',o=⟨.exit 0,env,m',[],none⟩∧Xn r d u all es.length m':=by
 intro n;induction n with
 | zero=>intro m seen cur b k p h g f N x;obtain⟨N,rfl⟩:∃N',N=N'+1:=⟨N-1,by omega⟩;have c:left seen es 0=[]:=aaB.1 g;rw [o7];refine bW (Oe h i w ⟨λe v=>l.1 e (f.symm.subset v),(f.map _).nodup l.2⟩ cf fu b k p) ?_;rintro o (⟨_,env,rfl⟩ | ⟨q,hq,_⟩);refine⟨_,rfl,λo y=>?_⟩;obtain rfl:=aP.1 y;refine⟨env,m,rfl,h.ok,h.lim,?_,⟨cur,h.gd,by rw [c] at f;simpa using f⟩,h.old,h.new⟩;have:=h.len;rw [g] at this;exact this;rw [c] at hq;cases hq
 | succ n ih=>intro m seen cur b k p h g f N x;obtain⟨N,rfl⟩:∃N',N=N'+1:=⟨N-1,by omega⟩;rw [o7];refine bW (Oe h i w ⟨λe v=>l.1 e (f.symm.subset v),(f.map _).nodup l.2⟩ cf fu b k p) ?_;rintro o (⟨c,_⟩ | ⟨q,hq,m',b',k',p',rfl,h'⟩);rw [c] at g;cases g;rw [zN];have j:=rz hq;refine ih m' (q.1::seen) (cur ++ [q.2]) b' k' p' h' ?_ ?_ N (by omega);have:=j.length_eq;rw [g,Y6] at this;omega;refine f.trans (((j.map _).append_left cur).trans ?_);rw [List.append_assoc];exact List.Perm.refl _
theorem sV (n:Nat)(m:Mem):(aK n m).nx=m.nx+n∧(aK n m).lim=m.lim:=by
 induction n generalizing m with
 | zero=>exact⟨rfl,rfl⟩
 | succ n ih=>have:aK (n+1) m=aK n (m.new .dead):=rfl;rw [this];obtain⟨a,b⟩:=ih (m.new .dead);exact⟨by rw [a];show m.nx+1+n=_;omega,b⟩
theorem wz (n:Nat){m:Mem}(a:m.Ok):(aK n m).Ok∧∀i,(aK n m).get i=if m.nx<=i∧i<m.nx+n then some .dead else m.get i:=by
 induction n generalizing m with
 | zero=>exact⟨a,λi=>by rw [if_neg (by omega)];rfl⟩
 | succ n ih=>have:aK (n+1) m=aK n (m.new .dead):=rfl;rw [this];obtain⟨b,c⟩:=ih (Mem.Ok.new a .dead);refine⟨b,λi=>?_⟩;rw [c,Mem.L9 a];show (if m.nx+1<=i∧i<m.nx+1+n then _ else if i=m.nx then some P8.dead else m.get i)=_;by_cases h:i=m.nx;rw [if_neg (by omega),if_pos h,if_pos (by omega)];by_cases h':m.nx+1<=i∧i<m.nx+1+n;rw [if_pos h',if_pos (by omega)];rw [if_neg h',if_neg h,if_neg (by omega)]
theorem Xp {P:Program}{K:Known}(hK:WZ P K){f:FuncId}(V:K.fns f=some Xm)(he:∀args m,K.eff f args m=none){args:List d9}{m:Mem}{outs:List VM}(h:wu args m=some outs):
  AV P f∧∀{ι:J9} {w:World},RM P K.base ι m w.heap->aU (m.nm ι) args->CallsIn Fence.wide 0 P f (u6 ι args).toArray w (Q8 P K.base ι m w outs):=by
 obtain⟨d,s,rfl⟩:∃d s,args=[.map d,.map s]:=by unfold wu at h;split at h;exact⟨_,_,rfl⟩;cases h
 have h:bi (Nat.blt d m.lim) none (bi (Nat.beq d s) none (Pf (m.get s) λa=>CJ (m.get d) λds=>bi (strKeys (aC ds a)) (bi (Fy a) (bi (Nat.blt (len' a) 100000) (one (.tuple []) ((aK (Nat.succ (len' a)) m).set d (.mapU (aC ds a)))) none) none) none))=some outs:=h;obtain⟨O,h⟩:=jW h;obtain⟨Q,h⟩:=jW h;obtain⟨a,x,h⟩:=AJ h;obtain⟨ds,v,h⟩:=Du h;obtain⟨R,h⟩:=G8 h;obtain⟨X,h⟩:=G8 h;obtain⟨_,h⟩:=G8 h;cases h;rw [R8] at R ⊢;rw [K4];have C:=zQ R;have h2:=Jh X;have A:d≠s:=λe=>by rw [e,abB] at Q;cases Q
 have y:m.lim<=d:=ad9 λhh=>by rw [show Nat.blt d m.lim=true from Y4▸hh] at O;cases O
 obtain⟨u,W⟩:∃u,m.get d=some (mkB u ds):=by rcases v with v | v;exact⟨false,v⟩;exact⟨true,v⟩
 refine vH hK V λg F=>?_;have g:m.Ok:=g;have I:=Mem.J5 g x;have z:=Mem.J5 g W;have g1:∀i,(m.new (.iter (some s) a.length [])).get i=if i=m.nx then some (.iter (some s) a.length []) else m.get i:=λi=>Mem.L9 g _ i
 have J:Sg m d s m.nx u a (m.new (.iter (some s) a.length [])) [] ds:={
  ok:=Mem.Ok.new g _
  lim:=rfl
  dl:=y
  dn:=z
  ds:=A
  sn:=I
  itn:=rfl
  mn:=akj _
  gs:=by rw [g1,if_neg (by omega)];exact x
  gi:=by rw [g1,if_pos rfl]
  gd:=by rw [g1,if_neg (by omega)];exact W
  old:=λi B _=>by rw [g1,if_neg (by omega)]
  new:=λi B b n=>by rw [g1] at n;split at n;cases n;rfl;have:=Mem.J5 g n;omega
  len:=by show m.nx+1 + _=_;rw [FC]}
 obtain⟨outs,G,H⟩:=aas (all:=ds++a) F h2 (l7 K (a.length+1) 0) (a.length+1) C a.length _ [] ds .undef .undef .undef J (FC a 0) (by rw [Ob]) (a.length+1) (akj _);have L:∃l,l7 K (a.length+1) 1 (.func f) [.map d,.map s] m=some l∧∀r∈l,∃m',r=⟨.tuple [],m'⟩∧Xn m d u (ds++a) a.length m':=by
  rw [dO];show ∃l,(Option.rec (ob (K.fns f) λM=>bi M.pure (iY K (l7 K (a.length+1) 0) (a.length+1) f M [.map d,.map s] m) (lZ (l7 K (a.length+1) 0) (tF K (l7 K (a.length+1) 0) (a.length+1)) (a.length+1) M [.map d,.map s] m)) (λl=>some l) (K.eff f [.map d,.map s] m):gN)=some l∧_;rw [he,V];show ∃l,bnd (j4 (j5 (Pt (oz (J7 gH)) (sL sH) o9)) (F9 0 (O7 Bn)) (l7 K (a.length+1) 0) (a.length+1) none (oZ (.map s) .undef (.map d) .undef .undef .undef) m []) (leave _ [])=some l∧_;refine bW (g1:=λo:Out=>∃j m',o=⟨.normal,j,m',[],none⟩∧Xn m d u (ds++a) a.length m') ?_ ?_;rw [vD,zM,ae9];have t:oz (J7 gH) (l7 K (a.length+1) 0) [] (oZ (.map s) .undef (.map d) .undef .undef .undef) m=some [⟨.ptr m.nx 0,m.new (.iter (some s) a.length [])⟩]:=by show Pf (m.get s) _=_;rw [x];show one _ (m.new (.iter (some s) (len' a) []))=_;rw [K4];rfl
  rw [t];show ∃l,bnd (C8 (λj m k=>Bn (l7 K (a.length+1) 0) (a.length+1) none j m k) (a.length+1) (oZ (.map s) (.ptr m.nx 0) (.map d) .undef .undef .undef) (m.new (.iter (some s) a.length [])) []) (Uq 0)=some l∧_;refine bW ⟨outs,G,H⟩ ?_;rintro o ⟨j,m',rfl,c⟩;exact⟨_,rfl,λr t=>by
   obtain rfl:=aP.1 t;exact⟨j,m',rfl,c⟩⟩
  rintro o ⟨j,m',rfl,c⟩;exact⟨_,rfl,λr t=>by
   obtain rfl:=aP.1 t;exact⟨m',rfl,c⟩⟩
 obtain⟨l,D,E⟩:=L;refine⟨_,_,l,D,λo ho=>?_⟩;obtain⟨m',rfl,c⟩:=E o ho;refine⟨_,aP.2 rfl,rfl,?_⟩;obtain⟨S,Y⟩:=sV (a.length+1) m;obtain⟨T,Z⟩:=wz (a.length+1) g;have p:d<(aK (a.length+1) m).nx:=by rw [S];omega
 have U:∀i,((aK (a.length+1) m).set d (.mapU (ds++a))).get i=if i=d then some (.mapU (ds++a)) else if m.nx<=i∧i<m.nx+(a.length+1) then some .dead else m.get i:=λi=>by rw [Mem.V9 T p,Z]
 exact {
  nx:=by show (aK (a.length+1) m).nx=m'.nx;rw [S,c.nx];omega
  lim:=by show (aK (a.length+1) m).lim=m'.lim;rw [Y,c.lim]
  ok:=Mem.Ok.set T p _
  old:=λi B=>by rw [c.lim] at B;rw [U,if_neg (by omega),if_neg (by omega),c.old i (by omega) (by omega)]
  blk:=λi b n=>by
   rw [U] at n;split at n;rename_i q;subst q;cases n;obtain⟨l',g1,g2⟩:=c.gd;refine⟨_,g1,.inr (.inr ⟨ds++a,l',?_,rfl,g2,C.1,C.2⟩)⟩;cases u;exact .inl rfl;exact .inr rfl;rename_i q;split at n;rename_i t;cases n;obtain⟨N,g1⟩:=(c.ok.get i).2 (by rw [c.nx];omega);exact⟨N,g1,.inr (.inl ⟨rfl,c.new i t.1 N g1⟩)⟩;have:=Mem.J5 g n;exact⟨b,by rw [c.old i this q];exact n,.inl rfl⟩}
def bJ:List (d9×d9):=aQ.map λe=>(.int .i64 e.2.2.2,.str e.2.2.1)
def UA (tok:Option (Int×List UInt8))(e:Int×Int×List UInt8×Int):Bool:=match tok with
 | some (k,s)=>decide (e.2.1=k)&&(e.2.2.1==s)
 | none=>false
def iT (lv:Int)(tok:Option (Int×List UInt8))(e:Int×Int×List UInt8×Int):Bool:=decide (e.1=lv)&&UA tok e
def Bo (fl fa:Nat):SC:=j4 (j5 (D8 (BL (J7 gH)) (I6 (pExt H7 0) (sL sH) o9))) (j4 (w9 (J7 (gL gH)) D7 (rY 0)) (F9 1 (j4 (j5 (C9 (rV (J7 gH)) (j6 (pExt H7 0) (j6 (pExt bY 1) (I6 (N8 bY) (sR sH) (I6 (N8 bY) (sL (sR sH)) o9))))))
 (j4 (j5 (D8 (G7 fl [(J7 (gR gH))]) (j6 (O5 gU gV H7 (J7 (gL (gL gH)))) (j6 (gP H7 true (N8 (J7 (gR (gL gH))))) (j6 (gP bY true (N8 (J7 (gL (gR gH))))) (D8 (gE bZ true (G7 fa [bY,H7])) (I6 (eG qB H7 (E9 (.bool false))) (sR (sR sH)) o9)))))))
  (w9 (J7 (gR (gR gH))) (j4 (j5 (j6 (eH (J7 (gR (gL gH)))) (j6 (K7 0 H7) (C9 (jl H7) (jT (lSl 2 H7 (some (E9 (.int .i64 (.ofNat 1)))) none) (j6 (eH (J7 (gR (gL gH)))) (j6 (K7 0 H7) (D8 (O6 1 H7 bZ) o9))))))))
   (j4 (j5 (I6 (N8 (J7 (gR gH))) (sL (sL (sL sH))) o9)) A8)) D7)))))
def KZ (fs fl fa:Nat):R5:=⟨false,[(some 4),(some 3)],8,[.tmp 7],(j4 (j5 (I6 (N8 (E9 (.int .i64 (.ofNat 0)))) (sL (sL (sL sH))) o9)) (j4 (j4 (j5 (D8 (G7 fs []) (Pt (oz H7) sH o9))) (F9 0 (O7 (Bo fl fa))))
 (j4 (j5 (I6 (N8 (E9 (.int .i64 (.ofNat 0)))) (sL (sL (sL sH))) o9)) A8))),none⟩
def dY (it b kd lv r sg cd res:d9):T d9:=.nd (.nd (.nd (.nd .e res .e) lv .e) b (.nd .e sg .e)) it (.nd (.nd .e r .e) kd (.nd .e cd .e))
structure vJ (m0 m:Mem)(seen:List Nat):Prop where
 ok:m.Ok
 lim:m.lim=m0.lim
 ll:m0.lim<=m0.nx
 mn:m.nx=m0.nx+2
 gs:m.get m0.nx=some (.map bJ)
 gi:m.get (m0.nx+1)=some (.iter (some m0.nx) bJ.length seen)
 old:∀i,i<m0.nx->m.get i=m0.get i
theorem aat {j:Nat}{x:d9×d9}(h:bJ[j]?=some x):∃e∈aQ,aQ[j]?=some e∧x=(.int .i64 e.2.2.2,.str e.2.2.1):=by unfold bJ at h;rw [aaM] at h;obtain⟨e,a,b⟩:=acY.1 h;exact⟨e,Y2 a,a,b.symm⟩
theorem Og {c m:Mem}{a:List Nat}(h:vJ c m a){r off Q P:Nat}{lv:Int}{k:Option (Int×List UInt8)}{cf:H8}{v v':d9}{p:Option P8}{B:P8}
  (S:∀e∈aQ,∀M,cf (.func Q) [.int .i64 e.2.2.2] M=some [⟨.int .i64 e.1,M⟩])
  (R:∀e∈aQ,∀M:Mem,(∀i,i<c.nx->M.get i=c.get i)->cf (.func P) [.ptr r off,.str e.2.2.1] M=some [⟨.bool (UA k e),M⟩])
  (J:ld1 (c.get r) off=some v) (X:r<c.nx)
  (L:∀e∈aQ,iT lv k e=true->M9 (c.nx+2) 2 v 1 none=some (v',p)∧u7 v'=true∧v'.cells=[v']∧vC (c.get r) off [v']=some B∧c.lim<=r) (fu:Nat) (b t u l g:d9):
  ∃outs,Bo Q P cf fu none (dY (.ptr (c.nx+1) 0) b t (.int .i64 lv) (.ptr r off) u l g) m []=some outs∧∀o∈outs,
   (left a bJ 0=[]∧∃env,o=⟨.exit 0,dY (.ptr (c.nx+1) 0) (.bool false) t (.int .i64 lv) (.ptr r off) u l g,m,[],none⟩∧env=())∨
   ∃q∈left a bJ 0,∃e∈aQ,aQ[q.1]?=some e∧∃M,vJ c M (q.1::a)∧
    ((iT lv k e=false∧∃b' kd' sg' cd',o=⟨.normal,dY (.ptr (c.nx+1) 0) b' kd' (.int .i64 lv) (.ptr r off) sg' cd' g,M,[],none⟩)∨
     (iT lv k e=true∧∃b' kd' sg' cd',o=⟨.ret,dY (.ptr (c.nx+1) 0) b' kd' (.int .i64 lv) (.ptr r off) sg' cd' (.int .i64 e.2.2.2),(dH M p).set r B,[],none⟩)):=by
 unfold Bo;rw [vD,zM];refine bW (g1:=λo:Out=>(left a bJ 0=[]∧o=⟨.normal,dY (.ptr (c.nx+1) 0) (.bool false) t (.int .i64 lv) (.ptr r off) u l g,m,[],none⟩)∨
  ∃q∈left a bJ 0,o=⟨.normal,dY (.ptr (c.nx+1) 0) (.bool true) t (.int .i64 lv) (.ptr r off) u l g,m.set (c.nx+1) (.iter (some c.nx) bJ.length (q.1::a)),[],none⟩) ?_ ?_
 refine bW (g1:=λe:EM=>(left a bJ 0=[]∧e=⟨dY (.ptr (c.nx+1) 0) (.bool false) t (.int .i64 lv) (.ptr r off) u l g,m,none,[]⟩)∨
  ∃q∈left a bJ 0,e=⟨dY (.ptr (c.nx+1) 0) (.bool true) t (.int .i64 lv) (.ptr r off) u l g,m.set (c.nx+1) (.iter (some c.nx) bJ.length (q.1::a)),none,[]⟩) ?_ ?_
 rw [KN];refine bW (Oc (it:=J7 gH) (env:=dY (.ptr (c.nx+1) 0) b t (.int .i64 lv) (.ptr r off) u l g) rfl (by rw [h.lim];have:=h.ll;omega) h.gi h.gs) ?_;rintro r (⟨h1,rfl⟩ | ⟨q,h1,rfl⟩);exact⟨_,rfl,λo j=>.inl ⟨h1,aP.1 j⟩⟩;exact⟨_,rfl,λo j=>.inr ⟨q,h1,aP.1 j⟩⟩;rintro e (⟨h1,rfl⟩ | ⟨q,h1,rfl⟩);exact⟨_,rfl,λo j=>.inl ⟨h1,aP.1 j⟩⟩;exact⟨_,rfl,λo j=>.inr ⟨q,h1,aP.1 j⟩⟩;rintro o (⟨h1,rfl⟩ | ⟨q,h1,rfl⟩);exact⟨_,rfl,λo j=>.inl ⟨h1,(),aP.1 j,rfl⟩⟩;obtain⟨_,z,W⟩:=vI h1;rw [aky] at z;obtain⟨e,n,y,H⟩:=aat z;have D:c.nx+1<m.nx:=by rw [h.mn];omega
 generalize hM:m.set (c.nx+1) (.iter (some c.nx) bJ.length (q.1::a))=M;have Mg:∀i,M.get i=if i=c.nx+1 then some (.iter (some c.nx) bJ.length (q.1::a)) else m.get i:=λi=>by rw [← hM,Mem.V9 h.ok D]
 have f:vJ c M (q.1::a):={
  ok:=by rw [← hM];exact Mem.Ok.set h.ok D _
  lim:=by rw [← hM];exact h.lim
  ll:=h.ll
  mn:=by rw [← hM];exact h.mn
  gs:=by rw [Mg,if_neg (by omega)];exact h.gs
  gi:=by rw [Mg,if_pos rfl]
  old:=λi V=>by rw [Mg,if_neg (by omega)];exact h.old i V}
 have s:∀(env:T d9),gH env=.ptr (c.nx+1) 0->rV (J7 gH) [] env M=some (.tuple [q.2.1,q.2.2]):=λenv n=>Jg (it:=J7 gH) n f.gi f.gs z;rw [H] at s;have d:=s (dY (.ptr (c.nx+1) 0) (.bool true) t (.int .i64 lv) (.ptr r off) u l g) rfl;have I:=S e n M;have C:=R e n M f.old;have w:M.get r=c.get r:=f.old r X;cases hlv:decide (e.1=lv) with
 | false=>refine⟨[⟨.normal,dY (.ptr (c.nx+1) 0) (.bool true) (.int .i64 e.2.2.2) (.int .i64 lv) (.ptr r off) (.str e.2.2.1) (.bool false) g,M,[],none⟩],?_,λo j=>.inr ⟨q,h1,e,n,y,M,f,.inl ⟨by simp [iT,hlv],_,_,_,_,aP.1 j⟩⟩⟩;simp only [dY] at d ⊢;simp [d,G7,I,C,hlv]
 | true=>
  cases hat:UA k e with
  | false=>refine⟨[⟨.normal,dY (.ptr (c.nx+1) 0) (.bool true) (.int .i64 e.2.2.2) (.int .i64 lv) (.ptr r off) (.str e.2.2.1) (.bool false) g,M,[],none⟩],?_,λo j=>.inr ⟨q,h1,e,n,y,M,f,.inl ⟨by simp [iT,hlv,hat],_,_,_,_,aP.1 j⟩⟩⟩;rw [hat] at C;simp only [dY] at d ⊢;simp [d,G7,I,C,hlv]
  | true=>
   obtain⟨Y,Z,s3,s4,E⟩:=L e n (by simp [iT,hlv,hat]);refine⟨[⟨.ret,dY (.ptr (c.nx+1) 0) (.bool true) (.int .i64 e.2.2.2) (.int .i64 lv) (.ptr r off) (.str e.2.2.1) (.bool true) (.int .i64 e.2.2.2),(dH M p).set r B,[],none⟩],?_,λo j=>.inr ⟨q,h1,e,n,y,M,f,.inr ⟨by simp [iT,hlv,hat],_,_,_,_,aP.1 j⟩⟩⟩;rw [hat] at C;simp only [dY] at d ⊢;have A:M.nx=c.nx+2:=f.mn;have F:∀(env:T d9) (G:List d9),lSl 2 H7 (some (E9 (.int .i64 1))) none (v::G) env M.nx=some (v',p):=λenv G=>by rw [A];exact Y
   have U:(dH M p).get r=c.get r:=by
    cases p with
    | none=>exact w
    | some x=>show (M.new x).get r=_;rw [Mem.L9 f.ok,if_neg (by rw [A];omega)];exact w
   have K:(dH M p).lim<=r:=by
    cases p with
    | none=>show M.lim<=r;rw [f.lim];exact E
    | some x=>show M.lim<=r;rw [f.lim];exact E
   have N:∀(env:T d9) (G:List d9) (O:d9),O6 1 H7 bZ cf (.ptr r off::O::v'::G) env (dH M p)=some [⟨.undef,(dH M p).set r B⟩]:=λenv G O=>by show bi (Nat.beq (len' v'.cells) 1) (storeAt (dH M p) r off v'.cells _) none=_;rw [s3];show storeAt (dH M p) r off [v'] _=_;rw [lJ K (by show bi (u7 v') true false=true;rw [Z];rfl),U,s4];rfl
   simp [d,G7,I,C,hlv,w,J,F,N]
theorem Oh {seen:List Nat}:∀{es:List (d9×d9)} {i:Nat},left seen es i=[]->∀j,i<=j->j<i+es.length->rX j seen=true
 | [],i,_,j,h1,h2=>by simp at h2;omega
 | e::es,i,h,j,h1,h2=>by simp only [left] at h;split at h;rename_i hs;by_cases hj:j=i;rw [hj];exact hs;exact Oh h j (by omega) (by simp at h2;omega);cases h
theorem aau {c:Mem}{r off D C:Nat}{lv:Int}{d:Option (Int×List UInt8)}{cf:H8}{v v':d9}{p:Option P8}{B:P8}
  (A:∀e∈aQ,∀M,cf (.func D) [.int .i64 e.2.2.2] M=some [⟨.int .i64 e.1,M⟩])
  (z:∀e∈aQ,∀M:Mem,(∀i,i<c.nx->M.get i=c.get i)->cf (.func C) [.ptr r off,.str e.2.2.1] M=some [⟨.bool (UA d e),M⟩])
  (t:ld1 (c.get r) off=some v) (E:r<c.nx)
  (u:∀e∈aQ,iT lv d e=true->M9 (c.nx+2) 2 v 1 none=some (v',p)∧u7 v'=true∧v'.cells=[v']∧vC (c.get r) off [v']=some B∧c.lim<=r) (fu:Nat) (f:d9):
  ∀(n:Nat) (m:Mem) (seen:List Nat) (b kd sg cd:d9),vJ c m seen->(left seen bJ 0).length=n->(∀j e,rX j seen=true->aQ[j]?=some e->iT lv d e=false)->∀N,n<N->
   ∃outs,C8 (λenv m k=>Bo D C cf fu none env m k) N (dY (.ptr (c.nx+1) 0) b kd (.int .i64 lv) (.ptr r off) sg cd f) m []=some outs∧∀o∈outs,
    ((∀e∈aQ,iT lv d e=false)∧∃b' kd' sg' cd' M seen',vJ c M seen'∧o=⟨.exit 0,dY (.ptr (c.nx+1) 0) b' kd' (.int .i64 lv) (.ptr r off) sg' cd' f,M,[],none⟩)∨
    ∃e∈aQ,iT lv d e=true∧∃b' kd' sg' cd' M seen',vJ c M seen'∧o=⟨.ret,dY (.ptr (c.nx+1) 0) b' kd' (.int .i64 lv) (.ptr r off) sg' cd' (.int .i64 e.2.2.2),(dH M p).set r B,[],none⟩:=by
 intro n;induction n with
 | zero=>intro m seen b kd sg cd h s y N G;obtain⟨N,rfl⟩:∃N',N=N'+1:=⟨N-1,by omega⟩;have a:left seen bJ 0=[]:=aaB.1 s;rw [o7];refine bW (Og h A z t E u fu b kd sg cd f) ?_;rintro o (⟨_,_,rfl,_⟩ | ⟨q,hq,_⟩);refine⟨_,rfl,λo x=>.inl ⟨λe w=>?_,_,_,_,_,m,seen,h,aP.1 x⟩⟩;obtain⟨j,l⟩:=aaH w;refine y j e (Oh a j (by omega) ?_) l;have:=(J2.1 l).1;simp [bJ];omega;rw [a] at hq;cases hq
 | succ n ih=>intro m seen b kd sg cd h s y N G;obtain⟨N,rfl⟩:∃N',N=N'+1:=⟨N-1,by omega⟩;rw [o7];refine bW (Og h A z t E u fu b kd sg cd f) ?_;rintro o (⟨a,_⟩ | ⟨q,hq,e,w,hej,M,inv,⟨hh,b',kd',sg',cd',rfl⟩ | ⟨hh,b',kd',sg',cd',rfl⟩⟩);rw [a] at s;cases s;rw [zN];refine ih M (q.1::seen) b' kd' sg' cd' inv ?_ (λj F l g=>?_) N (by omega);have:=(rz hq).length_eq;rw [s,Y6] at this;omega;by_cases hjq:q.1=j;rw [← hjq,hej] at g;cases g;exact hh;rw [Dx hjq] at l;exact y j F l g;exact⟨_,rfl,λo x=>.inr ⟨e,w,hh,b',kd',sg',cd',M,_,inv,aP.1 x⟩⟩
def FE (M:Mem)(r off:Nat)(tok:Option (Int×List UInt8)):Prop:=∃v,ld1 (M.get r) off=some v∧
 ((tok=none∧(v=.nilSlice∨(∃id o c,v=.slice id o 0 c)∨∃id o es,v=.sliceU id o 0 es))∨∃k s id o len,((∃c,v=.slice id o (len+1) c)∨∃es,v=.sliceU id o (len+1) es)∧Gw (M.get id) o 2=some (.agg [.int .i64 k,.str s])∧tok=some (k,s))
theorem FH {lv k:Int}{s:List UInt8}:∀(l:List (Int×Int×List UInt8×Int)),(∀e∈l,∀e'∈l,e.2.2.1=e'.2.2.1->e=e')->
  match (List.rec none (λe _ ih=>bi (bU e.1 lv) (bi (bU e.2.1 k) (bi (strEq e.2.2.1 s) (some e.2.2.2) ih) ih) ih) l:Option Int) with
  | none=>∀e∈l,iT lv (some (k,s)) e=false
  | some kd=>(∃e∈l,iT lv (some (k,s)) e=true)∧∀e∈l,iT lv (some (k,s)) e=true->e.2.2.2=kd
 | [],_=>λe he=>by cases he
 | e::l,hu=>by
  have ih:=FH (lv:=lv) (k:=k) (s:=s) l λa ha b hb=>hu a (Z7 _ ha) b (Z7 _ hb);have hb:iT lv (some (k,s)) e=(bU e.1 lv&&(bU e.2.1 k&&strEq e.2.2.1 s)):=by rw [gy,gy,iB];rfl
  have h0:(List.rec none (λe _ ih=>bi (bU e.1 lv) (bi (bU e.2.1 k) (bi (strEq e.2.2.1 s) (some e.2.2.2) ih) ih) ih) (e::l):Option Int) =
    bi (iT lv (some (k,s)) e) (some e.2.2.2) (List.rec none (λe _ ih=>bi (bU e.1 lv) (bi (bU e.2.1 k) (bi (strEq e.2.2.1 s) (some e.2.2.2) ih) ih) ih) l):=by
   rw [hb];show bi (bU e.1 lv) (bi (bU e.2.1 k) (bi (strEq e.2.2.1 s) _ _) _) _=_;cases bU e.1 lv<;>cases bU e.2.1 k<;>cases strEq e.2.2.1 s<;>rfl
  rw [h0];cases hh:iT lv (some (k,s)) e with
  | true=>
   refine⟨⟨e,ady ..,hh⟩,λe' he' h'=>?_⟩;have ht:∀x:Int×Int×List UInt8×Int,iT lv (some (k,s)) x=true->x.2.2.1=s:=λx hx=>by simp only [iT,UA,Hl] at hx;simpa using hx.2.2
   rw [hu e' he' e (ady ..) (by rw [ht e' h',ht e hh])]
  | false=>
   show match (List.rec none _ l:Option Int) with
    | none=>_
    | some kd=>_
   revert ih;cases (List.rec none (λe _ ih=>bi (bU e.1 lv) (bi (bU e.2.1 k) (bi (strEq e.2.2.1 s) (some e.2.2.2) ih) ih) ih) l:Option Int) with
   | none=>intro ih e' he';rcases Z5.1 he' with rfl | he';exact hh;exact ih e' he'
   | some kd=>rintro⟨⟨x,hx1,hx2⟩,h2⟩;refine⟨⟨x,Z7 _ hx1,hx2⟩,λe' he' h'=>?_⟩;rcases Z5.1 he' with rfl | he';rw [hh] at h';cases h';exact h2 e' he' h'
theorem Oi (lv k:Int)(s:List UInt8):match KX lv k s with
  | none=>∀e∈aQ,iT lv (some (k,s)) e=false
  | some kd=>(∃e∈aQ,iT lv (some (k,s)) e=true)∧∀e∈aQ,iT lv (some (k,s)) e=true->e.2.2.2=kd:=FH aQ (by decide)
theorem Oj {K:Known}{f C A t:Nat}(X:K.fns f=some (KZ C A t))(W:∀args m,K.eff f args m=none){N n:Nat}(hN:14<=N)
  (U:∀m:Mem,m.Ok->m.lim<=m.nx->l7 K N n (.func C) [] m=some [⟨.map m.nx,m.new (.map bJ)⟩])
  (T:∀e∈aQ,∀M,l7 K N n (.func A) [.int .i64 e.2.2.2] M=some [⟨.int .i64 e.1,M⟩])
  (S:∀a r off M,FE M r off a->∀e∈aQ,l7 K N n (.func t) [.ptr r off,.str e.2.2.1] M=some [⟨.bool (UA a e),M⟩])
  {m:Mem} (d:m.Ok) (x:m.lim<=m.nx) {r off:Nat} {lv:Int} {a:Option (Int×List UInt8)} {v v':d9} {p:Option P8} {B:P8} (R:r<m.nx) (ht:FE m r off a) (G:ld1 (m.get r) off=some v)
  (L:∀e∈aQ,iT lv a e=true->M9 (m.nx+2) 2 v 1 none=some (v',p)∧u7 v'=true∧v'.cells=[v']∧vC (m.get r) off [v']=some B∧m.lim<=r):
  ∃l,l7 K N (n+1) (.func f) [.ptr r off,.int .i64 lv] m=some l∧∀o∈l,∃M seen,vJ m M seen∧
   (((∀e∈aQ,iT lv a e=false)∧o=⟨.int .i64 0,M⟩)∨∃e∈aQ,iT lv a e=true∧o=⟨.int .i64 e.2.2.2,(dH M p).set r B⟩):=by
 have Ha':∀e∈aQ,∀M:Mem,(∀i,i<m.nx->M.get i=m.get i)->l7 K N n (.func t) [.ptr r off,.str e.2.2.1] M=some [⟨.bool (UA a e),M⟩]:=λe Z M Q=>by refine S a r off M ?_ e Z;obtain⟨w,b,h⟩:=ht;refine⟨w,by rw [Q r R];exact b,?_⟩;rcases h with h | ⟨k,s,id,o,len,h3,h4,h5⟩;exact .inl h;obtain⟨_,_,_,V,_⟩:=dD h4;have F:=Mem.J5 d V;exact .inr ⟨k,s,id,o,len,h3,by rw [Q id F];exact h4,h5⟩
 generalize hm2:(m.new (.map bJ)).new (.iter (some m.nx) bJ.length [])=mI;have y:=Mem.Ok.new d (.map bJ);have E:∀i,mI.get i=if i=m.nx+1 then some (.iter (some m.nx) bJ.length []) else if i=m.nx then some (.map bJ) else m.get i:=λi=>by rw [← hm2,Mem.L9 y,Mem.L9 d];rfl
 have O:vJ m mI []:={
  ok:=by rw [← hm2];exact Mem.Ok.new y _
  lim:=by rw [← hm2];rfl
  ll:=x
  mn:=by rw [← hm2];rfl
  gs:=by rw [E,if_neg (by omega),if_pos rfl]
  gi:=by rw [E,if_pos rfl]
  old:=λi g=>by rw [E,if_neg (by omega),if_neg (by omega)]}
 have u:bJ.length=13:=by decide
 obtain⟨z,H,I⟩:=aau (fu:=N) T Ha' G R L (.int .i64 0) 13 mI [] .undef .undef .undef .undef O (by rw [FC,u]) (λj e Y=>by cases Y) N (by omega);rw [dO];show ∃l,(Option.rec (ob (K.fns f) λP=>bi P.pure (iY K (l7 K N n) N f P [.ptr r off,.int .i64 lv] m) (lZ (l7 K N n) (tF K (l7 K N n) N) N P [.ptr r off,.int .i64 lv] m)) (λl=>some l) (K.eff f [.ptr r off,.int .i64 lv] m):gN)=some l∧_;rw [W,X];show ∃l,bnd (j4 (j4 (j5 (D8 (G7 C []) (Pt (oz H7) sH o9))) (F9 0 (O7 (Bo A t)))) (j4 (j5 (I6 (N8 (E9 (.int .i64 (.ofNat 0)))) (sL (sL (sL sH))) o9)) A8) (l7 K N n) N none
  (dY .undef .undef .undef (.int .i64 lv) (.ptr r off) .undef .undef (.int .i64 0)) m []) (leave _ [.tmp 7])=some l∧_
 refine bW (g1:=λo:Out=>∃b' kd' sg' cd' M seen',vJ m M seen'∧(((∀e∈aQ,iT lv a e=false)∧o=⟨.ret,dY (.ptr (m.nx+1) 0) b' kd' (.int .i64 lv) (.ptr r off) sg' cd' (.int .i64 0),M,[],none⟩)∨
  ∃e∈aQ,iT lv a e=true∧o=⟨.ret,dY (.ptr (m.nx+1) 0) b' kd' (.int .i64 lv) (.ptr r off) sg' cd' (.int .i64 e.2.2.2),(dH M p).set r B,[],none⟩)) ?_ ?_
 rw [vD];refine bW (g1:=λo:Out=>∃b' kd' sg' cd' M seen',vJ m M seen'∧(((∀e∈aQ,iT lv a e=false)∧o=⟨.normal,dY (.ptr (m.nx+1) 0) b' kd' (.int .i64 lv) (.ptr r off) sg' cd' (.int .i64 0),M,[],none⟩)∨
  ∃e∈aQ,iT lv a e=true∧o=⟨.ret,dY (.ptr (m.nx+1) 0) b' kd' (.int .i64 lv) (.ptr r off) sg' cd' (.int .i64 e.2.2.2),(dH M p).set r B,[],none⟩)) ?_ ?_
 rw [vD,zM,KN];have q:G7 C [] (l7 K N n) [] (dY .undef .undef .undef (.int .i64 lv) (.ptr r off) .undef .undef (.int .i64 0)) m=some [⟨.map m.nx,m.new (.map bJ)⟩]:=U m d x;rw [q];have J:oz H7 (l7 K N n) [.map m.nx] (dY .undef .undef .undef (.int .i64 lv) (.ptr r off) .undef .undef (.int .i64 0)) (m.new (.map bJ))=some [⟨.ptr (m.nx+1) 0,mI⟩]:=by show Pf ((m.new (.map bJ)).get m.nx) _=_;rw [Mem.L9 d,if_pos rfl];show one _ ((m.new (.map bJ)).new (.iter (some m.nx) (len' bJ) []))=_;rw [K4,hm2];rfl
 show ∃l,bnd (bnd (bnd (oz H7 (l7 K N n) [.map m.nx] (dY .undef .undef .undef (.int .i64 lv) (.ptr r off) .undef .undef (.int .i64 0)) (m.new (.map bJ))) _) (iy [])) _=some l∧_;rw [J];show ∃l,bnd (C8 (λD m k=>Bo A t (l7 K N n) N none D m k) N (dY (.ptr (m.nx+1) 0) .undef .undef (.int .i64 lv) (.ptr r off) .undef .undef (.int .i64 0)) mI []) (Uq 0)=some l∧_;refine bW ⟨z,H,I⟩ ?_;rintro o (⟨b,b',kd',sg',cd',M,seen',g,rfl⟩ | ⟨e,b,h,b',kd',sg',cd',M,seen',g,rfl⟩);exact⟨_,rfl,λo c=>⟨b',kd',sg',cd',M,seen',g,.inl ⟨b,aP.1 c⟩⟩⟩;exact⟨_,rfl,λo c=>⟨b',kd',sg',cd',M,seen',g,.inr ⟨e,b,h,aP.1 c⟩⟩⟩;rintro o ⟨b',kd',sg',cd',M,seen',g,⟨b,rfl⟩ | ⟨e,b,h,rfl⟩⟩;exact⟨_,rfl,λo c=>⟨b',kd',sg',cd',M,seen',g,.inl ⟨b,aP.1 c⟩⟩⟩;exact⟨_,rfl,λo c=>⟨b',kd',sg',cd',M,seen',g,.inr ⟨e,b,h,aP.1 c⟩⟩⟩;rintro o ⟨b',kd',sg',cd',M,seen',g,⟨b,rfl⟩ | ⟨e,b,h,rfl⟩⟩;exact⟨_,rfl,λo c=>⟨M,seen',g,.inl ⟨b,aP.1 c⟩⟩⟩;exact⟨_,rfl,λo c=>⟨M,seen',g,.inr ⟨e,b,h,aP.1 c⟩⟩⟩
theorem Si {m M:Mem}{d:List Nat}(c:m.Ok)(h:vJ m M d):Weak M (aK 2 m):=by
 obtain⟨g,j⟩:=sV 2 m;obtain⟨k,f⟩:=wz 2 c;exact {
  nx:=by rw [g,h.mn]
  lim:=by rw [j,h.lim]
  ok:=k
  old:=λi e=>by rw [h.lim] at e;have:=h.ll;rw [f,if_neg (by omega),h.old i (by omega)]
  blk:=λi b a=>by
   rw [f] at a;split at a;rename_i l;cases a;by_cases e:i=m.nx;rw [e];exact⟨_,h.gs,.inr (.inl ⟨rfl,rfl⟩)⟩;rw [show i=m.nx+1 from by omega];exact⟨_,h.gi,.inr (.inl ⟨rfl,rfl⟩)⟩;have:=Mem.J5 c a;exact⟨b,by rw [h.old i this];exact a,.inl rfl⟩}
theorem Weak.dH {m1 e:Mem}(h:Weak m1 e)(d:m1.Ok)(p:Option P8):Weak (dH m1 p) (dH e p):=by
 cases p with
 | none=>exact h
 | some x=>
  have c:e.Ok:=h.ok;exact {
   nx:=congrArg Nat.succ h.nx
   lim:=h.lim
   ok:=Mem.Ok.new c x
   old:=λi a=>by have a:i<m1.lim:=a;show (e.new x).get i=(m1.new x).get i;rw [Mem.L9 c,Mem.L9 d,h.nx,h.old i a]
   blk:=λi b hb=>by
    have hb:(e.new x).get i=some b:=hb;show ∃b1,(m1.new x).get i=some b1∧_;rw [Mem.L9 c,h.nx] at hb;rw [Mem.L9 d];split at hb;rename_i a;rw [if_pos a];exact⟨b,hb,.inl rfl⟩;rename_i a;rw [if_neg a];exact h.blk i b hb}
theorem Weak.set {m1 f:Mem}(h:Weak m1 f)(e:m1.Ok){r:Nat}(g:r<m1.nx)(j:m1.lim<=r)(B:P8):Weak (m1.set r B) (f.set r B):=by
 have d:f.Ok:=h.ok;have c:r<f.nx:=by rw [h.nx];exact g
 exact {
  nx:=h.nx
  lim:=h.lim
  ok:=Mem.Ok.set d c B
  old:=λi a=>by have a:i<m1.lim:=a;rw [Mem.V9 d c,Mem.V9 e g,h.old i a]
  blk:=λi b hb=>by
   rw [Mem.V9 d c] at hb;rw [Mem.V9 e g];split at hb;rename_i a;rw [if_pos a];exact⟨b,hb,.inl rfl⟩;rename_i a;rw [if_neg a];exact h.blk i b hb}
theorem Xq {m:Mem}(a:m.Ok)(p:Option P8){i:Nat}(b:i<m.nx):(dH m p).get i=m.get i:=by
 cases p with
 | none=>rfl
 | some x=>show (m.new x).get i=_;rw [Mem.L9 a,if_neg (by omega)]
theorem Ji (m:Mem)(p:Option P8):m.nx<=(dH m p).nx∧(dH m p).lim=m.lim:=by
 cases p with
 | none=>exact⟨q9 _,rfl⟩
 | some x=>exact⟨amc _,rfl⟩
theorem aav {m:Mem}(a:m.Ok)(p:Option P8):(dH m p).Ok:=by
 cases p with
 | none=>exact a
 | some x=>exact Mem.Ok.new a x
theorem Xr {P:Program}{K:Known}(hK:WZ P K){f fs fl fa:Nat}(Q:K.fns f=some (KZ fs fl fa))(he:∀args m,K.eff f args m=none){N n:Nat}(hN:14<=N)
  (Hs:∀m:Mem,m.Ok->m.lim<=m.nx->l7 K N n (.func fs) [] m=some [⟨.map m.nx,m.new (.map bJ)⟩])
  (Z:∀e∈aQ,∀M,l7 K N n (.func fl) [.int .i64 e.2.2.2] M=some [⟨.int .i64 e.1,M⟩])
  (Y:∀tok r off M,FE M r off tok->∀e∈aQ,l7 K N n (.func fa) [.ptr r off,.str e.2.2.1] M=some [⟨.bool (UA tok e),M⟩])
  {args:List d9} {m:Mem} {outs:List VM} (h:nN args m=some outs):
  AV P f∧∀{ι:J9} {w:World},RM P K.base ι m w.heap->aU (m.nm ι) args->CallsIn Fence.wide 0 P f (u6 ι args).toArray w (Q8 P K.base ι m w outs):=by
 obtain⟨r,off,lv,rfl⟩:∃r off lv,args=[.ptr r off,.int .i64 lv]:=by unfold nN at h;split at h;exact⟨_,_,_,rfl⟩;cases h
 have h:(U1 (m.get r) λrs n A=>ob (cell1 rs n A off) λv=>ob (lenOf v) λg=>
   (Nat.rec (rO v (one (.int .i64 0) (aK 2 m)) (λ_ _ _ _=>one (.int .i64 0) (aK 2 m)) (λ_ _ _ _=>one (.int .i64 0) (aK 2 m))) (λ_ _=>rO v none (λid o _ _=>nN.tok m id o v r off lv) (λid o _ _=>nN.tok m id o v r off lv)) g:gN))=some outs:=h
 obtain⟨rs,nn,A,T,h⟩:=dD h;obtain⟨v,hv,h⟩:=D6 h;obtain⟨g,j,h⟩:=D6 h;have t:ld1 (m.get r) off=some v:=by rw [T];exact hv
 have a:∀tok,FE m r off tok->(∀e∈aQ,iT lv tok e=false)->outs=[⟨.int .i64 0,aK 2 m⟩]->AV P f∧∀{ι:J9} {w:World},RM P K.base ι m w.heap->aU (m.nm ι) [.ptr r off,.int .i64 lv]->CallsIn Fence.wide 0 P f (u6 ι [.ptr r off,.int .i64 lv]).toArray w (Q8 P K.base ι m w outs):=by intro tok R y ho;refine vH hK Q λb E=>?_;have b:m.Ok:=b;obtain⟨l,C,D⟩:=Oj (v':=.undef) (p:=none) (B:=.void) Q he hN Hs Z Y b E (Mem.J5 b T) R t (lv:=lv) (λe z q=>by rw [y e z] at q;cases q);refine⟨N,n+1,l,C,λo F=>?_⟩;obtain⟨M,L,i,⟨_,rfl⟩ | ⟨e,z,q,_⟩⟩:=D o F;exact⟨⟨.int .i64 0,aK 2 m⟩,by rw [ho];exact aP.2 rfl,rfl,Si b i⟩;rw [y e z] at q;cases q
 cases g with
 | zero=>
  cases v with
  | nilSlice=>have h:one (.int .i64 0) (aK 2 m)=some outs:=h;cases h;exact a none ⟨_,t,.inl ⟨rfl,.inl rfl⟩⟩ (λe _=>by simp [iT,UA]) rfl
  | slice id o l c=>obtain rfl:l=0:=Y5 j;have h:one (.int .i64 0) (aK 2 m)=some outs:=h;cases h;exact a none ⟨_,t,.inl ⟨rfl,.inr (.inl ⟨_,_,_,rfl⟩)⟩⟩ (λe _=>by simp [iT,UA]) rfl
  | sliceU id o l c=>obtain rfl:l=0:=Y5 j;have h:one (.int .i64 0) (aK 2 m)=some outs:=h;cases h;exact a none ⟨_,t,.inl ⟨rfl,.inr (.inr ⟨_,_,_,rfl⟩)⟩⟩ (λe _=>by simp [iT,UA]) rfl
  | _=>cases h
 | succ g=>
  have J:∀id o,((∃c,v=.slice id o (g+1) c)∨∃es,v=.sliceU id o (g+1) es)->nN.tok m id o v r off lv=some outs->
    AV P f∧∀{ι:J9} {w:World},RM P K.base ι m w.heap->aU (m.nm ι) [.ptr r off,.int .i64 lv]->CallsIn Fence.wide 0 P f (u6 ι [.ptr r off,.int .i64 lv]).toArray w (Q8 P K.base ι m w outs):=by
   intro id o W h;unfold nN.tok at h;obtain⟨X,n2,G,U,h⟩:=dD h;obtain⟨l,hl,h⟩:=D6 h;split at h;rename_i k s;have R:FE m r off (some (k,s)):=⟨v,t,.inr ⟨k,s,id,o,g,W,by rw [U];show ob (jQ X n2 G o 2) _=_;rw [hl];rfl,rfl⟩⟩;have d:=Oi lv k s;cases hfd:KX lv k s with
   | none=>rw [hfd] at h d;have h:one (.int .i64 0) (aK 2 m)=some outs:=h;cases h;exact a _ R d rfl
   | some kd=>
    rw [hfd] at h d;have h:(ob (M9 (aK 2 m).nx 2 v 1 none) λp=>storeAt (dH (aK 2 m) p.2) r off [p.1] λm'=>one (.int .i64 kd) m')=some outs:=h;obtain⟨⟨v',p⟩,hs,h⟩:=D6 h;have O:=h;obtain⟨c1,h⟩:=jW h;obtain⟨c2,h⟩:=G8 h;have u:(dH (aK 2 m) p).lim<=r:=ad9 λq=>(by rw [show Nat.blt r (dH (aK 2 m) p).lim=true from Y4▸q] at c1;cases c1);rw [lJ u c2] at O;obtain⟨B,hB,O⟩:=D6 O;cases O;have H:u7 v'=true:=(dx c2).1;have x:v'.cells=[v']:=by cases v'<;>first | rfl | cases H
    refine vH hK Q λb E=>?_;have b:m.Ok:=b;have V:=Mem.J5 b T;obtain⟨d1,d2⟩:=sV 2 m;obtain⟨d3,d4⟩:=wz 2 b;have I:m.lim<=r:=(by rw [(Ji _ p).2,d2] at u;exact u);rw [Xq d3 p (by rw [d1];omega),d4,if_neg (by omega)] at hB;obtain⟨l,C,D⟩:=Oj (v':=v') (p:=p) (B:=B) Q he hN Hs Z Y b E V R t (lv:=lv) (λe z q=>⟨by rw [← d1];exact hs,H,x,hB,I⟩);refine⟨N,n+1,l,C,λo F=>?_⟩;obtain⟨M,L,i,⟨y,_⟩ | ⟨e,z,q,rfl⟩⟩:=D o F;obtain⟨⟨e,z,q⟩,_⟩:=d;rw [y e z] at q;cases q;refine⟨_,aP.2 rfl,by rw [d.2 e z q],?_⟩;have S:M.nx<=(dH M p).nx∧(dH M p).lim=M.lim:=Ji M p;exact ((Si b i).dH i.ok p).set (aav i.ok p) (by have:=i.mn;omega) (by rw [S.2,i.lim];exact I) B
   cases h
  cases v with
  | slice id o l c=>obtain rfl:l=g+1:=Y5 j;exact J id o (.inl ⟨c,rfl⟩) h
  | sliceU id o l c=>obtain rfl:l=g+1:=Y5 j;exact J id o (.inr ⟨c,rfl⟩) h
  | _=>cases h
set_option maxHeartbeats 2000000
def Dy:R5:=⟨false,[],1,[.tmp 0],(j4 (j5 (I6 (N8 (E9 .nilMap)) sH o9)) (j4 (j5 (jT (fE) (D8 (I5 N9 1 H7 (E9 (.int .i64 (.ofNat 6))) (E9 (.str [42]))) (D8 (I5 N9 1 bY (E9 (.int .i64 (.ofNat 7))) (E9 (.str [47]))) (D8 (I5 N9 1 bZ (E9 (.int .i64 (.ofNat 8))) (E9 (.str [37]))) (D8 (I5 N9 1 qB (E9 (.int .i64 (.ofNat 9))) (E9 (.str [43]))) (D8 (I5 N9 1 (bg 4) (E9 (.int .i64 (.ofNat 10))) (E9 (.str [45]))) (D8 (I5 N9 1 (bg 5) (E9 (.int .i64 (.ofNat 11))) (E9 (.str [60]))) (D8 (I5 N9 1 (bg 6) (E9 (.int .i64 (.ofNat 12))) (E9 (.str [60,61]))) (D8 (I5 N9 1 (bg 7) (E9 (.int .i64 (.ofNat 13))) (E9 (.str [62]))) (D8 (I5 N9 1 (bg 8) (E9 (.int .i64 (.ofNat 14))) (E9 (.str [62,61]))) (D8 (I5 N9 1 (bg 9) (E9 (.int .i64 (.ofNat 15))) (E9 (.str [61,61]))) (D8 (I5 N9 1 (bg 10) (E9 (.int .i64 (.ofNat 16))) (E9 (.str [33,61]))) (D8 (I5 N9 1 (bg 11) (E9 (.int .i64 (.ofNat 17))) (E9 (.str [97,110,100]))) (D8 (I5 N9 1 (bg 12) (E9 (.int .i64 (.ofNat 18))) (E9 (.str [111,114]))) (I6 (N8 (bg 13)) sH o9)))))))))))))))) A8)),none⟩
def La:R5:=⟨false,[(some 0)],10,[.tmp 9],(j4 (j5 (I6 (N8 (E9 (.int .i64 (.ofNat 0)))) (sL (sR (sL sH))) o9)) (j4 (j4 (j5 (I6 (N8 (J7 gH)) (sL sH) o9)) (F9 0 (j4 (j5 (j6 (O5 gU gV (J7 (gL gH)) (E9 (.int .i64 (.ofNat 18)))) (I6 (N8 H7) (sR sH) o9))) (w9 (J7 (gR gH)) (j4 (j5 (I6 (N8 (E9 (.int .i64 (.ofNat 0)))) (sL (sR (sL sH))) o9)) A8) (j4 (j5 (j6 (O5 gU gV (J7 (gL gH)) (E9 (.int .i64 (.ofNat 17)))) (I6 (N8 H7) (sL (sL sH)) o9))) (w9 (J7 (gL (gL gH))) (j4 (j5 (I6 (N8 (E9 (.int .i64 (.ofNat 1)))) (sL (sR (sL sH))) o9)) A8) (j4 (j5 (j6 (O5 gU gV (J7 (gL gH)) (E9 (.int .i64 (.ofNat 5)))) (I6 (N8 H7) (sR (sL sH)) o9))) (w9 (J7 (gR (gL gH))) (j4 (j5 (I6 (N8 (E9 (.int .i64 (.ofNat 2)))) (sL (sR (sL sH))) o9)) A8) (j4 (j4 (j5 (j6 (O5 gU gV (J7 (gL gH)) (E9 (.int .i64 (.ofNat 11)))) (I6 (N8 H7) (sL (sR sH)) o9))) (w9 (J7 (gL (gR gH))) D7 (j4 (j5 (j6 (O5 gU gV (J7 (gL gH)) (E9 (.int .i64 (.ofNat 12)))) (I6 (N8 H7) (sL (sR sH)) o9))) (w9 (J7 (gL (gR gH))) D7 (j4 (j5 (j6 (O5 gU gV (J7 (gL gH)) (E9 (.int .i64 (.ofNat 13)))) (I6 (N8 H7) (sL (sR sH)) o9))) (w9 (J7 (gL (gR gH))) D7 (j4 (j5 (j6 (O5 gU gV (J7 (gL gH)) (E9 (.int .i64 (.ofNat 14)))) (I6 (N8 H7) (sL (sR sH)) o9))) (w9 (J7 (gL (gR gH))) D7 (j4 (j5 (j6 (O5 gU gV (J7 (gL gH)) (E9 (.int .i64 (.ofNat 15)))) (I6 (N8 H7) (sL (sR sH)) o9))) (w9 (J7 (gL (gR gH))) D7 (j5 (j6 (O5 gU gV (J7 (gL gH)) (E9 (.int .i64 (.ofNat 16)))) (I6 (N8 H7) (sL (sR sH)) o9))))))))))))) (w9 (J7 (gL (gR gH))) (j4 (j5 (I6 (N8 (E9 (.int .i64 (.ofNat 3)))) (sL (sR (sL sH))) o9)) A8) (j4 (j4 (j5 (j6 (O5 gU gV (J7 (gL gH)) (E9 (.int .i64 (.ofNat 9)))) (I6 (N8 H7) (sR (sR sH)) o9))) (w9 (J7 (gR (gR gH))) D7 (j5 (j6 (O5 gU gV (J7 (gL gH)) (E9 (.int .i64 (.ofNat 10)))) (I6 (N8 H7) (sR (sR sH)) o9))))) (w9 (J7 (gR (gR gH))) (j4 (j5 (I6 (N8 (E9 (.int .i64 (.ofNat 4)))) (sL (sR (sL sH))) o9)) A8) (j4 (j4 (j5 (j6 (O5 gU gV (J7 (gL gH)) (E9 (.int .i64 (.ofNat 6)))) (I6 (N8 H7) (sL (sL (sL sH))) o9))) (w9 (J7 (gL (gL (gL gH)))) D7 (j4 (j5 (j6 (O5 gU gV (J7 (gL gH)) (E9 (.int .i64 (.ofNat 7)))) (I6 (N8 H7) (sL (sL (sL sH))) o9))) (w9 (J7 (gL (gL (gL gH)))) D7 (j5 (j6 (O5 gU gV (J7 (gL gH)) (E9 (.int .i64 (.ofNat 8)))) (I6 (N8 H7) (sL (sL (sL sH))) o9))))))) (w9 (J7 (gL (gL (gL gH)))) (j4 (j5 (I6 (N8 (E9 (.int .i64 (.ofNat 5)))) (sL (sR (sL sH))) o9)) A8) (j4 (j5 (j6 (O5 gU gV (J7 (gL gH)) (E9 (.int .i64 (.ofNat 4)))) (I6 (N8 H7) (sR (sL (sL sH))) o9))) (w9 (J7 (gR (gL (gL gH)))) (j4 (j5 (I6 (N8 (E9 (.int .i64 (.ofNat 6)))) (sL (sR (sL sH))) o9)) A8) D7)))))))))))))))) (j4 (j5 (I6 (N8 (E9 (.int .i64 (.ofNat 7)))) (sL (sR (sL sH))) o9)) A8))),none⟩
theorem Lb {K:Known}{f:FuncId}{sf:R5}(b:K.fns f=some sf)(hp:sf.pure=false)(a:∀args m,K.eff f args m=none)(N n:Nat)(args:List d9)(m:Mem):
  l7 K N (n+1) (.func f) args m=lZ (l7 K N n) (tF K (l7 K N n) N) N sf args m:=by
 rw [dO];show (Option.rec (ob (K.fns f) λsf=>bi sf.pure (iY K (l7 K N n) N f sf args m) (lZ (l7 K N n) (tF K (l7 K N n) N) N sf args m)) (λl=>some l) (K.eff f args m):gN)=_;rw [a,b];show bi sf.pure _ _=_;rw [hp];rfl
theorem Q6 {m:Mem}(c:m.Ok)(d:m.lim<=m.nx)(a:List (d9×d9))(k:Int)(s:List UInt8)(h:R3 N9 1 (.int .i64 k) a=some none){mp:OF}{ls:List d9}{env:T d9}(cf:H8)(e:mp ls env=.map m.nx):
  I5 N9 1 mp (E9 (.int .i64 k)) (E9 (.str s)) cf ls env (m.new (.map a))=some [⟨.undef,m.new (.map (a ++ [(.int .i64 k,.str s)]))⟩]:=by
 rw [sU,e];show bi (Nat.blt m.nx m.lim) none (ob (msB ((m.new (.map a)).get m.nx) N9 1 (.int .i64 k) (.str s)) λb=>some [(⟨.undef,(m.new (.map a)).set m.nx b⟩:VM)])=_;rw [Xo d,Mem.L9 c,if_pos rfl];show ob (ob (R3 N9 1 (.int .i64 k) a) _) _=_;rw [h];show some [(⟨.undef,(m.new (.map a)).set m.nx (.map (a ++ [(.int .i64 k,.str s)]))⟩:VM)]=_;rw [Mem.KO c]
theorem Xt {K:Known}{f:FuncId}(v:K.fns f=some Dy)(u:∀args m,K.eff f args m=none)(N n:Nat)(m:Mem)(b:m.Ok)(a:m.lim<=m.nx):
  l7 K N (n+1) (.func f) [] m=some [⟨.map m.nx,m.new (.map bJ)⟩]:=by
 rw [Lb v rfl u];have i:=λ(cf:H8) (mp:OF) (ls:List d9) (env:T d9) (h:mp ls env=.map m.nx)=>Q6 b a [] 6 [42] (by rfl) cf h;have j:=λ(cf:H8) (mp:OF) (ls:List d9) (env:T d9) (h:mp ls env=.map m.nx)=>Q6 b a [(.int .i64 6,.str [42])] 7 [47] (by rfl) cf h;have k:=λ(cf:H8) (mp:OF) (ls:List d9) (env:T d9) (h:mp ls env=.map m.nx)=>Q6 b a [(.int .i64 6,.str [42]),(.int .i64 7,.str [47])] 8 [37] (by rfl) cf h;have l:=λ(cf:H8) (mp:OF) (ls:List d9) (env:T d9) (h:mp ls env=.map m.nx)=>Q6 b a [(.int .i64 6,.str [42]),(.int .i64 7,.str [47]),(.int .i64 8,.str [37])] 9 [43] (by rfl) cf h;have o:=λ(cf:H8) (mp:OF) (ls:List d9) (env:T d9) (h:mp ls env=.map m.nx)=>Q6 b a [(.int .i64 6,.str [42]),(.int .i64 7,.str [47]),(.int .i64 8,.str [37]),(.int .i64 9,.str [43])] 10 [45] (by rfl) cf h;have p:=λ(cf:H8) (mp:OF) (ls:List d9) (env:T d9) (h:mp ls env=.map m.nx)=>Q6 b a [(.int .i64 6,.str [42]),(.int .i64 7,.str [47]),(.int .i64 8,.str [37]),(.int .i64 9,.str [43]),(.int .i64 10,.str [45])] 11 [60] (by rfl) cf h;have q:=λ(cf:H8) (mp:OF) (ls:List d9) (env:T d9) (h:mp ls env=.map m.nx)=>Q6 b a [(.int .i64 6,.str [42]),(.int .i64 7,.str [47]),(.int .i64 8,.str [37]),(.int .i64 9,.str [43]),(.int .i64 10,.str [45]),(.int .i64 11,.str [60])] 12 [60,61] (by rfl) cf h;have r:=λ(cf:H8) (mp:OF) (ls:List d9) (env:T d9) (h:mp ls env=.map m.nx)=>Q6 b a [(.int .i64 6,.str [42]),(.int .i64 7,.str [47]),(.int .i64 8,.str [37]),(.int .i64 9,.str [43]),(.int .i64 10,.str [45]),(.int .i64 11,.str [60]),(.int .i64 12,.str [60,61])] 13 [62] (by rfl) cf h
 have s:=λ(cf:H8) (mp:OF) (ls:List d9) (env:T d9) (h:mp ls env=.map m.nx)=>Q6 b a [(.int .i64 6,.str [42]),(.int .i64 7,.str [47]),(.int .i64 8,.str [37]),(.int .i64 9,.str [43]),(.int .i64 10,.str [45]),(.int .i64 11,.str [60]),(.int .i64 12,.str [60,61]),(.int .i64 13,.str [62])] 14 [62,61] (by rfl) cf h;have t:=λ(cf:H8) (mp:OF) (ls:List d9) (env:T d9) (h:mp ls env=.map m.nx)=>Q6 b a [(.int .i64 6,.str [42]),(.int .i64 7,.str [47]),(.int .i64 8,.str [37]),(.int .i64 9,.str [43]),(.int .i64 10,.str [45]),(.int .i64 11,.str [60]),(.int .i64 12,.str [60,61]),(.int .i64 13,.str [62]),(.int .i64 14,.str [62,61])] 15 [61,61] (by rfl) cf h;have c:=λ(cf:H8) (mp:OF) (ls:List d9) (env:T d9) (h:mp ls env=.map m.nx)=>Q6 b a [(.int .i64 6,.str [42]),(.int .i64 7,.str [47]),(.int .i64 8,.str [37]),(.int .i64 9,.str [43]),(.int .i64 10,.str [45]),(.int .i64 11,.str [60]),(.int .i64 12,.str [60,61]),(.int .i64 13,.str [62]),(.int .i64 14,.str [62,61]),(.int .i64 15,.str [61,61])] 16 [33,61] (by rfl) cf h;have d:=λ(cf:H8) (mp:OF) (ls:List d9) (env:T d9) (h:mp ls env=.map m.nx)=>Q6 b a [(.int .i64 6,.str [42]),(.int .i64 7,.str [47]),(.int .i64 8,.str [37]),(.int .i64 9,.str [43]),(.int .i64 10,.str [45]),(.int .i64 11,.str [60]),(.int .i64 12,.str [60,61]),(.int .i64 13,.str [62]),(.int .i64 14,.str [62,61]),(.int .i64 15,.str [61,61]),(.int .i64 16,.str [33,61])] 17 [97,110,100] (by rfl) cf h
 have g:=λ(cf:H8) (mp:OF) (ls:List d9) (env:T d9) (h:mp ls env=.map m.nx)=>Q6 b a [(.int .i64 6,.str [42]),(.int .i64 7,.str [47]),(.int .i64 8,.str [37]),(.int .i64 9,.str [43]),(.int .i64 10,.str [45]),(.int .i64 11,.str [60]),(.int .i64 12,.str [60,61]),(.int .i64 13,.str [62]),(.int .i64 14,.str [62,61]),(.int .i64 15,.str [61,61]),(.int .i64 16,.str [33,61]),(.int .i64 17,.str [97,110,100])] 18 [111,114] (by rfl) cf h;simp only [afs,aj3] at i j k l o p q r s t c d g;have e:bJ=[(.int .i64 6,.str [42]),(.int .i64 7,.str [47]),(.int .i64 8,.str [37]),(.int .i64 9,.str [43]),(.int .i64 10,.str [45]),(.int .i64 11,.str [60]),(.int .i64 12,.str [60,61]),(.int .i64 13,.str [62]),(.int .i64 14,.str [62,61]),(.int .i64 15,.str [61,61]),(.int .i64 16,.str [33,61]),(.int .i64 17,.str [97,110,100]),(.int .i64 18,.str [111,114])]:=rfl;rw [e];simp [Dy,lZ,dh,uw,fE,i,j,k,l,o,p,q,r,s,t,c,d,g]
theorem Xu {K:Known}{f:FuncId}(c:K.fns f=some La)(b:∀args m,K.eff f args m=none)(N n:Nat):∀e∈aQ,∀m:Mem,l7 K N (n+1) (.func f) [.int .i64 e.2.2.2] m=some [⟨.int .i64 e.1,m⟩]:=by intro e a m;rw [Lb c rfl b];simp only [aQ,Z5,aku,or_false] at a;rcases a with rfl | rfl | rfl | rfl | rfl | rfl | rfl | rfl | rfl | rfl | rfl | rfl | rfl<;>rfl
def zR:R5:=⟨false,[(some 0)],2,[.tmp 1],(j4 (j5 (I6 (N8 (E9 (.bool false))) (sL sH) o9)) (j4 (j5 (j6 (O5 Rm Vw (J7 gH) (E9 (.int .u8 (.ofNat 97)))) (j6 (gP H7 true (N8 (J7 gH))) (j6 (gP bY true (O5 Pg Rn H7 (E9 (.int .u8 (.ofNat 122))))) (j6 (eG bZ H7 (E9 (.bool false))) (I6 (N8 H7) (sL sH) o9)))))) A8)),none⟩
def UC (fi:Nat):R5:=⟨false,[(some 2),(some 0)],5,[.tmp 4],(j4 (j5 (I6 (N8 (E9 (.bool false))) (sR (sL sH)) o9)) (j4 (j5 (I6 (N8 (E9 (.int .i64 (.ofNat 3)))) (sL (sL sH)) o9)) (j4 (j4 (j5 (j6 (uy (J7 gH) (E9 (.int .i64 (.ofNat 0)))) (Pt (G7 fi [H7]) (sL sH) o9))) (w9 (J7 (gL gH)) (j5 (I6 (N8 (E9 (.int .i64 (.ofNat 1)))) (sL (sL sH)) o9)) D7)) (j4 (j5 (j6 (eH (J7 (gR gH))) (j6 (K7 0 H7) (C9 (jl H7) (j6 (Ap H7) (j6 (O5 JQ LX H7 (E9 (.int .i64 (.ofNat 0)))) (j6 (gP H7 true (N8 (J7 (gR gH)))) (j6 (gP bY true (eH H7)) (j6 (gP bZ true (K7 0 H7)) (C9 (Vx qB true (jl H7)) (j6 (gP (bg 4) true (U5 2 H7 (E9 (.int .i64 (.ofNat 0))))) (C9 (Vx (bg 5) true (bG 2 H7)) (j6 (gP (bg 6) true (N8 (J7 (gL (gL gH))))) (j6 (gP (bg 7) true (N8 (J7 gH))) (j6 (gP (bg 8) true (V4 [(.int .i64 (.ofNat 0)),(.str [])] [(0,1,bY),(1,1,H7)])) (j6 (gP (bg 9) true (pEq (xI [.i,.s]) qB H7)) (j6 (eG (bg 10) H7 (E9 (.bool false))) (I6 (N8 H7) (sR (sL sH)) o9)))))))))))))))))) A8)))),none⟩
theorem UD {K:Known}{f:FuncId}(d:K.fns f=some zR)(c:∀args m,K.eff f args m=none)(N n:Nat):∀e∈aQ,∃b t,e.2.2.1=b::t∧
  ∀m:Mem,l7 K N (n+1) (.func f) [.int .u8 (b.toNat:Int)] m=some [⟨.bool (decide (e.2.1=1)),m⟩]:=by
 intro e a;simp only [aQ,Z5,aku,or_false] at a;rcases a with rfl | rfl | rfl | rfl | rfl | rfl | rfl | rfl | rfl | rfl | rfl | rfl | rfl<;>exact⟨_,_,rfl,λm=>by rw [Lb d rfl c];rfl⟩
theorem Xv:∀e∈aQ,e.2.1=1∨e.2.1=3:=by decide
theorem aiD (k n:Int)(s a:List UInt8):xI [.i,.s] (.agg [.int .i64 k,.str s]) (.agg [.int .i64 n,.str a])=some (decide (n=k)&&(a==s)):=by
 have h:xI [.i,.s] (.agg [.int .i64 k,.str s]) (.agg [.int .i64 n,.str a])=some (bi (bU k n) (strEq s a) false):=by simp [xI,bO,GJ,N9,eqStr];cases bU k n<;>cases strEq s a<;>rfl
 rw [h,gy,iB];congr 1;by_cases h1:k=n;subst h1;rw [beq_self_eq_true,decide_eq_true rfl];show (s==a)=(true&&(a==s));rw [adL];exact ada.2 ⟨λh=>by simpa using (beq_iff_eq.1 h).symm,λh=>by simpa using (beq_iff_eq.1 h).symm⟩;rw [beq_eq_false_iff_ne.2 h1,decide_eq_false (ahq h1)];rfl
theorem aeA {cf:H8}{h:jU}{N i r off:Nat}{M:Mem}{f:Option (Int×List UInt8)}(q:FE M r off f){b:UInt8}{t:List UInt8}{g:Bool}(j:cf (.func i) [.int .u8 (b.toNat:Int)] M=some [⟨.bool g,M⟩]):
  lZ cf h N (UC i) [.ptr r off,.str (b::t)] M=some [⟨.bool (match f with | some (k,s)=>decide ((bif g then 1 else 3)=k)&&((b::t)==s) | none=>false),M⟩]:=by
 have e:∀(l r:T d9),uy (J7 gH) (E9 (.int .i64 0)) [] (.nd l (.str (b::t)) r)=some (.int .u8 (b.toNat:Int)):=λ_ _=>rfl;have a:∀(n:Int) (ls:List d9) (env:T d9),lay [(0,1,bY),(1,1,H7)] (.str (b::t) :: .int .i64 n::ls) env [.int .i64 0,.str []]=some [.int .i64 n,.str (b::t)]:=λ_ _ _=>rfl;obtain⟨v,d,⟨rfl,p⟩ | ⟨k,s,id,o,w,u,m,rfl⟩⟩:=q;rcases p with rfl | ⟨id,o,c,rfl⟩ | ⟨id,o,es,rfl⟩<;>cases g<;>simp [UC,lZ,dh,uw,G7,e,j,d]
 rcases u with⟨c,rfl⟩ | ⟨es,rfl⟩<;>cases g<;>simp [UC,lZ,dh,uw,G7,e,j,d,m,a,aiD,-Ut,-Uu]
theorem aiE {K:Known}{a c:Nat}(d:K.fns a=some (UC c))(g:K.fns c=some zR)(j:∀f args m,K.eff f args m=none)(N n:Nat):
  ∀tok r off M,FE M r off tok->∀e∈aQ,l7 K N (n+2) (.func a) [.ptr r off,.str e.2.2.1] M=some [⟨.bool (UA tok e),M⟩]:=by
 intro tok r off M q e k;obtain⟨b,t,i,l⟩:=UD g (j c) N n e k;rw [Lb d rfl (j a),i,aeA q (l M)];have o:(bif decide (e.2.1=1) then (1:Int) else 3)=e.2.1:=by rcases Xv e k with h | h;rw [h];rfl;rw [h];rfl
 rw [o];unfold UA;cases tok with
 | none=>rfl
 | some p=>rw [i]
theorem aaw {P:Program}{K:Known}(j:WZ P K){f c b g i:Nat}(l:K.fns f=some (KZ c b g))(hs:K.fns c=some Dy)(p:K.fns b=some La)(k:K.fns g=some (UC i))(o:K.fns i=some zR)
  (a:∀f args m,K.eff f args m=none) {args:List d9} {m:Mem} {outs:List VM} (h:nN args m=some outs):
  AV P f∧∀{ι:J9} {w:World},RM P K.base ι m w.heap->aU (m.nm ι) args->CallsIn Fence.wide 0 P f (u6 ι args).toArray w (Q8 P K.base ι m w outs):=
 Xr j l (a f) (N:=14) (n:=2) (q9 _) (λm e d=>Xt hs (a c) 14 1 m e d) (Xu p (a b) 14 1) (aiE k o a 14 0) h
structure Gx (m:Mem)(id rs:Nat)(l:List (List d9)):Prop where
 pos:0<rs
 len:∀r,r∈l->r.length=rs
 blk:∃c t c',m.get id=some (.cells rs c t)∧l.length<=c∧c<=c'∧T.Ok t c'∧∀i (h:i<l.length),t.get i=some l[i]
structure dU (id:Nat)(m m':Mem):Prop where
 ok:T.Ok m'.t m'.nx
 nx:m.nx<=m'.nx
 lim:m'.lim=m.lim
 old:∀i,i<m.nx->i≠id->m'.get i=m.get i
theorem dU.refl {id:Nat}{m:Mem}(h:T.Ok m.t m.nx):dU id m m:=⟨h,q9 _,rfl,λ_ _ _=>rfl⟩
theorem dU.trans {id:Nat}{a b c:Mem}(h:dU id a b)(k:dU id b c):dU id a c:=
 ⟨k.ok,aA h.nx k.nx,k.lim.trans h.lim,λi d e=>(k.old i (gq d h.nx) e).trans (h.old i d e)⟩
theorem Ext.toB {id:Nat}{a b:Mem}(h:Ext a b):dU id a b:=⟨h.ok,h.nx,h.lim,λi c _=>h.old i c⟩
theorem Gx.same {m m':Mem}{id rs:Nat}{l:List (List d9)}(h:Gx m id rs l)(e:m'.get id=m.get id):Gx m' id rs l:=by obtain⟨p,f,c,t,a,b,d⟩:=h;exact⟨p,f,c,t,a,e.trans b,d⟩
theorem Gx.ext {m m':Mem}{id rs:Nat}{l:List (List d9)}(h:Gx m id rs l)(a:id<m.nx)(e:Ext m m'):Gx m' id rs l:=h.same (e.old id a)
theorem Gx.take {m:Mem}{id rs:Nat}{l:List (List d9)}(h:Gx m id rs l)(k:Nat):Gx m id rs (l.take k):=by
 obtain⟨p,n,c,t,b,e,q,d,f,g⟩:=h;refine⟨p,λr o=>n r (agn o),c,t,b,e,by simp;omega,d,f,λi j=>?_⟩;have a:i<l.length:=by simp at j;omega
 rw [g i a,List.getElem_take]
theorem Gx.Gw {m:Mem}{id rs:Nat}{l:List (List d9)}(h:Gx m id rs l){i:Nat}(b:i<l.length):AM.Gw (m.get id) (i*rs) rs=some (.agg l[i]):=by obtain⟨p,g,c,t,q,e,s,r,u,f⟩:=h;have o:=g l[i] (aaO b);have d:=yC (rs:=rs) (n:=c) (rows:=t) (i:=i) (j:=0) (k:=rs) p (by omega) (f i b) o (by omega);rw [Y1] at d;rw [e];show U1 (some (P8.cells rs c t)) (λa n rows=>ob (jQ a n rows (i*rs) rs) λl=>some (d9.agg l))=_;rw [gK,d,L8,q8,W9 (by omega)]
theorem Gx.ld1 {m:Mem}{id rs:Nat}{l:List (List d9)}(h:Gx m id rs l){i j:Nat}(f:i<l.length)(g:j<rs):AM.ld1 (m.get id) (i*rs+j)=l[i][j]?:=by obtain⟨p,s,c,t,k,d,q,o,r,e⟩:=h;rw [d];show U1 (some (P8.cells rs c t)) (λb n a=>cell1 b n a (i*rs+j))=_;rw [gK,nZ g (by omega) (e i f)]
theorem Gx.store {m:Mem}{id rs:Nat}{l:List (List d9)}(h:Gx m id rs l)(o:m.Ok)(a:id<m.nx)(d:m.lim<=id){i:Nat}(u:i<l.length){row:List d9}(F:row.length=rs)(C:J8 row=true):
  ∃m',(∀{β:Type} (k:Mem->Option β),storeAt m id (i*rs) row k=k m')∧Gx m' id rs (l.set i row)∧dU id m m':=by
 obtain⟨p,w,c,t,x,z,A,y,g,s⟩:=h;have E:Nat.div (i*rs) rs=i:=ahz i p;have H:Nat.mod (i*rs) rs=0:=Nat.mul_mod_left i rs;have f:=s i u;have D:=w l[i] (aaO u);have G:aI rs c t (i*rs) row=some (t.put i row):=by
  unfold aI;rw [E,H,show Nat.blt i c=true from Y4.mpr (by omega),f];show bi (Nat.ble (Nat.add 0 (len' row)) rs) (some (t.put i (lX 0 row l[i]))) none=_;rw [K4,show Nat.ble (Nat.add 0 row.length) rs=true from Z4 (by show 0+row.length<=rs;omega),mh _ _ _ (by omega),aha,aaF,
   acZ (by omega)]
  simp
 refine⟨m.set id (.cells rs c (t.put i row)),λk=>?_,⟨p,λr q=>?_,c,t.put i row,x,?_,by simpa using A,y,T.Ok.put g i row (by omega),λj v=>?_⟩,?_⟩;rw [lJ d C,z];show ob (ob (aI rs c t (i*rs) row) λb=>some (P8.cells rs c b)) _=_;rw [G];rfl;rcases List.mem_or_eq_of_mem_set q with h | rfl;exact w r h;exact F;rw [Mem.V9 o a,if_pos rfl];have n:j<l.length:=by simpa using v
 rw [List.getElem_set];split;rename_i e;subst e;exact T.aY g _ _ (by omega);rename_i e;rw [T.bH g _ _ _ (by omega) e];exact s j n;exact⟨Mem.Ok.set o a _,by simp,rfl,λj v B=>by rw [Mem.V9 o a,if_neg B]⟩
theorem zS {rs n:Nat}{rows:T (List d9)}:∀(a b off:Nat),M0 rs n rows (a+b) off=ob (M0 rs n rows a off) λx=>ob (M0 rs n rows b (off+a)) λy=>some (x++y)
 | 0,b,off=>by rw [aaF,Y1];show _=ob (M0 rs n rows b off) λy=>some ([]++y);cases M0 rs n rows b off<;>rfl
 | a+1,b,off=>by
  rw [show a+1+b=(a+b)+1 from by omega];show ob (cell1 rs n rows off) (λv=>ob (M0 rs n rows (a+b) (off+1)) λl=>some (v::l))=ob (ob (cell1 rs n rows off) λv=>ob (M0 rs n rows a (off+1)) λl=>some (v::l)) _;rw [zS a b (off+1),show off+1+a=off+(a+1) from by omega];cases cell1 rs n rows off with
  | none=>rfl
  | some v=>
   simp only [L8];cases M0 rs n rows a (off+1) with
   | none=>rfl
   | some x=>simp only [L8];cases M0 rs n rows b (off+(a+1))<;>rfl
theorem zT {rs n:Nat}{rows:T (List d9)}{i:Nat}{row:List d9}(b:i<n)(h:rows.get i=some row)(d:row.length=rs):
  ∀k j,j+k=rs->M0 rs n rows k (i*rs+j)=some (row.drop j):=by
 intro k;induction k with
 | zero=>intro j c;rw [acZ (by omega)];rfl
 | succ k ih=>
  intro j c;show ob (cell1 rs n rows (i*rs+j)) (λv=>ob (M0 rs n rows k (i*rs+j+1)) λl=>some (v::l))=_;have a:j<row.length:=by omega
  rw [nZ (by omega) b h,J3 a,L8,show i*rs+j+1=i*rs+(j+1) from by omega,ih (j+1) (by omega),Xd a];rfl
theorem xC {rs n:Nat}{rows:T (List d9)}{l:List (List d9)}(c:∀r,r∈l->r.length=rs)(h:∀i (h:i<l.length),rows.get i=some l[i])(d:l.length<=n):
  ∀k i,i+k=l.length->M0 rs n rows (k*rs) (i*rs)=some (l.drop i).flatten:=by
 intro k;induction k with
 | zero=>intro i b;rw [acZ (by omega),ad4];rfl
 | succ k ih=>
  intro i b;have a:i<l.length:=by omega
  have:=zT (n:=n) (i:=i) (by omega) (h i a) (c _ (aaO a)) rs 0 (by omega);rw [Y1,q8] at this;rw [show (k+1)*rs=rs+k*rs from by rw [ad8,Nat.one_mul,aj8],zS,this,L8,show i*rs+rs=(i+1)*rs from by rw [ad8,Nat.one_mul],ih (i+1) (by omega),L8,Xd a];rfl
theorem Ct {rs:Nat}:∀(l:List (List d9)),(∀r,r∈l->r.length=rs)->rowsOf rs l.length l.flatten=some l
 | [],_=>rfl
 | r::l,h=>by have hr:=h r (by simp);show ob (takeN rs (r++l.flatten)) (λx=>ob (rowsOf rs l.length (lW rs (r++l.flatten))) λrest=>some (x::rest))=_;rw [oI _ _ (by simp;omega),L8,mg,List.drop_left' hr,List.take_left' hr,Ct l (λx hx=>h x (by simp [hx]))];rfl
theorem Sj {m:Mem}(b:m.Ok){rs:Nat}(hp:0<rs){l:List (List d9)}(a:∀r,r∈l->r.length=rs):Gx (m.new (.cells rs l.length (T.ofList l))) m.nx rs l:=
 ⟨hp,a,l.length,T.ofList l,l.length,by rw [Mem.L9 b,if_pos rfl],q9 _,q9 _,T.gG l,λi h=>by rw [T.aD,J3 h]⟩
theorem FI {m:Mem}{rs:Nat}{l:List (List d9)}(b:∀r,r∈l->r.length=rs):grown m rs l.length l.flatten=some [⟨.sliceU m.nx 0 l.length rs,m.new (.cells rs l.length (T.ofList l))⟩]:=by show ob (rowsOf rs l.length l.flatten) (λa=>one (d9.sliceU m.nx 0 l.length rs) (m.new (.cells rs l.length (T.ofList a))))=_;rw [Ct l b];rfl
theorem qH:∀(a b:List d9),J8 (a++b)=(J8 a&&J8 b)
 | [],_=>rfl
 | v::a,b=>by show bi (u7 v) (J8 (a++b)) false=(bi (u7 v) (J8 a) false&&J8 b);rw [qH a b];cases u7 v<;>rfl
theorem tN {rs n:Nat}(hp:0<rs):∀(vs:List d9) (t:T (List d9)) (off k n':Nat),n<=n'->T.Ok t n'->k*rs<=off->off+vs.length<=n*rs->
  ∃t',iG rs n vs t off=some t'∧T.Ok t' n'∧∀i,i<k->t'.get i=t.get i
 | [],t,off,k,n',_,h,_,_=>⟨t,rfl,h,λ_ _=>rfl⟩
 | v::vs,t,off,k,n',hnn,h,hk,hn=>by
  have hlt:off<n*rs:=by simp at hn;omega
  have hd:off / rs<n:=Nat.div_lt_of_lt_mul (by rw [aeL];exact hlt);obtain⟨row,hrow⟩:=(h.get _).2 (gq hd hnn);have hmod:off%rs<rs:=aiL _ hp;have hkd:k<=off / rs:=(aeF hp).2 hk;have hw:aI rs n t off [v]=some (t.put (off / rs) (lX (off%rs) [v] row)):=by show bi (Nat.blt (off / rs) n) (ob (t.get (off / rs)) λrow=>bi (Nat.ble (off%rs+1) rs) (some (t.put (off / rs) (lX (off%rs) [v] row))) none) none=_;rw [show Nat.blt (off / rs) n=true from Y4.mpr hd,hrow,U4,L8,show Nat.ble (off%rs+1) rs=true from Z4 hmod];rfl
  obtain⟨t',h1,h2,h3⟩:=tN hp vs (t.put (off / rs) (lX (off%rs) [v] row)) (off+1) k n' hnn (T.Ok.put h _ _ (gq hd hnn)) (by omega) (by simp at hn;omega);refine⟨t',?_,h2,λi hi=>?_⟩;show ob (aI rs n t off [v]) (λrows'=>iG rs n vs rows' (off+1))=_;rw [hw];exact h1;rw [h3 i hi,T.bH h _ _ _ (by omega) (by omega)]
theorem Gx.clear {m:Mem}{id rs:Nat}{l:List (List d9)}(h:Gx m id rs l)(s:m.Ok)(b:id<m.nx)(o:m.lim<=id){k:Nat}(L:k<=l.length){a:List d9}(G:k*rs+a.length<=l.length*rs)(F:J8 a=true):
  ∃m',(∀{β:Type} (f:Mem->Option β),jD m id (k*rs) a f=f m')∧Gx m' id rs (l.take k)∧dU id m m':=by
 have y:=h.take k;obtain⟨p,M,c,t,w,z,A,x,B,C⟩:=h;cases a with
 | nil=>exact⟨m,λf=>rfl,y,dU.refl s⟩
 | cons v a=>
  obtain⟨u,H,I,J⟩:=tN p (v::a) t (k*rs) k w x B (q9 _) (aA G (aaC _ A));refine⟨m.set id (.cells rs c u),λ{β} f=>?_,⟨p,y.len,c,u,w,by rw [Mem.V9 s b,if_pos rfl],by simp;omega,x,I,λi D=>?_⟩,Mem.Ok.set s b _,by simp,rfl,λj K E=>by rw [Mem.V9 s b,if_neg E]⟩;show bi (Nat.blt id m.lim) none (bi (J8 (v::a)) (U1 (m.get id) λr n q=>ob (iG r n (v::a) q (k*rs)) λd=>f (m.set id (.cells r n d))) none)=f (m.set id (.cells rs c u));rw [show Nat.blt id m.lim=false from abP.2 λe=>absurd (Y4.mp e) (Nat.not_lt.2 o),F,z,P9,U4,gK,H];rfl;have g:i<k∧i<l.length:=by simp at D;omega
  rw [J i g.1,C i g.2,List.getElem_take]
def dV (m:Mem)(v:d9)(xs:List d9):Prop:=
 (v=.nilSlice∧xs=[])∨∃id off,((∃c,v=.slice id off xs.length c∧xs.length<=c)∨v=.sliceU id off xs.length 1)∧id<m.nx∧
  (xs=[]∨∃n rows,m.get id=some (.cells 1 n rows)∧off+xs.length<=n∧∀i (h:i<xs.length),rows.get (off+i)=some [xs[i]])
def FJ (m:Mem)(v:d9)(xs:List d9):Prop:=
 ∃id off c,v=.slice id off xs.length c∧xs.length<=c∧id<m.nx∧
  (xs=[]∨∃n rows,m.get id=some (.cells 1 n rows)∧off+xs.length<=n∧∀i (h:i<xs.length),rows.get (off+i)=some [xs[i]])
theorem FJ.vs {m:Mem}{v:d9}{xs:List d9}(h:FJ m v xs):dV m v xs:=by obtain⟨id,a,c,b,d,e,f⟩:=h;exact .inr ⟨id,a,.inl ⟨c,b,d⟩,e,f⟩
theorem dV.keep {m m':Mem}{v:d9}{xs:List d9}(a:dV m v xs)(b:m.nx<=m'.nx)(h:∀id n rows,id<m.nx->m.get id=some (.cells 1 n rows)->(∃o l c,v=.slice id o l c)∨(∃o l e,v=.sliceU id o l e)->m'.get id=m.get id):dV m' v xs:=by rcases a with a | ⟨id,off,h1,h2,h3⟩;exact .inl a;refine .inr ⟨id,off,h1,gq h2 b,?_⟩;rcases h3 with h3 | ⟨n,rows,h4,h5,h6⟩;exact .inl h3;refine .inr ⟨n,rows,(h id n rows h2 h4 ?_).trans h4,h5,h6⟩;rcases h1 with⟨c,rfl,_⟩ | rfl;exact .inl ⟨_,_,_,rfl⟩;exact .inr ⟨_,_,_,rfl⟩
theorem dV.ext {m m':Mem}(h:Ext m m'){v:d9}{xs:List d9}(b:dV m v xs):dV m' v xs:=b.keep h.nx λid _ _ a _ _=>h.old id a
theorem FJ.keep {m m':Mem}{v:d9}{xs:List d9}(g:FJ m v xs)(f:m.nx<=m'.nx)(h:∀id n rows,id<m.nx->m.get id=some (.cells 1 n rows)->(∃o l c,v=.slice id o l c)->m'.get id=m.get id):FJ m' v xs:=by obtain⟨id,b,c,rfl,e,d,a⟩:=g;refine⟨id,b,c,rfl,e,gq d f,?_⟩;rcases a with a | ⟨n,rows,h4,h5,h6⟩;exact .inl a;exact .inr ⟨n,rows,(h id n rows d h4 ⟨_,_,_,rfl⟩).trans h4,h5,h6⟩
theorem FJ.ext {m m':Mem}(h:Ext m m'){v:d9}{xs:List d9}(b:FJ m v xs):FJ m' v xs:=b.keep h.nx λid _ _ a _ _=>h.old id a
theorem dV.cells {m:Mem}{v:d9}{xs:List d9}(h:dV m v xs):v.cells=[v]:=by rcases h with⟨rfl,rfl⟩ | ⟨id,off,⟨c,rfl,_⟩ | rfl,_⟩<;>rfl
theorem dV.kP {m:Mem}{v:d9}{xs:List d9}(h:dV m v xs){β:Type}(p:d9->β)(q:β):bC v p q=q:=by rcases h with⟨rfl,rfl⟩ | ⟨id,off,⟨c,rfl,_⟩ | rfl,_⟩<;>rfl
theorem dV.u7 {m:Mem}{v:d9}{xs:List d9}(h:dV m v xs):Go.AM.u7 v=true:=by rcases h with⟨rfl,rfl⟩ | ⟨id,off,⟨c,rfl,_⟩ | rfl,_⟩<;>rfl
theorem dV.len {m:Mem}{v:d9}{xs:List d9}(h:dV m v xs):rO v (some (d9.int .i64 0)) (λ_ _ n _=>some (.int .i64 n)) (λ_ _ n _=>some (.int .i64 n))=some (.int .i64 xs.length):=by rcases h with⟨rfl,rfl⟩ | ⟨id,off,⟨c,rfl,_⟩ | rfl,_⟩<;>rfl
theorem dV.lenOf {m:Mem}{v:d9}{xs:List d9}(h:dV m v xs):Go.AM.lenOf v=some xs.length:=by rcases h with⟨rfl,rfl⟩ | ⟨id,off,⟨c,rfl,_⟩ | rfl,_⟩<;>rfl
theorem dV.at {m:Mem}{v:d9}{xs:List d9}(h:dV m v xs){i:Nat}(a:i<xs.length):
  ∃id o,rO v none (λid off len _=>idx len (.int .i64 i) λk=>some (d9.ptr id (off+k))) (λid off len _=>idx len (.int .i64 i) λk=>some (d9.ptr id (off+k)))=some (.ptr id o)∧id<m.nx∧ld1 (m.get id) o=some xs[i]:=by
 rcases h with⟨_,rfl⟩ | ⟨id,off,h1,h2,h3⟩;simp at a;rcases h3 with rfl | ⟨n,rows,h4,h5,h6⟩;simp at a;refine⟨id,off+i,?_,h2,by rw [h4];exact RZ (by omega) (h6 i a)⟩;rcases h1 with⟨c,rfl,_⟩ | rfl;simp only [wh];rw [qp _ _ _ a];simp only [sS];rw [qp _ _ _ a]
theorem Ol {n off:Nat}{rows:T (List d9)}{xs:List d9}(h:∀i (h:i<xs.length),rows.get (off+i)=some [xs[i]])(c:off+xs.length<=n):
  ∀(j i:Nat),i+j=xs.length->M0 1 n rows j (off+i)=some (xs.drop i):=by
 intro j;induction j with
 | zero=>intro i b;rw [acZ (by omega)];rfl
 | succ j ih=>
  intro i b;have a:i<xs.length:=by omega
  show ob (cell1 1 n rows (off+i)) (λv=>ob (M0 1 n rows j (off+i+1)) λl=>some (v::l))=_;have e:cell1 1 n rows (off+i)=some xs[i]:=by
   have:=nZ (rs:=1) (n:=n) (rows:=rows) (i:=off+i) (j:=0) (by omega) (by omega) (h i a)
   rwa [aeG] at this
  rw [e,show off+i+1=off+(i+1) from by omega,ih (i+1) (by omega),Xd a];rfl
theorem dV.read {m:Mem}{v:d9}{xs:List d9}(h:dV m v xs):dG m 1 xs.length v=some xs:=by
 rcases h with⟨rfl,rfl⟩ | ⟨id,off,h1,h2,h3⟩;rfl;have b:S9 m id off (Nat.mul xs.length 1)=some xs:=by
  have e:Nat.mul xs.length 1=xs.length:=aeG _;rw [e];rcases h3 with rfl | ⟨n,a,h4,h5,h6⟩;rfl;cases hx:xs.length with
  | zero=>rw [aaB.1 hx];rfl
  | succ k=>show U1 (m.get id) (λf d a=>M0 f d a (k+1) off)=_;have:=Ol h6 h5 (k+1) 0 (by omega);rw [h4,gK,← Y1 off,this,q8]
 rcases h1 with⟨c,rfl,_⟩ | rfl<;>exact b
theorem FJ.tail {m:Mem}{v x:d9}{xs:List d9}(h:FJ m v (x::xs)):∃v',FJ m v' xs∧(∀(y a:OF) (ls:List d9) (env:T d9) (nid:Nat),y ls env=v->a ls env=.int .i64 1->lSl 1 y (some a) none ls env nid=some (v',none))∧∀i o l c,v'=.slice i o l c->∃o2 l2 c2,v=.slice i o2 l2 c2:=by
 obtain⟨id,b,c,rfl,f,g,d⟩:=h;have k:xs.length+1<=c:=by simpa using f
 refine⟨.slice id (bi (Nat.beq 1 c) b (Nat.add b (Nat.mul 1 1))) xs.length (c-1),⟨id,_,c-1,rfl,by omega,g,?_⟩,λy a ls env nid p j=>?_,λi o l q h=>by cases h;exact⟨_,_,_,rfl⟩⟩;by_cases hx:xs=[];exact .inl hx;have s:=ahs.2 hx;rcases d with d | ⟨n,rows,h4,h5,h6⟩;cases d;refine .inr ⟨n,rows,h4,?_⟩;rw [lK,if_neg (by omega)];have e:Nat.add b (Nat.mul 1 1)=b+1:=rfl;rw [e];refine⟨by simp at h5;omega,λi r=>?_⟩;have:=h6 (i+1) (by simp;omega);rw [show b+1+i=b+(i+1) from by omega,this];rfl;show jP (a ls env) (λl=>M9 nid 1 (y ls env) l none)=_;rw [j,p];show M9 nid 1 (.slice id b (xs.length+1) c) 1 none=_;show bi (Nat.ble 1 (xs.length+1)) (bi (Nat.ble (xs.length+1) c) (some (d9.slice id (bi (Nat.beq 1 c) b (Nat.add b (Nat.mul 1 1))) (Nat.sub (xs.length+1) 1) (Nat.sub c 1),none)) none) none=_;rw [show Nat.ble 1 (xs.length+1)=true from Z4 (by omega),show Nat.ble (xs.length+1) c=true from Z4 k];rfl
structure Fr (lo p:Nat)(m m':Mem):Prop where
 ok:T.Ok m'.t m'.nx
 nx:m.nx<=m'.nx
 lim:m'.lim=m.lim
 old:∀i,i<lo->i≠p->m'.get i=m.get i
theorem Fr.refl {lo p:Nat}{m:Mem}(h:T.Ok m.t m.nx):Fr lo p m m:=⟨h,q9 _,rfl,λ_ _ _=>rfl⟩
theorem Fr.trans {lo p:Nat}{a b c:Mem}(h:Fr lo p a b)(k:Fr lo p b c):Fr lo p a c:=
 ⟨k.ok,aA h.nx k.nx,k.lim.trans h.lim,λi d e=>(k.old i d e).trans (h.old i d e)⟩
theorem Ext.fr {lo p:Nat}{m m':Mem}(h:Ext m m')(a:lo<=m.nx):Fr lo p m m':=⟨h.ok,h.nx,h.lim,λi b _=>h.old i (by omega)⟩
theorem dU.fr {lo p:Nat}{m m':Mem}(h:dU p m m')(a:lo<=m.nx):Fr lo p m m':=⟨h.ok,h.nx,h.lim,λi c b=>h.old i (by omega) b⟩
theorem Fr.ext {lo p:Nat}{m m':Mem}(h:Fr lo p m m')(a:m.nx<=lo)(hp:lo<=p):Ext m m':=⟨h.ok,h.nx,h.lim,λi b=>h.old i (by omega) (by omega)⟩
theorem Fr.mono {lo p q:Nat}{m m':Mem}(h:Fr lo p m m')(hp:lo<=p):Fr lo q m m':=⟨h.ok,h.nx,h.lim,λi a _=>h.old i a (by omega)⟩
theorem Fr.down {lo a p:Nat}{m m':Mem}(h:Fr lo p m m')(d:a<=lo):Fr a p m m':=⟨h.ok,h.nx,h.lim,λi c b=>h.old i (by omega) b⟩
def pQ (lo:Nat)(m:Mem)(v:d9)(l:List d9):Prop:=
 (v=.nilSlice∧l=[])∨∃id,lo<=id∧id<m.nx∧J8 l=true∧Gx m id 1 (l.map ([·]))∧(v=.slice id 0 l.length l.length∨v=.sliceU id 0 l.length 1)
theorem pQ.nil (lo:Nat)(m:Mem):pQ lo m .nilSlice []:=.inl ⟨rfl,rfl⟩
theorem pQ.keep {lo:Nat}{m m':Mem}{v:d9}{l:List d9}(h:pQ lo m v l)(a:m.nx<=m'.nx)(b:∀i,lo<=i->i<m.nx->m'.get i=m.get i):pQ lo m' v l:=by rcases h with h | ⟨id,h1,h2,h3,h4,h5⟩;exact .inl h;exact .inr ⟨id,h1,gq h2 a,h3,h4.same (b id h1 h2),h5⟩
theorem pQ.ext {lo:Nat}{m m':Mem}{v:d9}{l:List d9}(h:pQ lo m v l)(e:Ext m m'):pQ lo m' v l:=h.keep e.nx λi _ a=>e.old i a
theorem FK:∀l:List d9,(l.map ([·])).flatten=l
 | []=>rfl
 | x::l=>by rw [Z6,List.flatten_cons,FK l];rfl
theorem pQ.vs {lo:Nat}{m:Mem}{v:d9}{l:List d9}(h:pQ lo m v l):dV m v l:=by rcases h with h | ⟨id,h1,h2,h3,h4,h5⟩;exact .inl h;obtain⟨p,g,c,t,f,b,d,j,k,e⟩:=h4;refine .inr ⟨id,0,?_,h2,.inr ⟨c,t,b,by simpa using d,λi a=>?_⟩⟩;rcases h5 with h5 | h5;exact .inl ⟨_,h5,q9 _⟩;exact .inr h5;rw [aaF,e i (by simpa using a)];simp
theorem pQ.sl {lo:Nat}{m:Mem}{v:d9}{xs:List Int}(h:pQ lo m v (ints xs)):ug m v xs:=by
 have a:(ints xs).length=xs.length:=by simp [ints]
 rcases h with⟨h,h'⟩ | ⟨id,h1,h2,h3,h4,h5⟩;exact .inl ⟨h,by simpa [ints] using h'⟩;obtain⟨p,j,c,t,g,d,e,k,l,f⟩:=h4;rw [a] at h5;refine .inr ⟨(id,0),?_,h2,.inr ⟨c,t,d,by simpa [ints] using e,λi b=>?_⟩⟩;rcases h5 with h5 | h5;exact .inl ⟨_,h5⟩;exact .inr ⟨_,h5⟩;rw [aaF,f i (by simpa [ints] using b)];simp [ints]
theorem Om {n bytes:Nat}(h:n<=100000)(hb:1<=bytes∧bytes<=1000):big n bytes 1=true:=by show bi (Nat.ble ((2*n+2048)*bytes) 281474976710656) (bi true (Nat.ble 1 bytes) false) false=true;rw [show Nat.ble ((2*n+2048)*bytes) 281474976710656=true from Z4 (aA (amd (show 2*n+2048<=202048 by omega) hb.2) (by decide)),show Nat.ble 1 bytes=true from Z4 hb.1];rfl
theorem Dz {lo:Nat}{m:Mem}(e:m.Ok)(c:lo<=m.nx)(l:List d9)(d:J8 l=true):grown m 1 l.length l=some [⟨.sliceU m.nx 0 l.length 1,m.new (.cells 1 l.length (T.ofList (l.map ([·]))))⟩]∧pQ lo (m.new (.cells 1 l.length (T.ofList (l.map ([·]))))) (.sliceU m.nx 0 l.length 1) l:=by
 have b:∀r,r∈l.map ([·])->r.length=1:=λr b=>by obtain⟨x,_,rfl⟩:=adh.1 b;rfl
 have g:=FI (m:=m) b;have a:=Sj e (rs:=1) (by omega) b;rw [aaN] at g a;rw [FK] at g;exact⟨g,.inr ⟨m.nx,c,by simp,d,a,.inr rfl⟩⟩
theorem Fr.new {lo:Nat}{m:Mem}(c:m.Ok)(a:lo<=m.nx)(b:P8):Fr lo lo m (m.new b):=((Ext.refl c).new b).fr a
theorem aax {lo bytes:Nat}{m:Mem}{v:d9}{l xs:List d9}(w:m.Ok)(K:m.lim<=lo)(d:lo<=m.nx)(h:pQ lo m v l)(A:J8 xs=true)(hb:l.length+xs.length<=100000)(f:1<=bytes∧bytes<=1000):
  ∃v' m',wR m 1 bytes xs.length xs v=some [⟨v',m'⟩]∧pQ lo m' v' (l++xs)∧Fr lo lo m m':=by
 by_cases hf:xs=[];subst hf;refine⟨v,m,?_,by simpa using h,Fr.refl w⟩;rcases h with⟨rfl,rfl⟩ | ⟨id,_,_,_,_,rfl | rfl⟩;rfl;show bi (Nat.ble (l.length+0) l.length) (one (.slice id 0 (l.length+0) l.length) m) _=_;rw [Y1,show Nat.ble l.length l.length=true from Z4 (q9 _)];rfl;rfl;obtain⟨k,C⟩:∃k,xs.length=k+1:=⟨xs.length-1,by have:=ahs.2 hf;omega⟩;rcases h with⟨rfl,rfl⟩ | ⟨id,i1,i2,i3,ha,hv⟩;obtain⟨g,o⟩:=Dz (lo:=lo) w d xs A;refine⟨_,_,?_,by rw [afs];exact o,Fr.new w d _⟩;rw [← g];show VL m 1 bytes xs.length xs=_;rw [C];show bi (big (k+1) bytes 1) _ none=_;rw [Om (by simp at hb;omega) f];rfl;have u:J8 (l++xs)=true:=by rw [qH,i3,A];rfl
 obtain⟨p,P,c,t,H,I,L,V,G,M⟩:=ha;have F:l.length<=c:=by simpa using L
 have E:M0 1 c t l.length 0=some l:=by
  have:=xC (rs:=1) (n:=c) (rows:=t) P M L l.length 0 (by simp)
  rwa [aeG,ad4,q8,FK] at this
 rcases hv with rfl | rfl;obtain⟨g,o⟩:=Dz (lo:=lo) w d (l++xs) u;refine⟨_,_,?_,o,Fr.new w d _⟩;rw [← g];show oD m 1 bytes xs.length xs id 0 l.length l.length=_;unfold oD;have N:Nat.ble (Nat.add l.length xs.length) l.length=false:=by rw [abP];intro e;have:l.length+xs.length<=l.length:=X8 e;omega
 have O:S9 m id 0 (Nat.mul l.length 1)=some l:=by
  rw [show Nat.mul l.length 1=l.length from aeG _];cases hll:l.length with
  | zero=>rw [aaB.1 hll];rfl
  | succ j=>show U1 (m.get id) (λrs R rows=>M0 rs R rows (j+1) 0)=_;rw [I,gK,← hll,E]
 rw [N,P9,show Nat.add l.length xs.length=(l++xs).length from by simp,Om (by simpa using hb) f,U4,O,L8,R8];have a:(m.set id .dead).Ok:=Mem.Ok.set w i2 _;have B:∀b,Fr lo lo m ((m.set id .dead).new b):=λb=>⟨Mem.Ok.new a _,by simp,by simp,λi J _=>by
  rw [Mem.L9 a,if_neg (by simp;omega),Mem.V9 w i2,if_neg (by omega)]⟩
 have s:Nat.ble m.lim id=true:=Z4 (by omega);by_cases hone:xs.length=1∧0<l.length;obtain⟨x,rfl⟩:∃x,xs=[x]:=ahE.1 hone.1;have D:∃c'',l.length+1<=c''∧T.Ok (t.put l.length [x]) c'':=by
  by_cases hc:l.length<H;exact⟨H,hc,T.Ok.put G _ _ hc⟩;obtain rfl:H=l.length:=by omega
  exact⟨l.length+1,q9 _,T.Ok.push G _⟩
 obtain⟨c'',S,U⟩:=D;refine⟨.sliceU m.nx 0 (l.length+1) 1,(m.set id .dead).new (.cells 1 (l.length+1) (t.put l.length [x])),?_,.inr ⟨m.nx,d,by simp,u,⟨by omega,λr Q=>?_,l.length+1,t.put l.length [x],c'',?_,by simp,S,U,λi J=>?_⟩,.inr (by simp)⟩,B _⟩;show Eb m 1 bytes 1 [x] id 0 l.length 1=_;show bi (Nat.beq 1 1) (bi (big (l.length+1) bytes 1) (bi (Nat.ble m.lim id) (bi (J8 [x]) (Ea (m.get id) _ _) none) none) none) none=_;rw [Om (by simpa using hb) f,s,A,I];show bi (bi (Nat.beq 1 1) (bi (Nat.beq 0 0) (bi (Nat.ble l.length c) (bi (Nat.beq 1 1) (bi (Nat.beq (len' [x]) 1) (Nat.blt 0 l.length) false) false) false) false) false) _ _=_;rw [show Nat.ble l.length c=true from Z4 F,show Nat.blt 0 l.length=true from Eq.mpr Y4 hone.2];rfl;obtain⟨y,_,rfl⟩:=adh.1 Q;rfl;rw [Mem.L9 a];simp;by_cases hil:i=l.length;subst hil;rw [T.aY G _ _ (by omega)];simp;have q:i<l.length:=by simp at J;omega
 rw [T.bH G _ _ _ (by omega) (ahq hil),M i (by simpa using q)];simp [aj4,q];obtain⟨g,o⟩:=Dz (lo:=lo) a (by simpa using d) (l++xs) u;refine⟨_,_,?_,o,B _⟩;rw [← g];show Eb m 1 bytes xs.length xs id 0 l.length 1=_;unfold Eb;rw [C];show bi (Nat.beq 1 1) (bi (big (l.length+(k+1)) bytes 1) (bi (Nat.ble m.lim id) (bi (J8 xs) (Ea (m.get id) _ _) none) none) none) none=_;rw [Om (by omega) f,s,A,I];show bi (bi (Nat.beq 1 1) (bi (Nat.beq 0 0) (bi (Nat.ble l.length c) (bi (Nat.beq (k+1) 1) (bi (Nat.beq (len' xs) 1) (Nat.blt 0 l.length) false) false) false) false) false) _ (ob (M0 1 c t (Nat.mul l.length 1) 0) λz=>grown (m.set id .dead) 1 (Nat.add l.length (k+1)) (aC z xs))=_
 rw [show Nat.ble l.length c=true from Z4 F,show bi (Nat.beq (k+1) 1) (bi (Nat.beq (len' xs) 1) (Nat.blt 0 l.length) false) false=false from by
     rw [K4,C];cases A:Nat.beq (k+1) 1 with
     | false=>rfl
     | true=>
      cases h2:Nat.blt 0 l.length with
      | false=>rfl
      | true=>exact absurd ⟨by rw [C];exact gI A,Eq.mp Y4 h2⟩ hone,
  show Nat.mul l.length 1=l.length from aeG _,show Nat.add l.length (k+1)=(l++xs).length from by simp [C]]
 show ob (M0 1 c t l.length 0) (λz=>grown (m.set id .dead) 1 (l++xs).length (aC z xs))=_;rw [E,L8,R8]
theorem aeB {lo bytes:Nat}{m:Mem}{v x:d9}{l xs:List d9}(k:m.Ok)(a:m.lim<=lo)(c:lo<=m.nx)(h:pQ lo m v l)(e:dV m x xs)(j:J8 xs=true)(hb:l.length+xs.length<=100000)(b:1<=bytes∧bytes<=1000):
  ∃v' m',(∀(s y:OF) (cf:H8) (ls:List d9) (env:T d9),s ls env=v->y ls env=x->mO 1 bytes s y cf ls env m=some [⟨v',m'⟩])∧pQ lo m' v' (l++xs)∧Fr lo lo m m':=by
 obtain⟨v',m',f,g,i⟩:=aax k a c h j hb b;refine⟨v',m',λs y cf ls env o p=>?_,g,i⟩;show ob (AM.lenOf (y ls env)) (λn=>ob (dG m 1 n (y ls env)) λd=>wR m 1 bytes n d (s ls env))=_;rw [p,o,e.lenOf,L8,e.read,L8,f]
theorem p9:∀a b:List UInt8,strEq a b=decide (a=b)
 | [],[]=>rfl
 | [],_ :: _=>rfl
 | _ :: _,[]=>rfl
 | x::a,y::b=>by show bi (Nat.beq x.toNat y.toNat) (strEq a b) false=_;rw [lK,p9 a b];by_cases h:x=y;subst h;rw [if_pos rfl];simp;rw [if_neg (λe=>h (alc.1 e))];simp [h]
@[simp] theorem anL (a b:List UInt8):gV a b=some (.bool (decide (a=b))):=by rw [← p9];rfl
@[simp] theorem anM (a b:List UInt8):CP a b=some (.bool (!decide (a=b))):=by rw [← p9];rfl
@[simp] theorem rA (a b:List UInt8):eqStr (.str a) (.str b)=some (decide (a=b)):=by rw [← p9];rfl
section
variable {x lo hi:OF}{ls:List d9}{env:T d9}{s:List UInt8}{l h:Nat}
theorem FL (d:x ls env=.str s)(c:lo ls env=.int .i64 (l:Int))(a:l<s.length):uy x lo ls env=some (.int .u8 (s[l].toNat:Nat)):=by show pJ (x ls env) (λs=>jP (lo ls env) λk=>ob (pI k s) λb=>some (d9.int .u8 b.toNat))=_;rw [d,aad,c,aae,Xa,jh,J3 a];rfl
end
def strs (l:List (List UInt8)):List d9:=l.map d9.str
theorem eZ (l:List (List UInt8)):(strs l).length=l.length:=by simp [strs]
theorem FM:∀l:List (List UInt8),J8 (strs l)=true
 | []=>rfl
 | _::l=>by show bi true (J8 (strs l)) false=true;rw [FM l];rfl
def dW (m:Mem)(rs:Nat)(v:d9)(l:List (List d9)):Prop:=
 (v=.nilSlice∧l=[])∨∃id o,((∃c,v=.slice id (o*rs) l.length c∧l.length<=c)∨v=.sliceU id (o*rs) l.length rs)∧id<m.nx∧
  (l=[]∨∃n rows,m.get id=some (.cells rs n rows)∧o+l.length<=n∧(∀r,r∈l->r.length=rs)∧∀i (h:i<l.length),rows.get (o+i)=some l[i])
section
variable {m m':Mem}{rs:Nat}{v:d9}{l:List (List d9)}
theorem dW.keep (a:dW m rs v l)(b:m.nx<=m'.nx)(h:∀id n rows,id<m.nx->m.get id=some (.cells rs n rows)->(∃o l c,v=.slice id o l c)∨(∃o l e,v=.sliceU id o l e)->m'.get id=m.get id):dW m' rs v l:=by rcases a with a | ⟨id,o,h1,h2,h3⟩;exact .inl a;refine .inr ⟨id,o,h1,gq h2 b,?_⟩;rcases h3 with h3 | ⟨n,rows,h4,h5⟩;exact .inl h3;refine .inr ⟨n,rows,(h id n rows h2 h4 ?_).trans h4,h5⟩;rcases h1 with⟨c,rfl,_⟩ | rfl;exact .inl ⟨_,_,_,rfl⟩;exact .inr ⟨_,_,_,rfl⟩
theorem dW.ext (h:Ext m m')(b:dW m rs v l):dW m' rs v l:=b.keep h.nx λid _ _ a _ _=>h.old id a
theorem dW.cells (h:dW m rs v l):v.cells=[v]:=by rcases h with⟨rfl,rfl⟩ | ⟨id,off,⟨c,rfl,_⟩ | rfl,_⟩<;>rfl
theorem dW.kP (h:dW m rs v l){β:Type}(p:d9->β)(q:β):bC v p q=q:=by rcases h with⟨rfl,rfl⟩ | ⟨id,off,⟨c,rfl,_⟩ | rfl,_⟩<;>rfl
theorem dW.u7 (h:dW m rs v l):Go.AM.u7 v=true:=by rcases h with⟨rfl,rfl⟩ | ⟨id,off,⟨c,rfl,_⟩ | rfl,_⟩<;>rfl
theorem dW.len (h:dW m rs v l):rO v (some (d9.int .i64 0)) (λ_ _ n _=>some (.int .i64 n)) (λ_ _ n _=>some (.int .i64 n))=some (.int .i64 l.length):=by rcases h with⟨rfl,rfl⟩ | ⟨id,off,⟨c,rfl,_⟩ | rfl,_⟩<;>rfl
theorem dW.lenOf (h:dW m rs v l):Go.AM.lenOf v=some l.length:=by rcases h with⟨rfl,rfl⟩ | ⟨id,off,⟨c,rfl,_⟩ | rfl,_⟩<;>rfl
theorem UE {n i rs:Nat}{rows:T (List d9)}{r:List d9}(b:i<n)(h:rows.get i=some r)(e:r.length=rs){j k:Nat}(c:j<rs)(d:j+k<=rs):Gw (some (.cells rs n rows)) (i*rs+j) k=some (.agg ((r.drop j).take k)):=by show U1 (some (P8.cells rs n rows)) (λa n rows=>ob (jQ a n rows (i*rs+j) k) λl=>some (d9.agg l))=_;rw [gK,yC c b h e d,L8]
theorem dW.at (h:dW m rs v l){i:Nat}(d:i<l.length):
  ∃id o,rO v none (λid off len _=>idx len (.int .i64 i) λk=>some (d9.ptr id (off+k*rs))) (λid off len _=>idx len (.int .i64 i) λk=>some (d9.ptr id (off+k*rs)))=some (.ptr id o)∧id<m.nx∧
   (l[i]).length=rs∧(∀j k,j<rs->j+k<=rs->Gw (m.get id) (o+j) k=some (.agg (((l[i]).drop j).take k)))∧∀j,j<rs->ld1 (m.get id) (o+j)=(l[i])[j]?:=by
 rcases h with⟨_,rfl⟩ | ⟨id,off,h1,h2,h3⟩;simp at d;rcases h3 with rfl | ⟨n,a,h4,h5,h7,h6⟩;simp at d;have b:=h7 l[i] (aaO d);refine⟨id,off*rs+i*rs,?_,h2,b,λj k e g=>?_,λj e=>?_⟩;rcases h1 with⟨c,rfl,_⟩ | rfl;simp only [wh];rw [qp _ _ _ d];simp only [sS];rw [qp _ _ _ d];rw [← ad8,h4];exact UE (by omega) (h6 i d) b e g;rw [← ad8,h4];show U1 (some (P8.cells rs n a)) (λf n a=>cell1 f n a ((off+i)*rs+j))=_;rw [gK,nZ e (by omega) (h6 i d)]
end
def gT (lo rs:Nat)(m:Mem)(v:d9)(l:List (List d9)):Prop:=
 (v=.nilSlice∧l=[])∨∃id,lo<=id∧id<m.nx∧J8 l.flatten=true∧Gx m id rs l∧l≠[]∧(v=.slice id 0 l.length l.length∨v=.sliceU id 0 l.length rs)
section
variable {m m':Mem}{lo rs:Nat}{v:d9}{l:List (List d9)}
theorem gT.nil (lo rs:Nat)(m:Mem):gT lo rs m .nilSlice []:=.inl ⟨rfl,rfl⟩
theorem gT.keep (h:gT lo rs m v l)(a:m.nx<=m'.nx)(b:∀i,lo<=i->i<m.nx->m'.get i=m.get i):gT lo rs m' v l:=by rcases h with h | ⟨id,h1,h2,h3,h4,h5⟩;exact .inl h;exact .inr ⟨id,h1,gq h2 a,h3,h4.same (b id h1 h2),h5⟩
theorem gT.ext (h:gT lo rs m v l)(e:Ext m m'):gT lo rs m' v l:=h.keep e.nx λi _ a=>e.old i a
theorem gT.lt (h:gT lo rs m v l){i o n e:Nat}(a:v=.sliceU i o n e):lo<=i∧i<m.nx:=by rcases h with⟨rfl,_⟩ | ⟨id,h1,h2,_,_,_,rfl | rfl⟩;cases a;cases a;cases a;exact⟨h1,h2⟩
theorem gT.down {a:Nat}(h:gT lo rs m v l)(b:a<=lo):gT a rs m v l:=by rcases h with h | ⟨id,h1,h2⟩;exact .inl h;exact .inr ⟨id,aA b h1,h2⟩
theorem gT.slice (h:gT lo rs m v l):dW m rs v l:=by rcases h with h | ⟨id,h1,h2,h3,h4,_,h5⟩;exact .inl h;obtain⟨p,b,c,t,g,d,e,j,k,f⟩:=h4;refine .inr ⟨id,0,?_,h2,.inr ⟨c,t,d,by simpa using e,b,λi a=>?_⟩⟩;rw [ad4];rcases h5 with h5 | h5;exact .inl ⟨_,h5,q9 _⟩;exact .inr h5;simp only [aaF];exact f i a
theorem Xw {n bytes es:Nat}(h:n<=100000)(hb:1<=bytes∧bytes<=1000)(a:1<=es):big n bytes es=true:=by show bi (Nat.ble ((2*n+2048)*bytes) 281474976710656) (bi (Nat.ble 1 es) (Nat.ble 1 bytes) false) false=true;rw [show Nat.ble ((2*n+2048)*bytes) 281474976710656=true from Z4 (aA (amd (show 2*n+2048<=202048 by omega) hb.2) (by decide)),show Nat.ble 1 bytes=true from Z4 hb.1,show Nat.ble 1 es=true from Z4 a];rfl
theorem Oo (e:m.Ok)(a:lo<=m.nx)(hp:0<rs)(c:∀r,r∈l->r.length=rs)(d:J8 l.flatten=true)(b:l≠[]):grown m rs l.length l.flatten=some [⟨.sliceU m.nx 0 l.length rs,m.new (.cells rs l.length (T.ofList l))⟩]∧gT lo rs (m.new (.cells rs l.length (T.ofList l))) (.sliceU m.nx 0 l.length rs) l:=
 ⟨FI (m:=m) c,.inr ⟨m.nx,a,by simp,d,Sj e hp c,b,.inr rfl⟩⟩
theorem Xx {bytes:Nat}{r:List d9}(f:m.Ok)(N:m.lim<=lo)(y:lo<=m.nx)(hp:0<rs)(h:gT lo rs m v l)(I:r.length=rs)(F:J8 r=true)(hb:l.length+1<=100000)(q:1<=bytes∧bytes<=1000):
  ∃v' m',wR m rs bytes 1 r v=some [⟨v',m'⟩]∧gT m.nx rs m' v' (l ++ [r])∧Fr lo lo m m'∧(∀i,i<m.nx->(∀o n e,v≠.sliceU i o n e)->m'.get i=m.get i):=by
 have B:∀b,∀i,i<m.nx->(∀o n e,v≠.sliceU i o n e)->(m.new b).get i=m.get i:=λb i C _=>by rw [Mem.L9 f,if_neg (by omega)]
 have s:[r].flatten=r:=by simp
 rcases h with⟨rfl,rfl⟩ | ⟨id,i1,i2,i3,ha,hne,K⟩;obtain⟨g,o⟩:=Oo (lo:=m.nx) (rs:=rs) (l:=[r]) f (q9 _) hp (by simpa using I) (by rw [s];exact F) (by simp);refine⟨_,_,?_,by rw [afs];exact o,Fr.new f y _,B _⟩;rw [← g,s];show bi (big 1 bytes rs) _ none=_;rw [Xw (by simp) q hp];rfl;have u:J8 (l ++ [r]).flatten=true:=by rw [List.flatten_append,s,qH,i3,F];rfl
 have z:∀x,x∈l ++ [r]->x.length=rs:=λx V=>by rcases aaD.1 V with h | h;exact ha.len x h;rw [aP.1 h];exact I
 obtain⟨p,U,c,t,E,O,P,Z,D,Q⟩:=ha;have k:0<l.length:=ahs.2 hne;have J:M0 rs c t (l.length*rs) 0=some l.flatten:=by
  have:=xC (rs:=rs) (n:=c) (rows:=t) U Q P l.length 0 (by simp)
  rwa [ad4,q8] at this
 rcases K with rfl | rfl;obtain⟨g,o⟩:=Oo (lo:=m.nx) (rs:=rs) (l:=l ++ [r]) f (q9 _) hp z u (by simp);refine⟨_,_,?_,o,Fr.new f y _,B _⟩;rw [← g];show oD m rs bytes 1 r id 0 l.length l.length=_;unfold oD;have R:Nat.ble (Nat.add l.length 1) l.length=false:=by rw [abP];intro e;have:l.length+1<=l.length:=X8 e;omega
 have S:S9 m id 0 (Nat.mul l.length rs)=some l.flatten:=by have e:Nat.mul l.length rs=l.length*rs:=rfl;rw [e];obtain⟨j,M⟩:∃j,l.length*rs=j+1:=⟨l.length*rs-1,by have:=Nat.mul_pos k hp;omega⟩;rw [M];show U1 (m.get id) (λL W rows=>M0 L W rows (j+1) 0)=_;rw [O,gK,← M,J]
 rw [R,P9,show Nat.add l.length 1=(l ++ [r]).length from by simp,Xw (by simpa using hb) q hp,U4,S,L8,R8];simp;have a:(m.set id .dead).Ok:=Mem.Ok.set f i2 _;have G:∀b,Fr lo lo m ((m.set id .dead).new b):=λb=>⟨Mem.Ok.new a _,by simp,by simp,λi C _=>by
  rw [Mem.L9 a,if_neg (by simp;omega),Mem.V9 f i2,if_neg (by omega)]⟩
 have w:Nat.ble m.lim id=true:=Z4 (by omega);have A:∃c'',l.length+1<=c''∧T.Ok (t.put l.length r) c'':=by
  by_cases hc:l.length<E;exact⟨E,hc,T.Ok.put D _ _ hc⟩;obtain rfl:E=l.length:=by omega
  exact⟨l.length+1,q9 _,T.Ok.push D _⟩
 obtain⟨c'',X,Y⟩:=A;refine⟨.sliceU m.nx 0 (l.length+1) rs,(m.set id .dead).new (.cells rs (l.length+1) (t.put l.length r)),?_,.inr ⟨m.nx,q9 _,by simp,u,⟨hp,z,l.length+1,t.put l.length r,c'',?_,by simp,X,Y,λi C=>?_⟩,by simp,.inr (by simp)⟩,G _,λi C K=>?_⟩;show Eb m rs bytes 1 r id 0 l.length rs=_;show bi (Nat.beq rs rs) (bi (big (l.length+1) bytes rs) (bi (Nat.ble m.lim id) (bi (J8 r) (Ea (m.get id) _ _) none) none) none) none=_;rw [Xw (by simpa using hb) q hp,w,F,O,show Nat.beq rs rs=true from abB rs];show bi (bi (Nat.beq rs rs) (bi (Nat.beq 0 0) (bi (Nat.ble l.length c) (bi (Nat.beq 1 1) (bi (Nat.beq (len' r) rs) (Nat.blt 0 l.length) false) false) false) false) false) _ _=_;rw [show Nat.ble l.length c=true from Z4 P,show Nat.blt 0 l.length=true from Eq.mpr Y4 k,K4,I,show Nat.beq rs rs=true from abB rs];rfl;rw [Mem.L9 a];simp;by_cases hil:i=l.length;subst hil;rw [T.aY D _ _ (by omega)];simp;have d:i<l.length:=by simp at C;omega
 rw [T.bH D _ _ _ (by omega) (ahq hil),Q i d];simp [aj4,d];have H:i≠id:=by rintro rfl;exact K _ _ _ rfl
 rw [Mem.L9 a,if_neg (by simp;omega),Mem.V9 f i2,if_neg H]
theorem DF {bytes:Nat}{x:d9}{r:List d9}(F:m.Ok)(a:m.lim<=lo)(g:lo<=m.nx)(hp:0<rs)(h:gT lo rs m v l)(w:dW m rs x [r])(u:r.length=rs)(D:J8 r=true)(hb:l.length+1<=100000)(b:1<=bytes∧bytes<=1000):
  ∃v' m',(∀(s y:OF) (cf:H8) (ls:List d9) (env:T d9),s ls env=v->y ls env=x->mO rs bytes s y cf ls env m=some [⟨v',m'⟩])∧gT m.nx rs m' v' (l ++ [r])∧Fr lo lo m m'∧(∀i,i<m.nx->(∀o n e,v≠.sliceU i o n e)->m'.get i=m.get i):=by
 obtain⟨v',m',z,A,B,C⟩:=Xx F a g hp h u D hb b;refine⟨v',m',λs y cf ls env G H=>?_,A,B,C⟩;have k:dG m rs 1 x=some r:=by
  rcases w with⟨_,h⟩ | ⟨id,o,q1,q2,q3⟩;cases h;rcases q3 with h | ⟨n,rows,e1,e2,e3,e4⟩;cases h;have p:S9 m id (o*rs) (Nat.mul 1 rs)=some r:=by
   have e:Nat.mul 1 rs=1*rs:=rfl;have f:=zT (rs:=rs) (n:=n) (rows:=rows) (i:=o) (by simp at e2;omega) (by simpa using e4 0 (by simp)) u;obtain⟨j,E⟩:∃j,1*rs=j+1:=⟨rs-1,by omega⟩;have d:rs=j+1:=by omega
   rw [e,E];show U1 (m.get id) (λt I rows=>M0 t I rows (j+1) (o*rs))=_;rw [e1,gK,← d];have:=f rs 0 (by omega)
   rwa [Y1,q8] at this
  rcases q1 with⟨c,rfl,_⟩ | rfl<;>exact p
 show ob (AM.lenOf (y ls env)) (λn=>ob (dG m rs n (y ls env)) λq=>wR m rs bytes n q (s ls env))=_;rw [H,G,w.lenOf,L8];show ob (dG m rs 1 x) _=_;rw [k,L8];exact z
theorem Xy {bytes:Nat}{x:d9}{r:List d9}(k:m.Ok)(a:m.lim<=lo)(b:lo<=m.nx)(hp:0<rs)(h:gT lo rs m v l)(q:dW m rs x [r])(p:r.length=rs)(j:J8 r=true)(hb:l.length+1<=100000)(c:1<=bytes∧bytes<=1000):
  ∃v' m',(∀(s y:OF) (cf:H8) (ls:List d9) (env:T d9),s ls env=v->y ls env=x->mO rs bytes s y cf ls env m=some [⟨v',m'⟩])∧gT lo rs m' v' (l ++ [r])∧Fr lo lo m m'∧(∀i,i<m.nx->(∀o n e,v≠.sliceU i o n e)->m'.get i=m.get i):=by
 obtain⟨v',m',d,f,g⟩:=DF k a b hp h q p j hb c;exact⟨v',m',d,f.down b,g⟩
theorem Bp (b:m.Ok)(r:List d9)(hp:0<r.length):dW (m.new (l9 r)) r.length (.slice m.nx 0 1 1) [r]:=
 .inr ⟨m.nx,0,.inl ⟨1,by simp,by simp⟩,by simp,.inr ⟨1,T.ofList [r],by rw [Mem.L9 b,if_pos rfl];simp [l9];rfl,by simp,by simp,λi a=>by
  obtain rfl:i=0:=by simpa using a
  rw [T.aD];rfl⟩⟩
end
def eD (m:Mem)(S:Nat->Prop)(rs:Nat)(v:d9)(l:List (List d9)):Prop:=
 (v=.nilSlice∧l=[])∨∃id o,S id∧((∃c,v=.slice id (o*rs) l.length c∧l.length<=c)∨v=.sliceU id (o*rs) l.length rs)∧id<m.nx∧
  (l=[]∨∃n rows,m.get id=some (.cells rs n rows)∧o+l.length<=n∧(∀r,r∈l->r.length=rs)∧∀i (h:i<l.length),rows.get (o+i)=some l[i])
section
variable {m m':Mem}{S S':Nat->Prop}{rs:Nat}{v:d9}{l:List (List d9)}
theorem eD.slice (h:eD m S rs v l):dW m rs v l:=by rcases h with h | ⟨id,o,_,h⟩;exact .inl h;exact .inr ⟨id,o,h⟩
theorem eD.mono (h:eD m S rs v l)(hn:m.nx<=m'.nx)(ho:∀i,i<m.nx->S i->m'.get i=m.get i)(hS:∀i,i<m.nx->S i->S' i):eD m' S' rs v l:=by rcases h with h | ⟨id,o,h0,h1,h2,h3⟩;exact .inl h;refine .inr ⟨id,o,hS _ h2 h0,h1,gq h2 hn,?_⟩;rcases h3 with h3 | ⟨n,rows,h4,h5⟩;exact .inl h3;exact .inr ⟨n,rows,(ho id h2 h0).trans h4,h5⟩
theorem dW.all (h:dW m rs v l):eD m (λi=>i<m.nx) rs v l:=by rcases h with h | ⟨id,o,h1,h2,h3⟩;exact .inl h;exact .inr ⟨id,o,h2,h1,h2,h3⟩
theorem gT.s {lo:Nat}(h:gT lo rs m v l):eD m (λi=>lo<=i) rs v l:=by rcases h with h | ⟨id,h1,h2,h3,h4,_,h5⟩;exact .inl h;obtain⟨p,b,c,t,g,d,e,j,k,f⟩:=h4;refine .inr ⟨id,0,h1,?_,h2,.inr ⟨c,t,d,by simpa using e,b,λi a=>?_⟩⟩;rw [ad4];rcases h5 with h5 | h5;exact .inl ⟨_,h5,q9 _⟩;exact .inr h5;simp only [aaF];exact f i a
end
inductive Ex where
 | mk (k n:Int) (s:List UInt8) (a:List Ex)
inductive V7 where
 | mk (k:Int) (s:List UInt8) (e:List Ex) (t f:List V7)
mutual
def R7 (m:Mem)(S:Nat->Prop):Ex->List d9->Prop
 | .mk k n s a,row=>∃v rows,row=[.int .i64 k,.int .i64 n,.str s,v]∧eD m S 4 v rows∧A9 m S a rows
def A9 (m:Mem)(S:Nat->Prop):List Ex->List (List d9)->Prop
 | [],rows=>rows=[]
 | e::es,rows=>∃r rs,rows=r::rs∧R7 m S e r∧A9 m S es rs
end
mutual
def ig (m:Mem)(S:Nat->Prop):V7->List d9->Prop
 | .mk k s e t f,row=>∃ve vt vf re rt rf,row=[.int .i64 k,.str s,ve,vt,vf]∧eD m S 4 ve re∧A9 m S e re∧eD m S 5 vt rt∧H6 m S t rt∧eD m S 5 vf rf∧H6 m S f rf
def H6 (m:Mem)(S:Nat->Prop):List V7->List (List d9)->Prop
 | [],rows=>rows=[]
 | s::ss,rows=>∃r rs,rows=r::rs∧ig m S s r∧H6 m S ss rs
end
section
variable {m m':Mem}{S S':Nat->Prop}(hn:m.nx<=m'.nx)(ho:∀i,i<m.nx->S i->m'.get i=m.get i)(hS:∀i,i<m.nx->S i->S' i)
include hn ho hS
mutual
theorem R7.mono:∀(e:Ex) (row:List d9),R7 m S e row->R7 m' S' e row
 | .mk k n s a,row,⟨v,rows,h1,h2,h3⟩=>⟨v,rows,h1,h2.mono hn ho hS,A9.mono a rows h3⟩
theorem A9.mono:∀(l:List Ex) (rows:List (List d9)),A9 m S l rows->A9 m' S' l rows
 | [],_,h=>h
 | e::es,_,⟨r,rs,h1,h2,h3⟩=>⟨r,rs,h1,R7.mono e r h2,A9.mono es rs h3⟩
end
mutual
theorem ig.mono:∀(e:V7) (row:List d9),ig m S e row->ig m' S' e row
 | .mk k s e t f,row,⟨ve,vt,vf,re,rt,rf,h1,h2,h3,h4,h5,h6,h7⟩=>⟨ve,vt,vf,re,rt,rf,h1,h2.mono hn ho hS,A9.mono hn ho hS e re h3,h4.mono hn ho hS,H6.mono t rt h5,h6.mono hn ho hS,H6.mono f rf h7⟩
theorem H6.mono:∀(l:List V7) (rows:List (List d9)),H6 m S l rows->H6 m' S' l rows
 | [],_,h=>h
 | e::es,_,⟨r,rs,h1,h2,h3⟩=>⟨r,rs,h1,ig.mono e r h2,H6.mono es rs h3⟩
end
end
section
variable {m m':Mem}{S:Nat->Prop}
theorem A9.len:∀{l:List Ex} {rows:List (List d9)},A9 m S l rows->rows.length=l.length
 | [],_,h=>by cases h;rfl
 | e::es,_,⟨r,rs,h1,h2,h3⟩=>by rw [h1,Y6,A9.len h3];rfl
theorem H6.len:∀{l:List V7} {rows:List (List d9)},H6 m S l rows->rows.length=l.length
 | [],_,h=>by cases h;rfl
 | e::es,_,⟨r,rs,h1,h2,h3⟩=>by rw [h1,Y6,H6.len h3];rfl
theorem A9.get:∀{l:List Ex} {rows:List (List d9)},A9 m S l rows->∀i (h:i<l.length) (h':i<rows.length),R7 m S l[i] rows[i]
 | e::es,_,⟨r,rs,h1,h2,h3⟩,0,h,h'=>by subst h1;exact h2
 | e::es,_,⟨r,rs,h1,h2,h3⟩,i+1,h,h'=>by subst h1;exact A9.get h3 i (by simpa using h) (by simpa using h')
theorem H6.get:∀{l:List V7} {rows:List (List d9)},H6 m S l rows->∀i (h:i<l.length) (h':i<rows.length),ig m S l[i] rows[i]
 | e::es,_,⟨r,rs,h1,h2,h3⟩,0,h,h'=>by subst h1;exact h2
 | e::es,_,⟨r,rs,h1,h2,h3⟩,i+1,h,h'=>by subst h1;exact H6.get h3 i (by simpa using h) (by simpa using h')
theorem A9.snoc:∀{l:List Ex} {rows:List (List d9)} {e:Ex} {r:List d9},A9 m S l rows->R7 m S e r->A9 m S (l ++ [e]) (rows ++ [r])
 | [],_,e,r,h,h'=>by cases h;exact⟨r,[],rfl,h',rfl⟩
 | _ :: _,_,e,r,⟨r0,rs,h1,h2,h3⟩,h'=>by subst h1;exact⟨r0,rs ++ [r],rfl,h2,A9.snoc h3 h'⟩
theorem H6.snoc:∀{l:List V7} {rows:List (List d9)} {e:V7} {r:List d9},H6 m S l rows->ig m S e r->H6 m S (l ++ [e]) (rows ++ [r])
 | [],_,e,r,h,h'=>by cases h;exact⟨r,[],rfl,h',rfl⟩
 | _ :: _,_,e,r,⟨r0,rs,h1,h2,h3⟩,h'=>by subst h1;exact⟨r0,rs ++ [r],rfl,h2,H6.snoc h3 h'⟩
def fB (m:Mem)(S:Nat->Prop)(l:List Ex)(v:d9):Prop:=∃rows,eD m S 4 v rows∧A9 m S l rows
def O4 (m:Mem)(S:Nat->Prop)(l:List V7)(v:d9):Prop:=∃rows,eD m S 5 v rows∧H6 m S l rows
theorem R7.row {e:Ex}{row:List d9}(h:R7 m S e row):row.length=4∧J8 row=true:=by obtain⟨k,n,s,a⟩:=e;obtain⟨v,b,rfl,c,_⟩:=h;refine⟨rfl,?_⟩;have d:=c.slice.u7;rw [bT,bT,bT,bT,d];rfl
theorem ig.row {e:V7}{row:List d9}(h:ig m S e row):row.length=5∧J8 row=true:=by obtain⟨k,s,e,t,f⟩:=e;obtain⟨o,q,p,j,n,l,rfl,d,_,g,_,i,_⟩:=h;refine⟨rfl,?_⟩;have a:=d.slice.u7;have b:=g.slice.u7;have c:=i.slice.u7;rw [bT,bT,bT,bT,bT,a,b,c];rfl
end
open Go Go.RowKit
section
variable {P:Program}{G:Mem}{ι:J9}{m:Mem}{w w':World}
theorem FN (h:RM P G ι m w.heap)(hb:Below w.heap.size w w'):Step P G ι m w ι m w':=by refine⟨⟨h.ok,λi x a=>?_,λi x o a d=>?_,h.glim,h.limn,h.gle,h.base,h.ghas,h.glob,h.spot,h.MO λk p _=>hb.block k p⟩,λ_ _=>rfl,λ_ h=>h,q9 _,rfl,λ_ _=>rfl,hb.size,λb f _=>hb.block b f,λ_ h=>.inl h,hb.os,hb.output,hb.tape⟩;exact (h.blk i x a).mono (n:=m.nm ι) (λ_ _=>rfl) (Mem.aB (λ_ h=>h) λ_ _=>rfl) λd=>hb.block _ (eO (h.blk i x a) d);have j:=h.own i x o a d;refine⟨j.alone,λc e l g=>?_⟩;rw [hb.block _ (eO (h.blk i x a) d)] at g;exact j.free c e l g
end
section
variable {P:Program}{G:Mem}
theorem rD {f:FuncId}{args:List d9}{v:d9}(a:BO (layAll [] G).nx ⟨v,V8 G []⟩=some ⟨v,[]⟩)(c:∀n:Nm,v.lt n)(h:∀ι ι',o8 ι v=o8 ι' v)
  (g:∀(ι:J9) (w:World),RM P G ι (V8 G []) w.heap->Calls P f (u6 ι args).toArray w λe w'=>e=.returned (o8 ι v)∧Below w.heap.size w w'):kF P G f args [] ⟨v,[]⟩:=by
 intro ι w d b;refine callsIn_wide.2 ((g ι w d).mono ?_);rintro e w' ⟨rfl,hb⟩;exact⟨ι,⟨v,V8 G []⟩,FN d hb,c _,rfl,a⟩
end
end
end Go.AM
namespace Go.AM
open Go Go.RowKit
noncomputable section
theorem FP (m:Mem)(lo n:Nat)(a:List (Nat×NB)):reach m lo (n+1) [] a=some a.reverse:=rfl
section
variable {G:Mem}
end
theorem QB {lo:Nat}{v:d9}(m:Mem)(b:xO lo [v]=[])(c:∀r,kV r [v]=some [v]):lQ lo [v] m=some ⟨[],[v],[]⟩:=by show ob (reach m lo (99999+1) (xO lo [v]) []) _=_;rw [b,FP];show ob (kV (Av lo []) [v]) (λd=>ob (some []) λa=>some (⟨[],d,a⟩:CO))=_;rw [c];rfl
theorem aay {K:Known}{cf:H8}{b:Nat}{f:FuncId}{sf:R5}{args:List d9}{m:Mem}{c:CO}{a:CX}(g:lQ K.base.nx args m=some c)(d:K.sum f c.vs c.bs=some a):
  iY K cf b f sf args m=ob (fG (mV K.base.nx c.ids m.nx) a.v) λv=>ob (wT (mV K.base.nx c.ids m.nx) a.bs) λbs=>one v (layAll bs m):=by
 show ob (lQ K.base.nx args m) (λc=>ob (BP K cf b f sf c.vs c.bs) λa=>ob (fG (mV K.base.nx c.ids m.nx) a.v) λv=>ob (wT (mV K.base.nx c.ids m.nx) a.bs) λbs=>one v (layAll bs m))=_;rw [g,L8];have e:BP K cf b f sf c.vs c.bs=some a:=by unfold BP;rw [d]
 rw [e,L8]
open Go
def Dg (lo:Nat)(m:Mem)(v:d9)(l:List (List UInt8)):Prop:=
 (v=.nilSlice∧l=[])∨∃id t c,lo<=id∧id<m.nx∧l≠[]∧v=.sliceU id 0 l.length 1∧m.get id=some (.cells 1 l.length t)∧T.Ok t c∧l.length<=c∧∀i (h:i<l.length),t.get i=some [.str l[i]]
section
variable {lo:Nat}{m m':Mem}{v:d9}{l:List (List UInt8)}
theorem Dg.keep (h:Dg lo m v l)(a:m.nx<=m'.nx)(b:∀i,lo<=i->i<m.nx->m'.get i=m.get i):Dg lo m' v l:=by rcases h with h | ⟨id,t,c,h1,h2,h3,h4,h5,h6⟩;exact .inl h;exact .inr ⟨id,t,c,h1,gq h2 a,h3,h4,(b id h1 h2).trans h5,h6⟩
theorem Dg.ext (h:Dg lo m v l)(e:Ext m m'):Dg lo m' v l:=h.keep e.nx λi _ a=>e.old i a
theorem Dg.cells (h:Dg lo m v l):v.cells=[v]:=by rcases h with⟨rfl,_⟩ | ⟨id,t,c,_,_,_,rfl,_⟩<;>rfl
theorem Dg.u7 (h:Dg lo m v l):Go.AM.u7 v=true:=by rcases h with⟨rfl,_⟩ | ⟨id,t,c,_,_,_,rfl,_⟩<;>rfl
theorem Dg.kP (h:Dg lo m v l){β:Type}(p:d9->β)(q:β):bC v p q=q:=by rcases h with⟨rfl,_⟩ | ⟨id,t,c,_,_,_,rfl,_⟩<;>rfl
end
section
variable (cf:H8)(fu:Nat)(ls:List d9)(env:T d9)(m:Mem)(k:List Mk)
@[simp] theorem ah5 (x:OF):Pq x cf ls env m=ZG (x ls env) m:=id rfl
@[simp] theorem aeC (t:TypeId)(v:d9):ZG (.iface t v) m=some [⟨.kP (.iface t v),m⟩]:=id rfl
@[simp] theorem aeD (x:d9):iy k ⟨env,m,some x,[]⟩=some [⟨.ret,env,m,k,some x⟩]:=id rfl
@[simp] theorem aeE (x:Mk):iy k ⟨env,m,none,[x]⟩=some [⟨.normal,env,m,x::k,none⟩]:=id rfl
@[simp] theorem ah6 (a:jU)(rs:List pG)(x:d9):leave a rs ⟨.ret,env,m,[],some x⟩=some [⟨.kP x,m⟩]:=id rfl
@[simp] theorem acW:nE .nilIface .nilIface=some true:=id rfl
@[simp] theorem aaz (t:TypeId)(v:d9):nE (.iface t v) .nilIface=some false:=id rfl
@[simp] theorem ah7 (r:RC):JY r cf fu none env m k=bnd (r cf [] env m) (iy k):=id rfl
@[simp] theorem aiF (g:OF)(args:List OF):MC g args cf ls env m=Mj (g ls env) λfn a b=>some [⟨env,m,none,[.d (.func fn a b) (evs args ls env)]⟩]:=id rfl
def behind (rs:List pG)(env:T d9)(r:Mem×Option d9):gN:=xM rs env r.2 r.1
@[simp] theorem ah8 (rs:List pG):behind rs env (m,none)=ob (results rs env m) λl=>some [⟨result l,m⟩]:=id rfl
def aiG (b:U8)(r:MH):Option (List MH):=match r.o.x with
 | .normal=>match r.o.marks with
  | []=>Ru b cf fu r.o.env r.o.m r.md
  | _=>none
 | _=>some [r]
variable (md:Option d9)
def aiH (r:EM×Option d9):Option (List MH):=some [⟨⟨.normal,r.1.env,r.1.m,[],none⟩,r.2⟩]
def anN (md:Option d9)(o:Out):Option (List MH):=some [⟨o,md⟩]
@[simp] theorem aiI (b:U8):aiG cf fu b ⟨⟨.normal,env,m,[],none⟩,md⟩=Ru b cf fu env m md:=id rfl
@[simp] theorem am1 (o:Out):anN md o=some [⟨o,md⟩]:=id rfl
@[simp] theorem aiJ (e:EM):aiH (e,md)=some [⟨⟨.normal,e.env,e.m,[],none⟩,md⟩]:=id rfl
end
theorem Bq (b c:UInt8):Nat.beq b.toNat c.toNat=decide (b=c):=by
 by_cases h:b=c;subst h;rw [decide_eq_true rfl];exact abB _;rw [decide_eq_false h];cases hb:Nat.beq b.toNat c.toNat with
 | false=>rfl
 | true=>exact absurd (alc.1 (gI hb)) h
theorem FQ (c:UInt8):∀s:List UInt8,aaq c s=decide (0<=Lib.indexByte s c)
 | []=>rfl
 | b::l=>by show bi (Nat.beq b.toNat c.toNat) true (aaq c l)=_;rw [Bq,FQ c l];have hg:=Lib.indexByte_ge l c;rw [show Lib.indexByte (b::l) c=if b==c then 0 else if Lib.indexByte l c == -1 then -1 else Lib.indexByte l c+1 from rfl];by_cases h:b=c;rw [decide_eq_true h,if_pos (beq_iff_eq.2 h)];rfl;rw [decide_eq_false h,if_neg (by simpa using h)];show decide _=_;by_cases h2:Lib.indexByte l c=-1;rw [if_pos (beq_iff_eq.2 h2),h2];rw [if_neg (by simpa using h2)];exact decide_eq_decide.2 (by omega)
section
variable {P:Program}{G:Mem}
theorem Xz (n:Nat)(b:Bool)(m:Mem):BO n ⟨.bool b,m⟩=some ⟨.bool b,[]⟩:=rfl
theorem aaA (n:Nat)(s:List UInt8)(m:Mem):BO n ⟨.str s,m⟩=some ⟨.str s,[]⟩:=rfl
theorem Lc {f:FuncId}(a:∀(s:ByteArray)(c:UInt8)(w:World),Calls P f #[.string s,.string ⟨#[c]⟩] w λe w'=>e=.returned (.bool (decide (0<=Lib.indexByte s.data.toList c)))∧w'=w)
  (s:List UInt8) (c:UInt8):kF P G f [.str s,.str [c]] [] ⟨.bool (aaq c s),[]⟩:=
 rD (Xz _ _ _) (λ_=>trivial) (λ_ _=>by simp [o8]) λb w _=>by refine aho (a ⟨s.toArray⟩ c w) ?_;rintro e w' ⟨rfl,rfl⟩;exact⟨by simp [o8,FQ],Below.refl _ _⟩
theorem Jj (c:UInt8):∀s:List UInt8,Fz c s=Lib.indexByte s c
 | []=>rfl
 | b::l=>by show bi (Nat.beq b.toNat c.toNat) 0 (bi (bU (Fz c l) (Int.negSucc 0)) (Int.negSucc 0) (Fz c l+1))=_;rw [Bq,Jj c l,gy];rw [show Lib.indexByte (b::l) c=if b==c then 0 else if Lib.indexByte l c == -1 then -1 else Lib.indexByte l c+1 from rfl];by_cases h:b=c;rw [decide_eq_true h,if_pos (beq_iff_eq.2 h)];rfl;rw [decide_eq_false h,if_neg (by simpa using h)];show bi (Lib.indexByte l c == -1) (-1) (Lib.indexByte l c+1)=_;cases Lib.indexByte l c == -1<;>rfl
theorem Jk (c:UInt8):∀s:List UInt8,FB c s=Lib.countByte s c
 | []=>rfl
 | b::l=>by show bi (Nat.beq b.toNat c.toNat) (Nat.succ (FB c l)) (FB c l)=_;rw [Bq,Jk c l];unfold Lib.countByte;rw [List.count_cons];by_cases h:b=c;rw [decide_eq_true h,if_pos (by simpa using h)];rfl;rw [decide_eq_false h,if_neg (by simpa using h)];rfl
theorem UF {f:FuncId}(a:∀(s:ByteArray)(c:UInt8)(w:World),Calls P f #[.string s,.string ⟨#[c]⟩] w λe w'=>e=.returned (.int .i64 (Lib.indexByte s.data.toList c))∧w'=w)
  (s:List UInt8) (c:UInt8):kF P G f [.str s,.str [c]] [] ⟨.int .i64 (Fz c s),[]⟩:=
 rD rfl (λ_=>trivial) (λ_ _=>by simp [o8]) λb w _=>by refine aho (a ⟨s.toArray⟩ c w) ?_;rintro e w' ⟨rfl,rfl⟩;exact⟨by simp [o8,Jj],Below.refl _ _⟩
theorem UG {f:FuncId}(a:∀(s:ByteArray)(c:UInt8)(w:World),Calls P f #[.string s,.string ⟨#[c]⟩] w λe w'=>e=.returned (.int .i64 (Lib.countByte s.data.toList c))∧w'=w)
  (s:List UInt8) (c:UInt8):kF P G f [.str s,.str [c]] [] ⟨.int .i64 (.ofNat (FB c s)),[]⟩:=
 rD rfl (λ_=>trivial) (λ_ _=>by simp [o8]) λb w _=>by refine aho (a ⟨s.toArray⟩ c w) ?_;rintro e w' ⟨rfl,rfl⟩;exact⟨by simp [o8,Jk],Below.refl _ _⟩
theorem FT (sep:List UInt8):∀ws,iM sep ws=Lib.join ws sep
 | []=>rfl
 | [x]=>(Lib.join_one x sep).symm
 | x::y::r=>by have ih:=FT sep (y::r);have e:iM sep (x::y::r)=aC x (aC sep (iM sep (y::r))):=rfl;rw [e,ih,R8,R8,Lib.join_cons,Lib.join_cons];simp [Lib.joinTail]
theorem Cu:∀{l:List (List d9)} {ws:List (List UInt8)},Bl l=some ws->l=ws.map λw=>[d9.str w]
 | [],ws,h=>by have h:some ([]:List (List UInt8))=some ws:=h;cases h;rfl
 | r::l,ws,h=>by
  match r,h with
  | [.str s],h=>have h:ob (Bl l) (λt=>some (s::t))=some ws:=h;obtain⟨t,h1,h2⟩:=D6 h;cases h2;rw [Cu h1];rfl
theorem QC {α:Type}(n:Nat):∀(l:List α) {r:List α},takeN n l=some r->r=l.take n∧n<=l.length:=by
 intro l r h;by_cases a:n<=l.length;rw [oI n l a] at h;cases h;exact⟨rfl,a⟩;exfalso;revert l r;induction n with
 | zero=>intro l r _ a;exact a (ahg _)
 | succ n ih=>
  intro l r h a;cases l with
  | nil=>cases h
  | cons x l=>have h:ob (takeN n l) (λt=>some (x::t))=some r:=h;obtain⟨t,b,_⟩:=D6 h;exact ih l b (by simp at a;omega)
theorem XA {f:FuncId}(hG:T.Ok G.t G.nx)
  (Y:∀(a:Option Addr) (c:Nat) (d:ByteArray) (w:World),Calls P f #[.slice a 0 c,.string d] w λe w'=>e=.returned (.string ⟨#[]⟩)∧w'=w)
  (Z:∀(bk o c:Nat) (x d:ByteArray) (w:World),w.cell? ⟨bk,o,none⟩=some (.string x)->Calls P f #[.slice (some ⟨bk,o,none⟩) 1 c,.string d] w λe w'=>e=.returned (.string x)∧w'=w)
  (c2:∀(bk o c:Nat) (xs:List ByteArray) (d:ByteArray) (w:World),(∀(j:Nat) x,xs[j]?=some x->w.cell? ⟨bk,o+j,none⟩=some (.string x))->bk<w.heap.size->2<=xs.length->xs.length<=140737488355328->xs.length<=c->
   (Lib.join (xs.map (·.data.toList)) d.data.toList).length<=140737488355328->Calls P f #[.slice (some ⟨bk,o,none⟩) xs.length c,.string d] w λe w'=>e=.returned (.string ⟨(Lib.join (xs.map (·.data.toList)) d.data.toList).toArray⟩)∧Below w.heap.size w w')
  {v:d9} {off n:Nat} (hv:(∃c,v=.slice G.nx off n c∧n<=c)∨∃es,v=.sliceU G.nx off n es) {rows l:List (List d9)} {A:List (List UInt8)} {d:List UInt8} (hn:n<1000000)
  (V:takeN n (lW off rows)=some l) (hw:Bl l=some A) (B:(iM d A).length<1000000):kF P G f [v,.str d] [.cells 1 rows] ⟨.str (iM d A),[]⟩:=by
 intro i w Q D;rw [mg] at V;obtain⟨F,a0⟩:=QC n _ V;have H:=Cu hw;have h:A.length=n:=by have:=congrArg List.length H;rw [F,aer,aaN] at this;omega
 have U:(V8 G [.cells 1 rows]).get G.nx=some (.cells 1 (len' rows) (T.ofList rows)):=by show (G.new (iX (.cells 1 rows))).get G.nx=_;rw [Mem.L9 (m:=G) hG];exact if_pos rfl
 have q:=Q.spot G.nx _ U rfl;obtain⟨c,e,fz,R,h1,_,hr⟩:=Q.blk G.nx _ U;have g:∀j (x:List UInt8),A[j]?=some x->w.cell? ⟨(i G.nx).b,(i G.nx).base+off+j,none⟩=some (.string ⟨x.toArray⟩):=λj x K=>by
  have hj:j<n:=by rw [← h];exact (J2.1 K).1
  have C:rows[off+j]?=some [d9.str x]:=by
   have I:l[j]?=some [d9.str x]:=by rw [H,aaM,K];rfl
   rw [F,aeP,if_pos hj,ahe] at I;exact I
  obtain⟨a1,X,q2,q3,q4⟩:=hr (off+j) (by rw [K4];exact (J2.1 C).1);rw [T.aD,C] at X;cases X;have:=q4 0 (by omega);rw [aeG,Y1] at this;have J:c[(i G.nx).base+off+j]?=some (.string ⟨x.toArray⟩):=by rw [agk,this];simp [o8]
  simp [World.cell?,R,J]
 have E:(i G.nx).b<w.heap.size:=(U9.1 R).1;have k:∀(x:ByteArray) (w':World),x=⟨(iM d A).toArray⟩->Below w.heap.size w w'->∃ι' r,Step P G i (V8 G [.cells 1 rows]) w ι' r.m w'∧r.v.lt (r.m.nm ι')∧Ending.returned (.string x)=.returned (o8 ι' r.v)∧
   BO (layAll [.cells 1 rows] G).nx r=some ⟨.str (iM d A),[]⟩:=λx w' K L=>
  ⟨i,⟨.str (iM d A),V8 G [.cells 1 rows]⟩,FN Q L,trivial,by rw [K];simp [o8],rfl⟩
 have M:∃cap,n<=cap∧o8 i v=.slice (some ⟨(i G.nx).b,(i G.nx).base+off,none⟩) n cap:=by rcases hv with⟨cap,rfl,p⟩ | ⟨es,rfl⟩;exact⟨cap,p,by simp [o8,J9.yX q]⟩;have O:d9.lt ((V8 G [.cells 1 rows]).nm i) (.sliceU G.nx off n es):=D.1;obtain⟨_,I,J⟩:=O;refine⟨((i G.nx).cap-off) / es,?_,by simp [o8,J9.yX q]⟩;have J:off+n*es<=(i G.nx).cap:=J;exact (aeF I).2 (by omega)
 obtain⟨cap,p,N⟩:=M;have s:(u6 i [v,.str d]).toArray=#[.slice (some ⟨(i G.nx).b,(i G.nx).base+off,none⟩) n cap,.string ⟨d.toArray⟩]:=by simp [u6,N,o8]
 rw [s];refine callsIn_wide.2 ?_;match A,h,g,B,k with
 | [],h,_,_,k=>obtain rfl:n=0:=h.symm;refine aho (Y _ cap ⟨d.toArray⟩ w) ?_;rintro e w' ⟨rfl,rfl⟩;exact k _ _ rfl (Below.refl _ _)
 | [x],h,g,_,k=>obtain rfl:n=1:=h.symm;refine aho (Z _ _ cap ⟨x.toArray⟩ ⟨d.toArray⟩ w (g 0 x rfl)) ?_;rintro e w' ⟨rfl,rfl⟩;exact k _ _ rfl (Below.refl _ _)
 | x::y::t,h,g,B,k=>
  have S:((x::y::t).map λz:List UInt8=>(⟨z.toArray⟩:ByteArray)).map (λb:ByteArray=>b.data.toList)=x::y::t:=by rw [ahk];exact List.map_id'' (λ_=>rfl) _
  have:=c2 (i G.nx).b ((i G.nx).base+off) cap ((x::y::t).map λz:List UInt8=>(⟨z.toArray⟩:ByteArray)) ⟨d.toArray⟩ w (λj z W=>by
   rw [aaM] at W;obtain⟨u,hu,rfl⟩:=acY.1 W;exact g j u hu) E (by simp) (by rw [aaN,h];omega) (by rw [aaN,h];exact p) (by
    rw [S];show (Lib.join (x::y::t) d).length<=_;rw [← FT];omega)
  rw [S,aaN,h] at this;refine aho this ?_;rintro e w' ⟨rfl,L⟩;refine k _ _ ?_ L;rw [FT]
end
end
end Go.AM
