/- A part of an evaluator for the model, proved sound: what it answers holds of the model; it speaks of every program, no condition. -/
import Derived.Test.YteecnooaopfkeaaGreatDoorLA1
import Derived.Lib.Builder
import Derived.Laws.NewFold
import Derived.CallsIn
set_option linter.unusedSimpArgs false
set_option linter.unusedVariables false
namespace Go.AM
open Go
section
variable {P:Program}{G:Mem}{ι:Inj}{m:Mem}{w:World}
theorem Q6 {β:Type}{b:Option Blk}{k:Nat→Nat→T (List j3)→Option β}{r:β}(h:K5 b k=some r):∃rs n rows,b=some (.cells rs n rows)∧k rs n rows=some r:=by
 match b,h with
 | some (.cells rs n rows),h=>exact⟨rs,n,rows,rfl,h⟩
theorem uo {β:Type}{b:Option Blk}{k:List (j3×j3)→Option β}{r:β}(h:vEs b k=some r):∃es,b=some (.map es)∧k es=some r:=by
 match b,h with
 | some (.map es),h=>exact⟨es,rfl,h⟩
theorem Aa (hm:RM P G ι m w.heap){id rs k:Nat}{rows:T (List j3)}(hg:m.get id=some (.cells rs k rows)){i j:Nat}(hi:i<k)(hj:j<rs){row:List j3}
  (hr:rows.get i=some row) {v:j3} (hv:row[j]?=some v):w.cell? (ι.at id (i*rs+j))=some (l6 ι v)∧v.lt (m.nm ι):=by
 obtain⟨c,e,fz,h1,h2,h3,h4⟩:=hm.blk id _ hg
 obtain⟨row',g1,g2,g3,g4⟩:=h4 i hi
 rw [hr] at g1;cases g1
 have:=g4 j hj
 rw [hv] at this
 refine⟨?_,E8 g3 (List.mem_of_getElem? hv)⟩
 simp only [World.cell?,Inj.at,h1,hm.spot id _ hg rfl]
 simpa using this
theorem Db {rs n off:Nat}{rows:T (List j3)}{v:j3}(h:cell1 rs n rows off=some v):
  off / rs<n∧∃row,rows.get (off / rs)=some row∧row[off%rs]?=some v:=by
 obtain⟨h1,h2⟩:=p9 h
 obtain⟨row,h3,h4⟩:=r9 h2
 rw [cZ] at h4
 exact⟨Eq.mp Nat.blt_eq h1,row,h3,h4⟩
theorem qQ (hm:RM P G ι m w.heap){id rs k off:Nat}{rows:T (List j3)}(hg:m.get id=some (.cells rs k rows)){v:j3}(h:cell1 rs k rows off=some v):
  w.cell? (ι.at id off)=some (l6 ι v)∧v.lt (m.nm ι):=by
 obtain⟨h1,row,h2,h3⟩:=Db h
 obtain⟨c,e,fz,_,_,_,h4⟩:=hm.blk id _ hg
 obtain⟨row',g1,g2,_,_⟩:=h4 _ h1
 rw [h2] at g1;cases g1
 have hlt:off%rs<rs:=Nat.lt_of_lt_of_eq (List.getElem?_eq_some_iff.1 h3).1 g2
 have:=Aa hm hg h1 hlt h2 h3
 rwa [show off / rs*rs+off%rs=off from by rw [Nat.mul_comm];exact Nat.div_add_mod off rs] at this
def gM (ι:Inj)(w:World)(id off:Nat)(l:List j3):Prop:=∀j v,l[j]?=some v→w.cell? (ι.at id (off+j))=some (l6 ι v)
theorem xU (hm:RM P G ι m w.heap){id rs n off k:Nat}{rows:T (List j3)}(hg:m.get id=some (.cells rs n rows)){l:List j3}(h:eT rs n rows off k=some l):
  l.length=k∧ltL (m.nm ι) l∧gM ι w id off l:=by
 obtain⟨h1,h2⟩:=p9 h
 obtain⟨row,h3,h4⟩:=r9 h2
 have h1:off / rs<n:=Eq.mp Nat.blt_eq h1
 obtain⟨c,e,fz,_,_,_,hb⟩:=hm.blk id _ hg
 obtain⟨row',g1,g2,g3,_⟩:=hb _ h1
 have h3:rows.get (off / rs)=some row:=h3
 rw [h3] at g1;cases g1
 have key:l=(row.drop (off%rs)).take k∧(off%rs+k≤rs∨k=0):=by
  have hmod:Nat.mod off rs=off%rs:=rfl
  rw [hmod] at h4
  rw [oL] at h4
  split at h4
  ·rename_i hz
   rw [oL] at h4
   split at h4
   ·rename_i hk
    have e:row=l:=Option.some.inj h4
    rw [hz,hk,← e]
    refine⟨?_,by omega⟩
    rw [List.drop_zero,← g2,List.take_length]
   ·obtain⟨e,hl⟩:=dH _ _ _ h4
    rw [hz]
    exact⟨by rw [List.drop_zero];exact e,by omega⟩
  ·obtain⟨e,hl⟩:=dH _ _ _ h4
   simp only [aJ,List.length_drop] at hl e
   exact⟨e,by omega⟩
 obtain⟨rfl,hk⟩:=key
 refine⟨by simp;omega,R5.2 fun v hv=>E8 g3 (List.mem_of_mem_drop (List.mem_of_mem_take hv)),fun j v hv=>?_⟩
 have hj:j<k:=by
  have:=(List.getElem?_eq_some_iff.1 hv).1;simp at this;omega
 rw [List.getElem?_take,if_pos hj,List.getElem?_drop] at hv
 have:=(Aa hm hg h1 (show off%rs+j<rs by omega) h3 hv).1
 rwa [show off / rs*rs+(off%rs+j)=off+j from by have:=Nat.div_add_mod off rs;rw [Nat.mul_comm] at this;omega] at this
theorem vS (rs n:Nat)(rows:T (List j3))(off:Nat):H7 rs n rows 0 off=some []:=rfl
theorem vT (rs n:Nat)(rows:T (List j3))(k off:Nat):H7 rs n rows (k+1) off=ob (cell1 rs n rows off) fun v=>ob (H7 rs n rows k (off+1)) fun l=>some (v::l):=rfl
theorem ku (hm:RM P G ι m w.heap){id rs n:Nat}{rows:T (List j3)}(hg:m.get id=some (.cells rs n rows)):
  ∀(k off:Nat) (l:List j3),H7 rs n rows k off=some l→l.length=k∧ltL (m.nm ι) l∧gM ι w id off l:=by
 intro k
 induction k with
 | zero=>intro off l h;rw [vS] at h;cases h;exact⟨rfl,trivial,fun j v hv=>by simp at hv⟩
 | succ k ih=>
  intro off l h
  rw [vT] at h
  obtain⟨v,h1,h⟩:=r9 h
  obtain⟨r,h2,h⟩:=r9 h
  cases h
  obtain⟨g1,g2⟩:=qQ hm hg h1
  obtain⟨g3,g4,g5⟩:=ih _ _ h2
  refine⟨by simp [g3],⟨g2,g4⟩,fun j u hu=>?_⟩
  cases j with
  | zero=>simp at hu;subst hu;exact g1
  | succ j=>rw [show off+(j+1)=off+1+j from by omega];exact g5 j u (by simpa using hu)
theorem bL (hm:RM P G ι m w.heap){id off k:Nat}{l:List j3}(h:I7 m id off k=some l):
  l.length=k∧ltL (m.nm ι) l∧gM ι w id off l:=by
 cases k with
 | zero=>cases h;exact⟨rfl,trivial,fun j v hv=>by simp at hv⟩
 | succ k=>
  have h:K5 (m.get id) (fun rs n rows=>H7 rs n rows (k+1) off)=some l:=h
  obtain⟨rs,n,rows,h1,h2⟩:=Q6 h
  exact ku hm h1 _ _ _ h2
theorem Ab {ad:Addr}{v:Value}(h:w.cell? ad=some v):(load ad).run P w=.ok v w:=by simp [h]
theorem nJ {id off:Nat}:∀(l:List j3) (i:Nat) (acc:Array Value),(∀j v,l[j]?=some v→w.cell? (ι.at id (off+(i+j)))=some (l6 ι v))→
  (loadCellsFrom (ι.at id off) i l.length acc).run P w=.ok (acc++(l8 ι l).toArray) w:=by
 intro l
 induction l with
 | nil=>intro i acc _;simp [loadCellsFrom,l8]
 | cons v l ih=>
  intro i acc h
  have h0:w.cell? (ι.at id (off+i))=some (l6 ι v):=h 0 v rfl
  simp only [List.length_cons,loadCellsFrom,Sem.run_bind,Inj.iZ]
  rw [Ab h0,Result.andThen_ok,ih (i+1) _ (fun j u hu=>by rw [show i+1+j=i+(j+1) from by omega];exact h (j+1) u (by simpa using hu))]
  simp [l8]
theorem gN {id off:Nat}{l:List j3}(h:gM ι w id off l):(loadCells (ι.at id off) l.length).run P w=.ok (l8 ι l).toArray w:=by
 have:=nJ (P:=P) (ι:=ι) (w:=w) (id:=id) (off:=off) l 0 #[] (fun j v hv=>by simpa using h j v hv)
 simpa [loadCells] using this
theorem Z0 {id off len cap es n:Nat}{l:List j3}(hl:l.length=n*es)(h:gM ι w id off l):
  (Builtin.firstCells es n (.slice (some (ι.at id off)) len cap)).run P w=.ok (l8 ι l).toArray w:=by
 simp only [Builtin.firstCells]
 rw [← hl]
 exact gN h
end
section
variable {P:Program}{G:Mem}{ι:Inj}{m:Mem}{w:World}{slots:List Nat}{done:List (Option Nat)}{ls:List j3}{env:T j3}{a:Act}
theorem lT {t:TypeId}{sz:Option Nat}(ht:partT P t=some sz)(hm:RM P G ι m w.heap){id off:Nat}{v:j3}
  (hv:K5 (m.get id) (fun rs n rows=>match sz with | none=>cell1 rs n rows off | some k=>ob (eT rs n rows off k) fun l=>some (.agg l))=some v):
  (loadVar t (ι.at id off)).run P w=.ok (l6 ι v) w∧v.lt (m.nm ι):=by
 obtain⟨rs,n,rows,hg,h⟩:=Q6 hv
 rcases uh ht with⟨rfl,ha,k,hk⟩ | ⟨k,rfl,ha,hk⟩
 ·obtain⟨h1,h2⟩:=qQ hm hg h
  exact⟨by simp [loadVar,iY ha,h1],h2⟩
 ·obtain⟨l,h1,h2⟩:=r9 h
  cases h2
  obtain⟨h3,h4,h5⟩:=xU hm hg h1
  refine⟨?_,h4⟩
  have:=gN (P:=P) h5
  rw [h3] at this
  simp [loadVar,iY ha,run_sizeOf hk,this,l6]
theorem U5 {t:TypeId}(h:P.underlying t=some .bool∨(∃k,P.underlying t=some (.int k))∨P.underlying t=some .string)(e:Bool)(d:Nat)(v:Value)(w:World):
  (Instr.checkKey e (d+1) t v).run P w=.ok () w:=by
 rcases h with h | ⟨k,h⟩ | h<;>simp [Instr.checkKey,run_underlying h]
def jf (e:Bool)(d:Nat)(X:Array Value):List Field→Sem Unit
 | []=>pure ()
 | f::l=>do
  if f.name≠ "_" then Instr.checkKey e d f.type (← part f.type X f.offset)
  jf e d X l
theorem Dc (e:Bool)(d:Nat)(X:Array Value)(l:List Field):
  (forIn l PUnit.unit fun f _=>do
    if f.name≠ "_" then Instr.checkKey e d f.type (← part f.type X f.offset)
    pure (ForInStep.yield PUnit.unit):Sem PUnit)=jf e d X l:=by
 induction l with
 | nil=>simp [jf]
 | cons f l ih=>
  rw [List.forIn_cons]
  simp only [jf]
  rw [← ih]
  by_cases hf:f.name= "_"
  ·simp [hf]
  ·simp [hf]
theorem qR {t:TypeId}{fs:Array Field}(h:P.underlying t=some (.struct fs))(e:Bool)(d:Nat)(X:Array Value)(w:World):
  (Instr.checkKey e (d+1) t (.agg X)).run P w=(jf e d X fs.toList).run P w:=by
 simp only [Instr.checkKey,Sem.run_bind,run_underlying h,Result.andThen_ok]
 rw [← Array.forIn_toList,← Dc]
 generalize (forIn fs.toList PUnit.unit _:Sem PUnit)=r
 simp
 cases r.run P w<;>rfl
theorem Df:∀(d:Nat) (t:TypeId) (ks:List PK),aI P d t=some ks→∃agg,zJ P t=some agg∧aS P t=some ks.length∧(agg=false→ks.length=1)∧
  ∀D,d≤D→∀(l:List j3),ks.length≤l.length→∀(e:Bool) w,(Instr.checkKey e D t (mkV ι agg l)).run P w=.ok () w:=by
 intro d
 induction d with
 | zero=>intro t ks h;simp [aI] at h
 | succ d ih=>
  intro t ks h
  obtain⟨agg,ha,hsz,h1,_⟩:=xP (P:=P) (ι:=ι) (d+1) t ks h
  refine⟨agg,ha,hsz,h1,fun D hD l hl e w=>?_⟩
  obtain⟨D,rfl⟩:∃D',D=D'+1:=⟨D-1,by omega⟩
  simp only [aI] at h
  cases hu:P.underlying t with
  | none=>simp [hu] at h
  | some u=>
   rw [hu] at h
   cases u<;>try (simp at h;done)
   ·exact U5 (.inl hu) e D _ w
   ·exact U5 (.inr (.inl ⟨_,hu⟩)) e D _ w
   ·exact U5 (.inr (.inr hu)) e D _ w
   ·rename_i fs
    rw [gK hu] at ha;cases ha
    simp only at h
    cases hf:iW (aI P d) fs.toList 0 with
    | none=>simp [hf] at h
    | some ks'=>
     simp only [hf] at h
     split at h
     ·rename_i hz
      cases h
      simp only [mkV,if_true]
      rw [qR hu]
      have key:∀(fl:List Field) (off:Nat) (ks₁:List PK),off+ks₁.length≤l.length→iW (aI P d) fl off=some ks₁→
        (jf e D (l8 ι l).toArray fl).run P w=.ok () w:=by
       intro fl
       induction fl with
       | nil=>intro off ks₁ _ _;simp [jf]
       | cons f fl ihl=>
        intro off ks₁ hlen hfl
        simp only [iW] at hfl
        split at hfl
        ·rename_i hn
         cases hk:aI P d f.type with
         | none=>simp [hk] at hfl
         | some kf=>
          simp only [hk] at hfl
          cases hrest:iW (aI P d) fl (off+kf.length) with
          | none=>simp [hrest] at hfl
          | some kr=>
           simp only [hrest,Option.some.injEq] at hfl;subst hfl
           simp only [List.length_append] at hlen
           obtain⟨agg,ha,hsz,h1,hE⟩:=ih f.type kf hk
           simp only [jf,if_pos hn.1,Sem.run_bind]
           rw [hn.2,lQ ha hsz _ _ (fun hagg=>⟨by have:=h1 hagg;omega,h1 hagg⟩),Result.andThen_ok,
            hE D (by omega) _ (by simp;omega) e w,Result.andThen_ok]
           exact ihl (off+kf.length) kr (by omega) hrest
        ·cases hfl
      exact key fs.toList 0 _ (by omega) hf
     ·cases h
end
section
variable {P:Program}{G:Mem}{ι:Inj}
theorem xV {t:TypeId}{k:EqK}(h:wX P t=some k):eqT P false t=some k∧((∃j,k=.prim j)∨∃ks,k=.flat ks):=by
 simp only [wX] at h
 split at h
 ·cases h;exact⟨by assumption,.inl ⟨_,rfl⟩⟩
 ·cases h;exact⟨by assumption,.inr ⟨_,rfl⟩⟩
 ·cases h
theorem P7 (f:EqF)(k:j3)(i:Nat):findKey f k [] i=some none:=rfl
theorem O9 (f:EqF)(k:j3)(e:j3×j3)(es:List (j3×j3))(i:Nat):
  findKey f k (e::es) i=ob (f k e.1) fun b=>bi b (some (some (i,e.2))) (findKey f k es (i+1)):=rfl
def jX (ι:Inj)(r:Option (Nat×j3)):Option (Nat×Value):=r.map fun p=>(p.1,l6 ι p.2)
theorem lU {f:EqF}{d:TypeDesc}(hs:∀x y r,f x y=some r→Instr.sameNow d (l6 ι x) (l6 ι y)=some r)(k:j3):
  ∀(es:List (j3×j3)) (i j:Nat) (r:Option (Nat×j3)),findKey f k es i=some r→Instr.findNow d (l6 ι k) (A8 ι es j) i=some (jX ι r)
 | [],i,j,r,h=>by rw [P7] at h;cases h;rfl
 | e::es,i,j,r,h=>by
  rw [O9] at h
  obtain⟨b,h1,h2⟩:=r9 h
  simp only [A8,Instr.findNow,hs _ _ _ h1]
  cases b with
  | true=>cases h2;rfl
  | false=>exact lU hs k es (i+1) (j+1) r h2
theorem iH {f:EqF}{t:TypeId}(hs:∀x y r,f x y=some r→∀w,(Op.equal t (l6 ι x) (l6 ι y)).run P w=.ok r w)(k:j3)(w:World):
  ∀(es:List (j3×j3)) (i j:Nat) (r:Option (Nat×j3)),findKey f k es i=some r→(Instr.findAsking t (l6 ι k) (A8 ι es j) i).run P w=.ok (jX ι r) w
 | [],i,j,r,h=>by rw [P7] at h;cases h;simp [A8,Instr.findAsking,jX]
 | e::es,i,j,r,h=>by
  rw [O9] at h
  obtain⟨b,h1,h2⟩:=r9 h
  simp only [A8,Instr.findAsking,Sem.run_bind,hs _ _ _ h1 w,Result.andThen_ok]
  cases b with
  | true=>cases h2;simp [jX]
  | false=>simpa using iH hs k w es (i+1) (j+1) r h2
theorem bS {f:EqF}{n:Nat}{k:j3}{es:List (j3×j3)}{r:Option (Nat×j3)}(h:I6 f n k es=some r):
  k.cells.length=n∧(∃y b,f k y=some b)∧findKey f k es 0=some r:=by
 obtain⟨h0,h⟩:=p9 h
 have h0:=Nat.eq_of_beq_eq_true h0
 rw [C8] at h0
 refine⟨h0,?_⟩
 cases es with
 | nil=>
  obtain⟨b,h1,h2⟩:=r9 (show ob (f k k) (fun _=>some none)=some r from h)
  exact⟨⟨_,_,h1⟩,by rw [P7];exact h2⟩
 | cons e es=>
  have h:findKey f k (e::es) 0=some r:=h
  refine⟨?_,h⟩
  rw [O9] at h
  obtain⟨b,h1,_⟩:=r9 h
  exact⟨_,_,h1⟩
theorem lV {kk:EqK}{t:TypeId}(hk:wX P t=some kk):
  (kk=.prim .b∧P.underlying t=some .bool)∨(∃k,kk=.prim .i∧P.underlying t=some (.int k))∨(kk=.prim .s∧P.underlying t=some .string)∨
  ∃fs ks,kk=.flat ks∧P.underlying t=some (.struct fs)∧aI P 10 t=some ks:=by
 obtain⟨h1,h2⟩:=xV hk
 simp only [eqT] at h1
 cases hu:P.underlying t with
 | none=>simp [hu] at h1
 | some u=>
  rw [hu] at h1
  cases u<;>try (simp at h1;done)
  ·simp only [Option.some.injEq] at h1;subst h1;simp
  ·simp only [Option.some.injEq] at h1;subst h1;simp
  ·simp only [Option.some.injEq] at h1;subst h1;simp
  ·simp only at h1
   split at h1
   ·cases h1;rcases h2 with⟨_,h2⟩ | ⟨_,h2⟩<;>cases h2
   ·cases h1
  ·simp only [Option.some.injEq] at h1;subst h1;rcases h2 with⟨_,h2⟩ | ⟨_,h2⟩<;>cases h2
  ·simp only [Option.some.injEq] at h1;subst h1;rcases h2 with⟨_,h2⟩ | ⟨_,h2⟩<;>cases h2
  ·rename_i fs
   simp only at h1
   cases hf:aI P 10 t with
   | none=>simp [hf] at h1
   | some ks=>
    simp only [hf] at h1
    split at h1
    ·cases h1
     exact .inr (.inr (.inr ⟨fs,ks,rfl,rfl,rfl⟩))
    ·cases h1
  ·simp only [Option.some.injEq] at h1;subst h1;rcases h2 with⟨_,h2⟩ | ⟨_,h2⟩<;>cases h2
theorem vU {kk:EqK}{t:TypeId}(hk:wX P t=some kk){k y:j3}{b:Bool}(hn:k.cells.length=CR kk)(h:pR kk k y=some b)(e:Bool)(w:World):
  (Instr.checkKey e 10000 t (l6 ι k)).run P w=.ok () w:=by
 rcases lV hk with⟨rfl,hu⟩ | ⟨_,rfl,hu⟩ | ⟨rfl,hu⟩ | ⟨fs,ks,rfl,hu,hf⟩
 ·exact U5 (.inl hu) e _ _ w
 ·exact U5 (.inr (.inl ⟨_,hu⟩)) e _ _ w
 ·exact U5 (.inr (.inr hu)) e _ _ w
 ·obtain⟨l,rfl,_⟩:=V7 h
  obtain⟨agg,ha,_,_,hc⟩:=Df (P:=P) (ι:=ι) 10 t ks hf
  rw [gK hu] at ha;cases ha
  have:=hc 10000 (by decide) l (Nat.le_of_eq hn.symm) e w
  simpa [mkV,l6] using this
theorem Fh {kk:EqK}{d:TypeDesc}(h:(kk=.prim .b∧d=.bool)∨(∃k,kk=.prim .i∧d=.int k)∨(kk=.prim .s∧d=.string))(x y:j3)(r:Bool)(he:pR kk x y=some r):
  Instr.sameNow d (l6 ι x) (l6 ι y)=some r:=by
 rcases h with⟨rfl,rfl⟩ | ⟨k,rfl,rfl⟩ | ⟨rfl,rfl⟩
 ·obtain⟨a,b,rfl,rfl,rfl⟩:=ak he
  simp [l6,Instr.sameNow]
 ·obtain⟨k,a,b,rfl,rfl,rfl⟩:=fV he
  simp [l6,Instr.sameNow]
 ·obtain⟨a,b,rfl,rfl,rfl⟩:=bf he
  simp [l6,Instr.sameNow,dD]
theorem dF {kk:EqK}{t:TypeId}(hk:wX P t=some kk){k:j3}{es:List (j3×j3)}{r:Option (Nat×j3)}(h:findKey (pR kk) k es 0=some r)(w:World):
  (Instr.findKey t (l6 ι k) (A8 ι es 0)).run P w=.ok (jX ι r) w:=by
 have prim:∀d,P.underlying t=some d→((kk=.prim .b∧d=.bool)∨(∃k,kk=.prim .i∧d=.int k)∨(kk=.prim .s∧d=.string))→
   (Instr.findKey t (l6 ι k) (A8 ι es 0)).run P w=.ok (jX ι r) w:=by
  intro d hu hd
  simp [Instr.findKey,run_underlying hu,lU (Fh hd) k es 0 0 r h]
 rcases lV hk with⟨rfl,hu⟩ | ⟨_,rfl,hu⟩ | ⟨rfl,hu⟩ | ⟨fs,ks,rfl,hu,hf⟩
 ·exact prim _ hu (.inl ⟨rfl,rfl⟩)
 ·exact prim _ hu (.inr (.inl ⟨_,rfl,rfl⟩))
 ·exact prim _ hu (.inr (.inr ⟨rfl,rfl⟩))
 ·have ha:=iH (P:=P) (ι:=ι) (t:=t) (fun x y r he w=>qN (xV hk).1 he w) k w es 0 0 r h
  cases es with
  | nil=>rw [P7] at h;cases h;simp [Instr.findKey,run_underlying hu,A8,Instr.findNow,jX]
  | cons e es=>
   simp only [Instr.findKey,Sem.run_bind,run_underlying hu,Result.andThen_ok]
   simp only [A8,Instr.findNow,Instr.sameNow]
   exact ha
theorem dL {f:EqF}{k:j3}:∀{es:List (j3×j3)} {i:Nat} {p:Nat×j3},findKey f k es i=some (some p)→
  ∃j e,p.1=i+j∧es[j]?=some e∧e.2=p.2∧f k e.1=some true
 | [],i,p,h=>by rw [P7] at h;cases h
 | e::es,i,p,h=>by
  rw [O9] at h
  obtain⟨b,h1,h2⟩:=r9 h
  cases b with
  | true=>cases h2;exact⟨0,e,rfl,rfl,rfl,h1⟩
  | false=>
   obtain⟨j,e',h3,h4,h5⟩:=dL h2
   exact⟨j+1,e',by omega,by simpa using h4,h5⟩
end
section
variable {P:Program}{G:Mem}{slots:List Nat}{done:List (Option Nat)}
inductive kC (P:Program)(slots:List Nat)(done:List (Option Nat)):Op→ROp→Prop
 | load {t x sz x'}:partT P t=some sz→J7 P slots done x=some x'→kC P slots done (.load t x) (.load sz x')
 | look {t kt e kk z ok x k x' k'}:P.underlying t=some (.map kt e)→wX P kt=some kk→zeroV P e=some z→J7 P slots done x=some x'→J7 P slots done k=some k'→
   kC P slots done (.lookup t x k ok) (.look kk z ok x' k')
 | lenM {c t kt e x x'}:c.callee=.builtin .len→c.argTypes.toList=[t]→c.args.toList=[x]→P.underlying t=some (.map kt e)→J7 P slots done x=some x'→
   kC P slots done (.call c) (.lenM x')
 | slData {c t e x x'}:c.callee=.builtin .unsafeSliceData→c.argTypes.toList=[t]→c.args.toList=[x]→P.underlying t=some (.slice e)→J7 P slots done x=some x'→kC P slots done (.call c) (.slData x')
 | toUns {a b t x x' k}:P.underlying a=some (.pointer t)→P.underlying b=some .unsafePointer→aS P t=some k→k≠0→J7 P slots done x=some x'→kC P slots done (.convert a b x) (.toUns x')
 | fromUns {a b u x x' k}:P.underlying a=some .unsafePointer→P.underlying b=some (.pointer u)→aS P u=some k→k≠0→J7 P slots done x=some x'→kC P slots done (.convert a b x) (.fromUns (EK P u) x')
 | bytesStr {a b e x x'}:P.underlying a=some (.slice e)→P.underlying b=some .string→P.underlying e=some (.int .u8)→J7 P slots done x=some x'→
   kC P slots done (.convert a b x) (.bytesStr x')
 | entry {x x'}:J7 P slots done x=some x'→kC P slots done (.entry x) (.entry x')
set_option maxHeartbeats 1000000 in
theorem lW {op:Op}{ro:ROp}(h:cOp P slots done op=some (.r ro)):kC P slots done op ro:=by
 cases op with
 | load t x=>
  obtain⟨sz,h1,h⟩:=bind_eq h
  obtain⟨x',h2,h⟩:=bind_eq h
  cases h;exact .load h1 h2
 | lookup t x k ok=>
  obtain⟨u,hu,h⟩:=bind_eq h
  split at h
  ·obtain⟨kk,h1,h⟩:=bind_eq h
   obtain⟨z,h2,h⟩:=bind_eq h
   obtain⟨x',h3,h⟩:=bind_eq h
   obtain⟨k',h4,h⟩:=bind_eq h
   cases h;exact .look hu h1 h2 h3 h4
  ·cases h
 | entry x=>
  obtain⟨x',h2,h⟩:=bind_eq h
  cases h;exact .entry h2
 | convert a b x=>
  obtain⟨u,hu,h⟩:=bind_eq h
  obtain⟨v,hv,h⟩:=bind_eq h
  split at h
  ·obtain⟨_,_,h⟩:=bind_eq h;cases h
  ·obtain⟨_,_,h⟩:=bind_eq h
   split at h
   ·obtain⟨_,_,h⟩:=bind_eq h;cases h
   ·cases h
  ·obtain⟨w,hw,h⟩:=bind_eq h
   split at h
   ·obtain⟨x',hx,h⟩:=bind_eq h;cases h;exact .bytesStr hu hv hw hx
   ·cases h
  ·obtain⟨k,hk,h⟩:=bind_eq h
   split at h
   ·cases h
   ·obtain⟨x',hx,h⟩:=bind_eq h;cases h;exact .toUns hu hv hk (by assumption) hx
  ·obtain⟨k,hk,h⟩:=bind_eq h
   split at h
   ·cases h
   ·obtain⟨x',hx,h⟩:=bind_eq h;cases h;exact .fromUns hu hv hk (by assumption) hx
  ·cases h
 | call c=>
  simp only [cOp] at h
  split at h
  ·rename_i b hb
   simp only [lu] at h
   split at h
   ·rename_i h1 h2
    obtain⟨u,hu,h⟩:=bind_eq h
    split at h
    ·obtain⟨_,_,h⟩:=bind_eq h;cases h
    ·obtain⟨_,_,h⟩:=bind_eq h;cases h
    ·cases h
    ·obtain⟨x',hx,h⟩:=bind_eq h;cases h;exact .lenM hb h1 h2 hu hx
    ·cases h
   case h_9 h1 h2=>
    obtain⟨u,hu,h⟩:=bind_eq h
    split at h
    ·obtain⟨x',hx,h⟩:=bind_eq h;cases h;exact .slData hb h1 h2 hu hx
    ·cases h
   all_goals (repeat' (first | (cases h;done) | (obtain⟨_,_,h⟩:=bind_eq h) | split at h))
  ·obtain⟨_,_,h⟩:=bind_eq h
   repeat' (first | (cases h;done) | (obtain⟨_,_,h⟩:=bind_eq h) | split at h)
  ·obtain⟨_,_,h⟩:=bind_eq h
   obtain⟨_,_,h⟩:=bind_eq h;cases h
  ·cases h
 | build t parts=>
  simp only [cOp,qF] at h
  repeat' (first | (cases h;done) | split at h)
 | slice t x lo hi mx=>
  cases mx with
  | some m=>simp only [cOp] at h;cases h
  | none=>
   simp only [cOp] at h
   repeat' (first | (cases h;done) | (obtain⟨_,_,h⟩:=bind_eq h) | split at h)
 | next it str=>
  cases str with
  | true=>simp only [cOp] at h;obtain⟨_,_,h⟩:=bind_eq h;cases h
  | false=>simp only [cOp] at h;obtain⟨_,_,h⟩:=bind_eq h;cases h
 | _=>
  simp only [cOp] at h
  repeat' (first | (cases h;done) | (obtain⟨_,_,h⟩:=bind_eq h) | split at h)
inductive iI (P:Program)(slots:List Nat)(done:List (Option Nat)):Op→LOp→Prop
 | alloc {t z}:nE P t=some z→iI P slots done (.alloc t) (.alloc z)
 | box {t x x'}:J7 P slots done x=some x'→iI P slots done (.box t x) (.box x')
 | allocT {t z}:En P t=some z→iI P slots done (.alloc t) (.allocT t z)
 | boxT {t k x x'}:aS P t=some k→J7 P slots done x=some x'→iI P slots done (.box t x) (.boxT t k x')
 | buildSlice {t len parts e es ps z}:P.underlying t=some (.slice e)→aS P e=some es→oH P slots done (fun i=>some (i*es,es)) parts.toList=some ps→len*es≤16777216→
   nE P e=some z→iI P slots done (.buildSlice t len parts) (.buildSlice es len z ps)
 | mkMap {t}:iI P slots done (.makeMap t none) .mkMap
 | mkMapN {t k n kt e}:P.underlying t=some (.map kt e)→iI P slots done (.makeMap t (some (.const (.int k n)))) .mkMap
 | mkSlice {t l c e es by' z l' c'}:P.underlying t=some (.slice e)→aS P e=some es→Z5 P e=some by'→En P e=some z→J7 P slots done l=some l'→J7 P slots done c=some c'→
   iI P slots done (.makeSlice t l c) (.mkSlice es by' z l' c')
 | strBytes {a b e x x'}:P.underlying a=some .string→P.underlying b=some (.slice e)→P.underlying e=some (.int .u8)→J7 P slots done x=some x'→
   iI P slots done (.convert a b x) (.strBytes x')
 | sl {t x lo hi e es x' lo' hi'}:P.underlying t=some (.slice e)→aS P e=some es→J7 P slots done x=some x'→cOpt P slots done lo=some lo'→cOpt P slots done hi=some hi'→
   iI P slots done (.slice t x lo hi none) (.sl es x' lo' hi')
set_option maxHeartbeats 1000000 in
theorem qd {op:Op}{lo:LOp}(h:cOp P slots done op=some (.a lo)):iI P slots done op lo:=by
 cases op with
 | alloc t=>
  simp only [cOp] at h
  split at h
  ·obtain⟨z,h1,h⟩:=bind_eq h
   cases h;exact .allocT h1
  ·obtain⟨z,h1,h⟩:=bind_eq h
   cases h;exact .alloc h1
 | box t x=>
  simp only [cOp] at h
  split at h
  ·obtain⟨k,h1,h⟩:=bind_eq h
   obtain⟨z,h2,h⟩:=bind_eq h
   cases h;exact .boxT h1 h2
  ·obtain⟨z,h1,h⟩:=bind_eq h
   cases h;exact .box h1
 | buildSlice t len parts=>
  obtain⟨u,hu,h⟩:=bind_eq h
  split at h
  ·obtain⟨es,h1,h⟩:=bind_eq h
   obtain⟨ps,h2,h⟩:=bind_eq h
   split at h
   ·rename_i hle
    obtain⟨z,h3,h⟩:=bind_eq h
    cases h;exact .buildSlice hu h1 h2 hle h3
   ·cases h
  ·cases h
 | makeMap t r=>
  simp only [cOp] at h
  split at h
  ·cases h;exact .mkMap
  ·split at h
   ·rename_i hu;cases h;exact .mkMapN hu
   ·cases h
  ·cases h
 | makeSlice t l c=>
  obtain⟨u,hu,h⟩:=bind_eq h
  split at h
  ·obtain⟨_,h1,h⟩:=bind_eq h
   obtain⟨_,h2,h⟩:=bind_eq h
   obtain⟨_,h3,h⟩:=bind_eq h
   obtain⟨_,h4,h⟩:=bind_eq h
   obtain⟨_,h5,h⟩:=bind_eq h
   cases h;exact .mkSlice hu h1 h2 h3 h4 h5
  ·cases h
 | convert a b x=>
  obtain⟨u,hu,h⟩:=bind_eq h
  obtain⟨v,hv,h⟩:=bind_eq h
  split at h
  ·obtain⟨_,_,h⟩:=bind_eq h;cases h
  ·obtain⟨w,hw,h⟩:=bind_eq h
   split at h
   ·obtain⟨_,hx,h⟩:=bind_eq h;cases h;exact .strBytes hu hv hw hx
   ·cases h
  ·obtain⟨w,hw,h⟩:=bind_eq h
   split at h
   ·obtain⟨x',hx,h⟩:=bind_eq h;cases h
   ·cases h
  all_goals (repeat' (first | (cases h;done) | (obtain⟨_,_,h⟩:=bind_eq h) | split at h))
 | slice t x lo hi mx=>
  cases mx with
  | some m=>simp only [cOp] at h;cases h
  | none=>
   simp only [cOp] at h
   obtain⟨u,hu,h⟩:=bind_eq h
   split at h
   ·obtain⟨_,_,h⟩:=bind_eq h
    obtain⟨_,_,h⟩:=bind_eq h
    obtain⟨_,_,h⟩:=bind_eq h;cases h
   ·obtain⟨_,h1,h⟩:=bind_eq h
    obtain⟨_,h2,h⟩:=bind_eq h
    obtain⟨_,h3,h⟩:=bind_eq h
    obtain⟨_,h4,h⟩:=bind_eq h
    cases h;exact .sl hu h1 h2 h3 h4
   ·obtain⟨_,_,h⟩:=bind_eq h
    obtain⟨_,_,h⟩:=bind_eq h
    obtain⟨_,_,h⟩:=bind_eq h
    obtain⟨_,_,h⟩:=bind_eq h;cases h
   ·cases h
 | call c=>
  simp only [cOp] at h
  split at h
  ·simp only [lu] at h
   split at h
   all_goals (repeat' (first | (cases h;done) | (obtain⟨_,_,h⟩:=bind_eq h) | split at h))
  ·obtain⟨_,_,h⟩:=bind_eq h
   repeat' (first | (cases h;done) | (obtain⟨_,_,h⟩:=bind_eq h) | split at h)
  ·obtain⟨_,_,h⟩:=bind_eq h
   obtain⟨_,_,h⟩:=bind_eq h;cases h
  ·cases h
 | build t parts=>
  simp only [cOp,qF] at h
  repeat' (first | (cases h;done) | split at h)
 | next it str=>
  cases str with
  | true=>simp only [cOp] at h;obtain⟨_,_,h⟩:=bind_eq h;cases h
  | false=>simp only [cOp] at h;obtain⟨_,_,h⟩:=bind_eq h;cases h
 | _=>
  simp only [cOp] at h
  repeat' (first | (cases h;done) | (obtain⟨_,_,h⟩:=bind_eq h) | split at h)
inductive iJ (P:Program)(slots:List Nat)(done:List (Option Nat)):Op→EOp→Prop
 | store {t a x k a' x'}:aS P t=some k→J7 P slots done a=some a'→J7 P slots done x=some x'→iJ P slots done (.store t a x) (.store k a' x')
 | mapUpdate {t m k x kt e kk m' k' x'}:P.underlying t=some (.map kt e)→wX P kt=some kk→J7 P slots done m=some m'→J7 P slots done k=some k'→J7 P slots done x=some x'→
   iJ P slots done (.mapUpdate t m k x) (.mapSet kk m' k' x')
 | insert {t m k x kt e kk m' k' x'}:P.underlying t=some (.map kt e)→wX P kt=some kk→J7 P slots done m=some m'→J7 P slots done k=some k'→J7 P slots done x=some x'→
   iJ P slots done (.insert t m k x) (.mapSet kk m' k' x')
 | range {t x k e x'}:P.underlying t=some (.map k e)→J7 P slots done x=some x'→iJ P slots done (.range t x) (.range x')
 | next {x x'}:J7 P slots done x=some x'→iJ P slots done (.next x false) (.next x')
 | app {c t u s x e es z by' s' x' d}:P.underlying u=some d→c.callee=.builtin .append→c.argTypes.toList=[t,u]→c.args.toList=[s,x]→P.underlying t=some (.slice e)→
   aS P e=some es→En P e=some z→Z5 P e=some by'→J7 P slots done s=some s'→J7 P slots done x=some x'→
   iJ P slots done (.call c) (.app es (match d with | .int _=>true | _=>false) z by' s' x')
 | copy {c t u d s e es d' s'}:c.callee=.builtin .copy→c.argTypes.toList=[t,u]→c.args.toList=[d,s]→P.underlying t=some (.slice e)→
   aS P e=some es→J7 P slots done d=some d'→J7 P slots done s=some s'→iJ P slots done (.call c) (.copy es d' s')
 | clear {c t x e z x'}:c.callee=.builtin .clear→c.argTypes.toList=[t]→c.args.toList=[x]→P.underlying t=some (.slice e)→
   nE P e=some z→J7 P slots done x=some x'→iJ P slots done (.call c) (.clear z x')
 | call {c f fn as}:c.callee=.value (.func f)→P.funcs[f]?=some fn→fn.body.isSome=true→fn.name≠ "runtime.NumGoroutine"→fT P slots done c.args.toList=some as→
   iJ P slots done (.call c) (.call f as)
 | rangeS {t x x'}:P.underlying t=some .string→J7 P slots done x=some x'→iJ P slots done (.range t x) (.rangeS x')
 | nextS {x x'}:J7 P slots done x=some x'→iJ P slots done (.next x true) (.nextS x')
 | appB {c t u s x e s' x'}:P.underlying u=some .string→c.callee=.builtin .append→c.argTypes.toList=[t,u]→c.args.toList=[s,x]→P.underlying t=some (.slice e)→xG P e=true→
   J7 P slots done s=some s'→J7 P slots done x=some x'→iJ P slots done (.call c) (.appB e s' x')
 | ustr {c t u p n e p' n'}:c.callee=.builtin .unsafeString→c.argTypes.toList=[t,u]→c.args.toList=[p,n]→P.underlying t=some (.pointer e)→xG P e=true→
   J7 P slots done p=some p'→J7 P slots done n=some n'→iJ P slots done (.call c) (.ustr e p' n')
 | panic {x x'}:J7 P slots done x=some x'→iJ P slots done (.panic x) (.panic x')
 | defer {c f f' as}:c.callee=.value f→J7 P slots done f=some f'→fT P slots done c.args.toList=some as→iJ P slots done (.defer c) (.defer f' as)
 | recover {c}:c.callee=.builtin .recover→iJ P slots done (.call c) .recover
 | callv {c f f' as}:c.callee=.value f→J7 P slots done f=some f'→fT P slots done c.args.toList=some as→
   iJ P slots done (.call c) (.callv f' as)
set_option maxHeartbeats 1000000 in
theorem qU {op:Op}{eo:EOp}(h:cOp P slots done op=some (.e eo)):iJ P slots done op eo:=by
 cases op with
 | store t a x=>
  obtain⟨_,h1,h⟩:=bind_eq h
  obtain⟨_,h2,h⟩:=bind_eq h
  obtain⟨_,h3,h⟩:=bind_eq h
  cases h;exact .store h1 h2 h3
 | mapUpdate t m k x=>
  obtain⟨u,hu,h⟩:=bind_eq h
  split at h
  ·obtain⟨_,h1,h⟩:=bind_eq h
   obtain⟨_,h2,h⟩:=bind_eq h
   obtain⟨_,h3,h⟩:=bind_eq h
   obtain⟨_,h4,h⟩:=bind_eq h
   cases h;exact .mapUpdate hu h1 h2 h3 h4
  ·cases h
 | insert t m k x=>
  obtain⟨u,hu,h⟩:=bind_eq h
  split at h
  ·obtain⟨_,h1,h⟩:=bind_eq h
   obtain⟨_,h2,h⟩:=bind_eq h
   obtain⟨_,h3,h⟩:=bind_eq h
   obtain⟨_,h4,h⟩:=bind_eq h
   cases h;exact .insert hu h1 h2 h3 h4
  ·cases h
 | range t x=>
  obtain⟨u,hu,h⟩:=bind_eq h
  split at h
  ·obtain⟨_,h1,h⟩:=bind_eq h
   cases h;exact .range hu h1
  ·obtain⟨_,h1,h⟩:=bind_eq h
   cases h;exact .rangeS hu h1
  ·cases h
 | next it str=>
  cases str with
  | true=>simp only [cOp] at h;obtain⟨_,h1,h⟩:=bind_eq h;cases h;exact .nextS h1
  | false=>simp only [cOp] at h;obtain⟨_,h1,h⟩:=bind_eq h;cases h;exact .next h1
 | panic x=>
  obtain⟨_,h1,h⟩:=bind_eq h
  cases h;exact .panic h1
 | defer c=>
  simp only [cOp] at h
  split at h
  ·obtain⟨_,h1,h⟩:=bind_eq h
   obtain⟨_,h2,h⟩:=bind_eq h
   cases h;exact .defer (by assumption) h1 h2
  ·cases h
 | convert a b x=>
  obtain⟨u,hu,h⟩:=bind_eq h
  obtain⟨v,hv,h⟩:=bind_eq h
  repeat' (first | (cases h;done) | (obtain⟨_,_,h⟩:=bind_eq h) | split at h)
 | slice t x lo hi mx=>
  cases mx with
  | some m=>simp only [cOp] at h;cases h
  | none=>
   simp only [cOp] at h
   repeat' (first | (cases h;done) | (obtain⟨_,_,h⟩:=bind_eq h) | split at h)
 | call c=>
  simp only [cOp] at h
  split at h
  ·rename_i b hb
   simp only [lu] at h
   split at h
   ·repeat' (first | (cases h;done) | (obtain⟨_,_,h⟩:=bind_eq h) | split at h)
   ·repeat' (first | (cases h;done) | (obtain⟨_,_,h⟩:=bind_eq h) | split at h)
   ·rename_i h1 h2
    obtain⟨u,hu,h⟩:=bind_eq h
    split at h
    ·obtain⟨d,hd,h⟩:=bind_eq h
     split at h
     ·rename_i hbt
      obtain⟨_,h6,h⟩:=bind_eq h
      obtain⟨_,h7,h⟩:=bind_eq h
      cases h
      rw [Bool.and_eq_true] at hbt
      have:d=.string:=by have:=hbt.1;cases d<;>first | rfl | cases this
      exact .appB (by rw [hd,this]) hb h1 h2 hu hbt.2 h6 h7
     ·obtain⟨_,h3,h⟩:=bind_eq h
      obtain⟨_,h4,h⟩:=bind_eq h
      obtain⟨_,h5,h⟩:=bind_eq h
      obtain⟨_,h6,h⟩:=bind_eq h
      obtain⟨_,h7,h⟩:=bind_eq h
      cases h
      exact .app hd hb h1 h2 hu h3 h4 h5 h6 h7
    ·cases h
   ·rename_i h1 h2
    obtain⟨u,hu,h⟩:=bind_eq h
    split at h
    ·obtain⟨_,h3,h⟩:=bind_eq h
     obtain⟨_,h4,h⟩:=bind_eq h
     obtain⟨_,h5,h⟩:=bind_eq h
     cases h
     exact .copy hb h1 h2 hu h3 h4 h5
    ·cases h
   ·rename_i h1 h2
    obtain⟨u,hu,h⟩:=bind_eq h
    split at h
    ·obtain⟨_,h3,h⟩:=bind_eq h
     obtain⟨_,h4,h⟩:=bind_eq h
     cases h
     exact .clear hb h1 h2 hu h3 h4
    ·cases h
   case h_10 h1 h2=>
    obtain⟨u,hu,h⟩:=bind_eq h
    split at h
    ·split at h
     ·rename_i hbt
      obtain⟨_,h3,h⟩:=bind_eq h
      obtain⟨_,h4,h⟩:=bind_eq h
      cases h
      exact .ustr hb h1 h2 hu hbt h3 h4
     ·cases h
    ·cases h
   all_goals (first | (cases h;exact .recover hb;done) | (repeat' (first | (cases h;done) | (obtain⟨_,_,h⟩:=bind_eq h) | split at h)))
  ·rename_i f hf
   obtain⟨fn,h1,h⟩:=bind_eq h
   split at h
   ·rename_i hc
    obtain⟨as,h2,h⟩:=bind_eq h;cases h
    simp only [Bool.and_eq_true,bne_iff_ne,ne_eq] at hc
    exact .call hf h1 hc.1 hc.2 h2
   ·repeat' (first | (cases h;done) | (obtain⟨_,_,h⟩:=bind_eq h) | split at h)
  ·rename_i f hf _
   obtain⟨_,h1,h⟩:=bind_eq h
   obtain⟨_,h2,h⟩:=bind_eq h;cases h
   exact .callv (by assumption) h1 h2
  ·cases h
 | build t parts=>
  simp only [cOp,qF] at h
  repeat' (first | (cases h;done) | split at h)
 | _=>
  simp only [cOp] at h
  repeat' (first | (cases h;done) | (obtain⟨_,_,h⟩:=bind_eq h) | split at h)
end
section
variable {P:Program}{G:Mem}{ι:Inj}{m:Mem}{w:World}{slots:List Nat}{done:List (Option Nat)}{ls:List j3}{env:T j3}{a:Act}
def Fj (P:Program)(ρ:Operand→Value)(op:Op)(v:Value)(w:World):Prop:=
 ∀(o:Oper),o.op=op→(execOp ρ o).run P w=.ok (.value v) w
theorem U6 {r:Nat}{o:Obj}(h:w.heap[r]?=some o)(ho:∀c e fz,o≠.cells c e fz):(getObj r).run P w=.ok o w:=by
 simp only [getObj,Sem.run,h]
theorem BJ (hm:RM P G ι m w.heap){id:Nat}{es:List (j3×j3)}(hg:m.get id=some (.map es)):
  (getObj (ι id).b).run P w=.ok (.map (A8 ι es 0).toArray es.length) w∧∀e∈es,e.1.lt (m.nm ι)∧e.2.lt (m.nm ι):=by
 obtain⟨h1,h2⟩:=hm.blk id _ hg
 exact⟨U6 h1 (by intro _ _ _ e;cases e),h2⟩
def oM (ι:Inj)(ok:Bool)(z:j3)(r:Option (Nat×j3)):Value:=match r with
 | some p=>if ok then .tuple #[l6 ι p.2,.bool true] else l6 ι p.2
 | none=>if ok then .tuple #[l6 ι z,.bool false] else l6 ι z
theorem qV {ok:Bool}{z v:j3}{r:Option (Nat×j3)}(h:found ok z r=some v){n:Nm}(hz:z.lt n)(hr:∀p,r=some p→p.2.lt n):
  v.lt n∧l6 ι v=oM ι ok z r:=by
 cases r with
 | none=>
  have h:some (bi ok (.tuple [z,.bool false]) z)=some v:=h
  cases h
  cases ok<;>simp [bi,j3.lt,ltL,l6,l8,hz,oM]
 | some p=>
  have h:some (bi ok (.tuple [p.2,.bool true]) p.2)=some v:=h
  cases h
  have:=hr p rfl
  cases ok<;>simp [bi,j3.lt,ltL,l6,l8,this,oM]
theorem oN (w:World){t kt e:TypeId}{kk:EqK}{z:j3}(hu:P.underlying t=some (.map kt e))(hk:wX P kt=some kk)(hz:zeroV P e=some z){ok:Bool}{k v:j3}
  {es:List (j3×j3)} {r:Option (Nat×j3)} {n:Nm} (hes:∀e∈es,e.1.lt n∧e.2.lt n) (hf:I6 (pR kk) (CR kk) k es=some r) (hv:found ok z r=some v):
  v.lt n∧∀x,(x=.map none∧es=[])∨(∃b,x=.map (some b)∧∀w',w'=w→(getObj b).run P w'=.ok (.map (A8 ι es 0).toArray es.length) w')→
   (Instr.lookup t x (l6 ι k) ok).run P w=.ok (l6 ι v) w:=by
 obtain⟨h1,⟨y,b,h2⟩,h3⟩:=bS hf
 obtain⟨hz1,hz2⟩:=fU (w:=w) hz ι
 obtain⟨g1,g2⟩:=qV (ι:=ι) hv (hz2 n) (fun p hp=>by
  subst hp
  obtain⟨j,e',_,h5,h6,_⟩:=dL h3
  rw [← h6];exact (hes e' (List.mem_of_getElem? h5)).2)
 refine⟨g1,fun x hx=>?_⟩
 have hc:=fun b'=>vU (ι:=ι) hk h1 h2 b' w
 have hfk:=dF (ι:=ι) hk h3 w
 rcases hx with⟨rfl,rfl⟩ | ⟨b,rfl,hb⟩
 ·simp only [Instr.lookup,Sem.run_bind,run_underlying hu,Result.andThen_ok,Sem.run_pure,hc]
  rw [show Instr.findKey kt (l6 ι k) []=Instr.findKey kt (l6 ι k) (A8 ι [] 0) from rfl,hfk]
  simp only [Result.andThen_ok]
  rw [P7] at h3;cases h3
  simp [jX,hz1,g2,oM]
 ·simp only [Instr.lookup,Sem.run_bind,run_underlying hu,Result.andThen_ok,hb w rfl,Sem.run_pure,hc]
  rw [hfk]
  simp only [Result.andThen_ok]
  cases r with
  | none=>simp [jX,hz1,g2,oM]
  | some p=>simp [jX,g2,oM]
theorem vV {β:Type}{b:Option Blk}{k:List (j3×j3)→Option β}{r:β}(h:JW b k=some r):∃es,(b=some (.map es)∨b=some (.mapU es))∧k es=some r:=by
 match b,h with
 | some (.map es),h=>exact⟨es,.inl rfl,h⟩
 | some (.mapU es),h=>exact⟨es,.inr rfl,h⟩
def wY (x:MapEntry):Value×Value:=(x.key,x.val)
theorem uq (d:TypeDesc)(k:Value):∀(L M:List MapEntry) (i:Nat),L.map wY=M.map wY→Instr.findNow d k L i=Instr.findNow d k M i
 | [],[],_,_=>rfl
 | [],_ :: _,_,h=>by cases h
 | _ :: _,[],_,h=>by cases h
 | x::L,y::M,i,h=>by
  simp only [List.map_cons,List.cons.injEq,wY,Prod.mk.injEq] at h
  obtain⟨⟨h1,h2⟩,h3⟩:=h
  simp only [Instr.findNow,h1,h2,uq d k L M (i+1) h3]
theorem lX (t:TypeId)(k:Value):∀(L M:List MapEntry) (i:Nat),L.map wY=M.map wY→Instr.findAsking t k L i=Instr.findAsking t k M i
 | [],[],_,_=>rfl
 | [],_ :: _,_,h=>by cases h
 | _ :: _,[],_,h=>by cases h
 | x::L,y::M,i,h=>by
  simp only [List.map_cons,List.cons.injEq,wY,Prod.mk.injEq] at h
  obtain⟨⟨h1,h2⟩,h3⟩:=h
  simp only [Instr.findAsking,h1,h2,lX t k L M (i+1) h3]
theorem uw (t:TypeId)(k:Value){L M:List MapEntry}(h:L.map wY=M.map wY):Instr.findKey t k L=Instr.findKey t k M:=by
 unfold Instr.findKey
 congr 1;funext d
 rw [uq d k L M 0 h,lX t k L M 0 h]
theorem qW {α β:Type}(f:α→β):∀{l:List β} {es:List α},l.Perm (es.map f)→∃es':List α,es'.Perm es∧l=es'.map f:=by
 intro l es h
 generalize hm:es.map f=m at h
 induction h generalizing es with
 | nil=>exact⟨[],by simp at hm;subst hm;exact .nil,rfl⟩
 | cons x h ih=>
  cases es with
  | nil=>cases hm
  | cons e es=>
   simp only [List.map_cons,List.cons.injEq] at hm
   obtain⟨es',h1,h2⟩:=ih hm.2
   exact⟨e::es',h1.cons e,by rw [h2,← hm.1];rfl⟩
 | swap x y l=>
  match es,hm with
  | a::b::es,hm=>
   simp only [List.map_cons,List.cons.injEq] at hm
   exact⟨b::a::es,.swap _ _ _,by rw [← hm.1,← hm.2.1,← hm.2.2];rfl⟩
  | [],hm=>cases hm
  | [_],hm=>simp at hm
 | trans h1 h2 ih1 ih2=>
  obtain⟨es1,p1,q1⟩:=ih2 hm
  obtain⟨es2,p2,q2⟩:=ih1 q1.symm
  exact⟨es2,p2.trans p1,q2⟩
theorem nK (ι:Inj):∀(es:List (j3×j3)) (i:Nat),(A8 ι es i).map wY=es.map fun e=>(l6 ι e.1,l6 ι e.2)
 | [],_=>rfl
 | e::es,i=>by simp [A8,wY,nK ι es]
theorem nL {s:List UInt8}:∀(es:List (j3×j3)) (i:Nat),(∀e∈es,∃t,e.1=.str t)→(∀e∈es,e.1≠.str s)→findKey eqStr (.str s) es i=some none
 | [],_,_,_=>rfl
 | e::es,i,h1,h2=>by
  obtain⟨t,ht⟩:=h1 e (by simp)
  have hne:s≠t:=fun h=>h2 e (by simp) (by rw [ht,h])
  rw [O9,ht]
  show ob (some (strEq s t)) _=_
  rw [bK,beq_eq_false_iff_ne.2 hne]
  exact nL es (i+1) (fun x hx=>h1 x (by simp [hx])) (fun x hx=>h2 x (by simp [hx]))
theorem gQ {s:List UInt8}{v:j3}:∀(es:List (j3×j3)) (i:Nat),(∀e∈es,∃t,e.1=.str t)→(es.map (·.1)).Nodup→(.str s,v)∈es→∃j,findKey eqStr (.str s) es i=some (some (i+j,v))∧es[j]?=some (.str s,v)
 | [],_,_,_,h=>by cases h
 | e::es,i,h1,h2,h3=>by
  obtain⟨t,ht⟩:=h1 e (by simp)
  rw [O9,ht]
  have hq:∀k:Bool→Option (Option (Nat×j3)),ob (eqStr (.str s) (.str t)) k=k (s==t):=fun k=>by
   show k (strEq s t)=_;rw [bK]
  rw [hq]
  simp only [List.map_cons,List.nodup_cons] at h2
  rcases List.mem_cons.1 h3 with h3 | h3
  ·have:s=t:=by rw [← h3] at ht;simpa using ht
   subst this
   refine⟨0,?_,by rw [← h3];rfl⟩
   rw [beq_self_eq_true,← h3];rfl
  ·have hne:s≠t:=fun h=>h2.1 (by rw [ht,← h];exact List.mem_map.2 ⟨_,h3,rfl⟩)
   rw [beq_eq_false_iff_ne.2 hne]
   obtain⟨j,q1,q2⟩:=gQ es (i+1) (fun x hx=>h1 x (by simp [hx])) h2.2 h3
   exact⟨j+1,by rw [show i+(j+1)=i+1+j from by omega];exact q1,q2⟩
theorem Fp {kk:EqK}{t:TypeId}(hk:wX P t=some kk){k:j3}{s:List UInt8}{b:Bool}(h:pR kk k (.str s)=some b):kk=.prim .s∧∃u,k=.str u:=by
 rcases lV hk with⟨rfl,_⟩ | ⟨_,rfl,_⟩ | ⟨rfl,_⟩ | ⟨fs,ks,rfl,_,_⟩
 ·obtain⟨_,_,_,h,_⟩:=ak h;cases h
 ·obtain⟨_,_,_,_,h,_⟩:=fV h;cases h
 ·obtain⟨a,_,h,_⟩:=bf h;exact⟨rfl,a,h⟩
 ·obtain⟨_,_,h⟩:=V7 h
  obtain⟨_,h,_⟩:=V7 h;cases h
theorem OI {kk:EqK}{t:TypeId}(hk:wX P t=some kk){k:j3}{es es':List (j3×j3)}(hp:es'.Perm es)(h1:∀e∈es,∃s,e.1=.str s)(h2:(es.map (·.1)).Nodup){r:Option (Nat×j3)}(hf:I6 (pR kk) (CR kk) k es=some r):
  ∃r',findKey (pR kk) k es' 0=some r'∧r'.map (·.2)=r.map (·.2):=by
 obtain⟨_,_,h3⟩:=bS hf
 cases es with
 | nil=>
  rw [List.Perm.eq_nil hp]
  rw [P7] at h3
  cases h3
  exact⟨none,P7 ..,rfl⟩
 | cons e es=>
  obtain⟨s0,hs0⟩:=h1 e (by simp)
  have:∃b,pR kk k (.str s0)=some b:=by
   rw [O9,hs0] at h3
   obtain⟨b,hb,_⟩:=r9 h3
   exact⟨b,hb⟩
  obtain⟨b,hb⟩:=this
  obtain⟨rfl,u,rfl⟩:=Fp hk hb
  have h1':∀x∈es',∃s,x.1=.str s:=fun x hx=>h1 x (hp.mem_iff.1 hx)
  have h2':(es'.map (·.1)).Nodup:=(hp.map _).nodup_iff.2 h2
  have h3:findKey eqStr (.str u) (e::es) 0=some r:=h3
  by_cases hin:∃v,(j3.str u,v)∈e::es
  ·obtain⟨v,hv⟩:=hin
   obtain⟨j,q1,_⟩:=gQ (e::es) 0 h1 h2 hv
   obtain⟨j',q2,_⟩:=gQ es' 0 h1' h2' (hp.mem_iff.2 hv)
   rw [q1] at h3
   cases h3
   exact⟨_,q2,rfl⟩
  ·have hno:∀(l:List (j3×j3)),(∀x∈l,x∈e::es)→∀x∈l,x.1≠.str u:=fun l hl x hx h=>hin ⟨x.2,by rw [← h];exact hl x hx⟩
   have q1:=nL (e::es) 0 h1 (hno _ fun x hx=>hx)
   have q2:=nL es' 0 h1' (hno _ fun x hx=>hp.mem_iff.1 hx)
   rw [q1] at h3
   cases h3
   exact⟨none,q2,rfl⟩
theorem Fq {ok:Bool}{z:j3}{r r':Option (Nat×j3)}(h:r'.map (·.2)=r.map (·.2)):found ok z r'=found ok z r:=by
 cases r<;>cases r'<;>simp at h
 ·rfl
 ·rename_i p q
  show some (bi ok (j3.tuple [q.2,.bool true]) q.2)=some (bi ok (j3.tuple [p.2,.bool true]) p.2);rw [h]
theorem vW (w:World){t kt e:TypeId}{kk:EqK}{z:j3}(hu:P.underlying t=some (.map kt e))(hk:wX P kt=some kk)(hz:zeroV P e=some z){ok:Bool}{k v:j3}
  {es:List (j3×j3)} {r:Option (Nat×j3)} {n:Nm} (hes:∀e∈es,e.1.lt n∧e.2.lt n) (hf:I6 (pR kk) (CR kk) k es=some r) (hv:found ok z r=some v)
  {L:List MapEntry} {ck b:Nat} (hU:UOk ι es L) (hb:(getObj b).run P w=.ok (.map L.toArray ck) w):
  v.lt n∧(Instr.lookup t (.map (some b)) (l6 ι k) ok).run P w=.ok (l6 ι v) w:=by
 obtain⟨h1,⟨y,b',h2⟩,h3⟩:=bS hf
 obtain⟨hp,hs,hn⟩:=hU
 obtain⟨es',p1,p2⟩:=qW _ hp
 obtain⟨r',q1,q2⟩:=OI hk p1 hs hn hf
 obtain⟨hz1,hz2⟩:=fU (w:=w) hz ι
 rw [← Fq q2] at hv
 obtain⟨g1,g2⟩:=qV (ι:=ι) hv (hz2 n) (fun p hp=>by
  subst hp
  obtain⟨j,e',_,h5,h6,_⟩:=dL q1
  rw [← h6];exact (hes e' (p1.mem_iff.1 (List.mem_of_getElem? h5))).2)
 refine⟨g1,?_⟩
 have hc:=fun b'=>vU (ι:=ι) hk h1 h2 b' w
 have hfk:=dF (ι:=ι) hk q1 w
 rw [uw kt (l6 ι k) (show (A8 ι es' 0).map wY=L.map wY from by rw [nK];exact p2.symm)] at hfk
 simp only [Instr.lookup,Sem.run_bind,run_underlying hu,Result.andThen_ok,hb,Sem.run_pure,hc]
 rw [hfk]
 simp only [Result.andThen_ok]
 cases r' with
 | none=>simp [jX,hz1,g2,oM]
 | some p=>simp [jX,g2,oM]
theorem qX (ts:Array TypeId)(ty:TypeId)(l c:Nat)(w:World):(Builtin.unsafeSliceData_ ts ty #[.slice none l c]).run P w=.ok (.pointer none) w:=rfl
theorem uy {ts:Array TypeId}{ty:TypeId}{a:Addr}{l c:Nat}(h:c≠0)(w:World):(Builtin.unsafeSliceData_ ts ty #[.slice (some a) l c]).run P w=.ok (.pointer (some a)) w:=by
 have e:Builtin.unsafeSliceData_ ts ty #[.slice (some a) l c]=(if c≠0 then pure (.pointer (some a)) else do if (← viewAt a.block).isSome then pure (.pointer (some a)) else pure (.pointer (some ⟨← newObj (.view a (← elemOf ty)),0,none⟩))):=rfl
 rw [e,if_pos h];rfl
theorem oO:∀(l:List j3) (s:List UInt8),byteOf l=some s→∀(acc:ByteArray) (w:World),
  (forIn (l8 ι l) acc (fun c (r:ByteArray)=>match c with
   | .int .u8 n=>pure (ForInStep.yield (r.push (UInt8.ofNat n.toNat)))
   | _=>do stuck "bytesToString: byte expected";pure (ForInStep.yield r)):Sem ByteArray).run P w=.ok ⟨acc.data++s.toArray⟩ w
 | [],s,h,acc,w=>by simp [byteOf] at h;subst h;simp [l8]
 | v::l,s,h,acc,w=>by
  cases v<;>try (simp [byteOf] at h;done)
  rename_i k n
  cases k<;>try (simp [byteOf] at h;done)
  cases n with
  | negSucc n=>simp [byteOf] at h
  | ofNat n=>
   simp only [byteOf] at h
   cases hb:byteOf l with
   | none=>simp [hb] at h
   | some s'=>
    simp only [hb,Option.some.injEq] at h;subst h
    simp only [l8,l6,List.forIn_cons,Sem.run_bind,Sem.run_pure,Result.andThen_ok]
    rw [oO l s' hb]
    congr 1
    simp [ByteArray.push]
theorem dX {x:Value}{m:Mem}(hm:RM P G ι m w.heap){id off len c:Nat}(hx:x=.slice (some (ι.at id off)) len c){l:List j3}{s:List UInt8}
  (h1:I7 m id off len=some l) (h2:byteOf l=some s):(Conv.bytesToString x).run P w=.ok (l6 ι (.str s)) w:=by
 obtain⟨g1,_,g3⟩:=bL hm h1
 have h:=gN (P:=P) g3
 rw [g1] at h
 subst hx
 have:=oO (P:=P) (ι:=ι) l s h2 ByteArray.empty w
 simp only [Conv.bytesToString,Sem.run_bind,h,Result.andThen_ok]
 rw [← Array.forIn_toList]
 erw [this]
 simp [l6,Sem.run_pure]
theorem oP (ι:Inj):∀(es:List (j3×j3)) (i j:Nat),(A8 ι es j).find? (fun e=>e.born==j+i)=(es[i]?).map fun e=>{key:=l6 ι e.1,val:=l6 ι e.2,born:=j+i}
 | [],i,j=>by simp [A8]
 | e::es,0,j=>by simp [A8]
 | e::es,i+1,j=>by
  simp only [A8,List.find?_cons]
  rw [show (j==j+(i+1))=false from by simp]
  simp only [List.getElem?_cons_succ]
  have:=oP ι es i (j+1)
  rw [show j+1+i=j+(i+1) from by omega] at this
  exact this
theorem vX {β:Type}{b:Option Blk}{nl:Option β}{k:Nat→Nat→List Nat→Option β}{r:β}(h:CQ b nl k=some r):
  (∃s l,b=some (.iter none s l)∧nl=some r)∨∃mp s l,b=some (.iter (some mp) s l)∧k mp s l=some r:=by
 match b,h with
 | some (.iter none s l),h=>exact .inl ⟨s,l,rfl,h⟩
 | some (.iter (some mp) s l),h=>exact .inr ⟨mp,s,l,rfl,h⟩
theorem vY {ty off:Nat}:∀{l:List (Nat×Nat)},Rv ty off l=true→(ty,off)∈l
 | [],h=>by cases h
 | p::l,h=>by
  have h:bi (Nat.beq p.1 ty) (bi (Nat.beq p.2 off) true (Rv ty off l)) (Rv ty off l)=true:=h
  cases h1:Nat.beq p.1 ty with
  | false=>rw [h1] at h;exact List.mem_cons_of_mem _ (vY h)
  | true=>
   rw [h1] at h
   cases h2:Nat.beq p.2 off with
   | false=>rw [h2] at h;exact List.mem_cons_of_mem _ (vY h)
   | true=>
    rw [← Nat.eq_of_beq_eq_true h1,← Nat.eq_of_beq_eq_true h2];exact List.mem_cons_self
theorem Dg {u ty off:Nat}(h:(ty,off)∈EK P u):P.cellsOf ty≠0∧liesAt P P.depth ty 1 off u 1=true:=by
 unfold EK at h
 obtain⟨t,_,h⟩:=List.mem_flatMap.1 h
 split at h
 ·rename_i hc
  simp only [Bool.and_eq_true,bne_iff_ne,ne_eq] at hc
  rcases List.mem_append.1 h with h | h
  ·split at h
   ·rename_i hl
    simp only [List.mem_singleton,Prod.mk.injEq] at h
    obtain⟨rfl,rfl⟩:=h
    exact⟨hc.2,hl⟩
   ·simp at h
  ·split at h
   ·obtain⟨f,_,h⟩:=List.mem_flatMap.1 h
    split at h
    ·rename_i hl
     simp only [List.mem_singleton,Prod.mk.injEq] at h
     obtain⟨rfl,rfl⟩:=h
     exact⟨hc.2,hl.2⟩
    ·simp at h
   ·simp at h
 ·simp at h
theorem jJ (s:St P ι (m.nm ι) slots done ls env a.tmps)(hm:RM P G ι m w.heap){op:Op}{ro:ROp}(h:kC P slots done op ro){v:j3}(hv:trR ro ls env m=some v):
  v.lt (m.nm ι)∧Fj P a.eval op (l6 ι v) w:=by
 cases h with
 | @load t x sz x' h1 h2=>
  obtain⟨e1,_⟩:=l9 s h2
  have key:∀id off,trO x' ls env=.ptr id off→K5 (m.get id) (fun rs n rows=>match sz with | none=>cell1 rs n rows off | some k=>ob (eT rs n rows off k) fun l=>some (.agg l))=some v→
    v.lt (m.nm ι)∧Fj P a.eval (.load t x) (l6 ι v) w:=by
   intro id off hx hc
   obtain⟨g1,g2⟩:=lT h1 hm hc
   refine⟨g2,fun o ho=>?_⟩
   simp [execOp,ho,e1,hx,l6,Instr.loadAt,Instr.sureAddr,g1]
  cases sz with
  | none=>obtain⟨id,off,hx,hc⟩:=V6 hv;exact key id off hx hc
  | some k=>obtain⟨id,off,hx,hc⟩:=V6 hv;exact key id off hx hc
 | @look t kt e kk z ok x k x' k' hu hk hz hx hkk=>
  obtain⟨e1,e1'⟩:=l9 s hx
  obtain⟨e2,_⟩:=l9 s hkk
  rcases nH hv with⟨hx,h⟩ | ⟨id,hx,h⟩
  ·obtain⟨r,h3,h4⟩:=r9 h
   obtain⟨g1,g2⟩:=oN (ι:=ι) w hu hk hz (n:=(m.nm ι)) (by simp) h3 h4
   refine⟨g1,fun o ho=>?_⟩
   have:=g2 (.map none) (.inl ⟨rfl,rfl⟩)
   have hx:trO x' ls env=.nilMap:=hx
   simp [execOp,ho,e1,hx,l6,e2,this]
  ·obtain⟨es,h1 | h1,h2⟩:=vV h
   case inr=>
    obtain⟨r,h3,h4⟩:=r9 h2
    obtain⟨L,ck,c1,c2,c3⟩:=hm.blk id _ h1
    obtain⟨g1,g2⟩:=vW (ι:=ι) w hu hk hz c3 h3 h4 c2 (U6 c1 (by intro _ _ _ e;cases e))
    refine⟨g1,fun o ho=>?_⟩
    have hx:trO x' ls env=.map id:=hx
    simp [execOp,ho,e1,hx,l6,e2,g2]
   obtain⟨r,h3,h4⟩:=r9 h2
   obtain⟨o1,o2⟩:=BJ hm h1
   obtain⟨g1,g2⟩:=oN (ι:=ι) w hu hk hz o2 h3 h4
   refine⟨g1,fun o ho=>?_⟩
   have:=g2 (.map (some (ι id).b)) (.inr ⟨_,rfl,fun w' hw=>by subst hw;exact o1⟩)
   have hx:trO x' ls env=.map id:=hx
   simp [execOp,ho,e1,hx,l6,e2,this]
 | @lenM c t kt e x x' hc hts has hu hx=>
  obtain⟨e1,_⟩:=l9 s hx
  have hts:c.argTypes=#[t]:=by rw [← hts,Array.toArray_toList]
  have has:c.args=#[x]:=by rw [← has,Array.toArray_toList]
  rcases nH hv with⟨hx,h⟩ | ⟨id,hx,h⟩
  ·cases h
   have hx:trO x' ls env=.nilMap:=hx
   exact⟨by simp [j3.lt],fun o ho=>by simp [execOp,ho,resolve,hc,has,hts,invoke,builtin,Builtin.len_,run_underlying hu,e1,hx,l6,goInt]⟩
  ·obtain⟨es,h1,h2⟩:=uo h
   obtain⟨o1,o2⟩:=BJ hm h1
   cases h2
   have hx:trO x' ls env=.map id:=hx
   exact⟨by simp [j3.lt],fun o ho=>by simp [execOp,ho,resolve,hc,has,hts,invoke,builtin,Builtin.len_,run_underlying hu,e1,hx,l6,goInt,o1]⟩
 | @bytesStr t b e x x' h1 h2 h3 hx=>
  obtain⟨e1,_⟩:=l9 s hx
  rcases lN hv with⟨hx,h⟩ | ⟨id,off,len,cap,hx,h⟩ | ⟨id,off,len,cap,hx,h⟩
  ·cases h
   have hx:trO x' ls env=.nilSlice:=hx
   refine⟨by simp [j3.lt],fun o ho=>?_⟩
   simp [execOp,ho,e1,hx,l6,convert,run_underlying h1,run_underlying h2,run_underlying h3,Conv.bytesToString]
   rfl
  ·obtain⟨l,h4,h⟩:=r9 h
   obtain⟨str,h5,h⟩:=r9 h
   cases h
   have hx:trO x' ls env=.slice id off len cap:=hx
   have:=dX hm (x:=a.eval x) (by rw [e1,hx];rfl) h4 h5
   refine⟨by simp [j3.lt],fun o ho=>?_⟩
   rw [e1,hx] at this
   simp only [l6] at this
   simp [execOp,ho,e1,hx,l6,convert,run_underlying h1,run_underlying h2,run_underlying h3,this]
  ·obtain⟨l,h4,h⟩:=r9 h
   obtain⟨str,h5,h⟩:=r9 h
   cases h
   have hx:trO x' ls env=.sliceU id off len cap:=hx
   have:=dX hm (x:=a.eval x) (by rw [e1,hx];rfl) h4 h5
   refine⟨by simp [j3.lt],fun o ho=>?_⟩
   rw [e1,hx] at this
   simp only [l6] at this
   simp [execOp,ho,e1,hx,l6,convert,run_underlying h1,run_underlying h2,run_underlying h3,this]
 | @slData c t e x x' hc hts has hu hx=>
  obtain⟨e1,e2⟩:=l9 s hx
  have hts:c.argTypes=#[t]:=by rw [← hts,Array.toArray_toList]
  have has:c.args=#[x]:=by rw [← has,Array.toArray_toList]
  rcases lN hv with⟨h1,h2⟩ | ⟨id,off,len,cap,h1,h2⟩ | ⟨id,off,len,es,h1,h2⟩
  ·have h1:trO x' ls env=.nilSlice:=h1
   cases h2
   exact⟨trivial,fun o ho=>by simp [execOp,ho,resolve,hc,has,hts,invoke,builtin,qX,e1,h1,l6]⟩
  ·have h1:trO x' ls env=.slice id off len cap:=h1
   obtain⟨h3,h2⟩:=p9 h2
   cases h2
   have h3:0<cap:=Eq.mp Nat.blt_eq h3
   rw [h1] at e2
   exact⟨e2,fun o ho=>by simp [execOp,ho,resolve,hc,has,hts,invoke,builtin,uy (Nat.ne_of_gt h3),e1,h1,l6]⟩
  ·have h1:trO x' ls env=.sliceU id off len es:=h1
   obtain⟨h3,h2⟩:=p9 h2
   cases h2
   have h3:0<len:=Eq.mp Nat.blt_eq h3
   rw [h1] at e2
   obtain⟨q1,q2,q3⟩:=e2
   have q3:off+len*es≤(ι id).cap:=q3
   have hc0:((ι id).cap-off) / es≠0:=by
    have:1≤((ι id).cap-off) / es:=(Nat.le_div_iff_mul_le q2).2 (by
     have:1*es≤len*es:=Nat.mul_le_mul_right _ h3
     omega)
    omega
   refine⟨q1,fun o ho=>?_⟩
   simp [execOp,ho,resolve,hc,has,hts,invoke,builtin,uy hc0,e1,h1,l6]
 | @toUns a' b' t x x' k ha hb hs hk hx=>
  obtain⟨e1,e2⟩:=l9 s hx
  change oF (trO x') ls env m=some v at hv
  unfold oF at hv
  split at hv
  ·rename_i h1
   cases hv
   exact⟨trivial,fun o ho=>by simp [execOp,ho,e1,h1,l6,convert,run_underlying ha,run_underlying hb,Conv.unsafePointer]⟩
  ·rename_i id off h1
   obtain⟨rs,n,rows,hg,h⟩:=Q6 hv
   obtain⟨h2,h⟩:=p9 h
   cases h
   have h2:off<n*rs:=Eq.mp Nat.blt_eq h2
   obtain⟨c,e,fz,q1,q2,⟨q3,_⟩,_⟩:=hm.blk id _ hg
   obtain⟨j,hj,hjs⟩:=Option.map_eq_some_iff.1 hs
   refine⟨⟨_,hg,rfl⟩,fun o ho=>?_⟩
   have:=Lib.run_to_unsafe (P:=P) w (ι.at id off) ha hb hj (by rw [hjs];exact hk) (e:=e) (cells:=c.size) (by simp [World.shape?,Inj.at,q1]) (by show (ι id).base+off<c.size;omega)
   simp [execOp,ho,e1,h1,l6,this]
  ·cases hv
 | @fromUns a' b' u x x' k ha hb hs hk hx=>
  obtain⟨e1,e2⟩:=l9 s hx
  change eU (EK P u) (trO x') ls env m=some v at hv
  unfold eU at hv
  split at hv
  ·rename_i h1
   cases hv
   exact⟨trivial,fun o ho=>by simp [execOp,ho,e1,h1,l6,convert,run_underlying ha,run_underlying hb,Conv.unsafePointer]⟩
  ·rename_i id off h1
   obtain⟨rs,n,rows,hg,h⟩:=Q6 hv
   obtain⟨h2,h⟩:=p9 h
   obtain⟨ty,h3,h⟩:=r9 h
   obtain⟨h4,h⟩:=p9 h
   cases h
   obtain rfl:n=1:=Nat.eq_of_beq_eq_true h2
   obtain⟨c,e,fz,q1,q2,⟨q3,N,_,_,htag⟩,_⟩:=hm.blk id _ hg
   obtain⟨rfl,hb0,hsz⟩:=htag ty rfl h3
   obtain⟨hpos,hlies⟩:=Dg (vY h4)
   obtain⟨j,hj,hjs⟩:=Option.map_eq_some_iff.1 hs
   refine⟨⟨_,hg,rfl⟩,fun o ho=>?_⟩
   have:=Lib.run_from_unsafe (P:=P) w (ι.at id off) ha hb hj (e:=e) (cells:=c.size) (by simp [World.shape?,Inj.at,q1]) (by
    rw [hsz,Nat.div_self (Nat.pos_of_ne_zero hpos)]
    show liesAt P P.depth e 1 ((ι id).base+off) u 1=true
    rw [hb0,Nat.zero_add];exact hlies)
   simp [execOp,ho,e1,h1,l6,this]
  ·cases hv
 | @entry x x' hx=>
  obtain⟨e1,_⟩:=l9 s hx
  obtain⟨id,off,hx,h⟩:=V6 hv
  have hx:trO x' ls env=.ptr id off:=hx
  obtain⟨h0,h⟩:=p9 h
  obtain rfl:off=0:=Nat.eq_of_beq_eq_true h0
  rcases vX h with⟨_,_,_,h⟩ | ⟨mp,since,seen,hit,h⟩
  ·cases h
  ·cases seen with
   | nil=>cases h
   | cons i seen=>
    have h:vEs (m.get mp) (fun es=>bi (Nat.beq (len' es) since) (ob (sW i es) fun e=>some (.tuple [e.1,e.2])) none)=some v:=h
    obtain⟨es,hes,h⟩:=uo h
    obtain⟨h1,h⟩:=p9 h
    have h1:=Nat.eq_of_beq_eq_true h1
    rw [C8] at h1
    obtain⟨e,h2,h⟩:=r9 h
    rw [cZ] at h2
    cases h
    obtain⟨b1,b2,sn,st,b3,b4,b5⟩:=hm.blk id _ hit
    have hsp:=hm.spot id _ hit rfl
    obtain⟨c1,c2⟩:=BJ hm hes
    have he:=c2 e (List.mem_of_getElem? h2)
    refine⟨by simp [j3.lt,ltL,he],fun o ho=>?_⟩
    have hst:st=since:=b5 (by simp)
    have hback:sn.back?=some i:=by
     have:=congrArg List.head? b4
     simpa [List.head?_reverse] using this
    have hfind:(A8 ι es 0).toArray.find? (fun e=>e.born==i)=some {key:=l6 ι e.1,val:=l6 ι e.2,born:=i}:=by
     have:=oP ι es i 0
     rw [h2] at this
     simpa using this
    have hit:=U6 (P:=P) b3 (by intro _ _ _ e;cases e)
    have hev:a.eval x=.pointer (some ⟨(ι id).b,0,none⟩):=by rw [e1,hx];simp [l6,Inj.at,b1,hsp]
    simp [execOp,ho,hev,Instr.entry,hit,hback,c1,hst,h1,hfind,l6,l8]
end
section
variable {P:Program}{G:Mem}{ι:Inj}{n:Nm}{slots:List Nat}{done:List (Option Nat)}{ls:List j3}{env:T j3}{a:Act}
theorem Ac (rs:Nat)(l:List j3)(r:List (List j3))(h:rowsOf rs 0 l=some r):l=[]∧r=[]:=by
 cases l with
 | nil=>cases h;exact⟨rfl,rfl⟩
 | cons=>cases h
theorem Ad (rs k:Nat)(l:List j3):rowsOf rs (k+1) l=ob (takeN rs l) fun r=>ob (rowsOf rs k (fJ rs l)) fun rest=>some (r::rest):=rfl
theorem au (rs:Nat):∀(k:Nat) (l:List j3) (r:List (List j3)),rowsOf rs k l=some r→
  l.length=k*rs∧r.length=k∧∀i,i<k→∃row,r[i]?=some row∧row.length=rs∧∀j,j<rs→row[j]?=l[i*rs+j]?:=by
 intro k
 induction k with
 | zero=>intro l r h;obtain⟨rfl,rfl⟩:=Ac rs l r h;simp
 | succ k ih=>
  intro l r h
  rw [Ad] at h
  obtain⟨x,h1,h⟩:=r9 h
  obtain⟨y,h2,h⟩:=r9 h
  cases h
  obtain⟨rfl,hl⟩:=dH _ _ _ h1
  rw [aJ] at h2
  obtain⟨g1,g2,g3⟩:=ih _ _ h2
  rw [List.length_drop] at g1
  refine⟨by rw [Nat.succ_mul];omega,by simp [g2],fun i hi=>?_⟩
  cases i with
  | zero=>exact⟨_,rfl,by simp;omega,fun j hj=>by simp [hj]⟩
  | succ i=>
   obtain⟨row,e1,e2,e3⟩:=g3 i (by omega)
   refine⟨row,by simpa using e1,e2,fun j hj=>?_⟩
   rw [e3 j hj,List.getElem?_drop]
   congr 1
   rw [Nat.succ_mul];omega
theorem BK {h:Array Obj}{l:Loc}{es k:Nat}{cells:List j3}{rl:List (List j3)}(hr:rowsOf es k cells=some rl){c:Array Value}{e:TypeId}{fz:Nat×Nat}
  (ho:h[l.b]?=some (Obj.cells c e fz)) (h0:l.base=0) (hc:l.cap=c.size) (hlt:ltL n cells) (hat:∀(j:Nat) (v:j3),cells[j]?=some v→c[j]?=some (l6 ι v)) (hlen:cells.length≤c.size):
  Z9 P ι n h l (.cells es k (T.ofList rl)):=by
 obtain⟨h1,h2,h3⟩:=au _ _ _ _ hr
 refine⟨c,e,fz,ho,by omega,⟨by omega,rl.length,by omega,T.Y9 rl,by rw [← h2];exact lI (T.Y9 rl)⟩,fun i hi=>?_⟩
 obtain⟨row,g1,g2,g3⟩:=h3 i hi
 refine⟨row,by rw [T.M9];exact g1,g2,R5.2 fun v hv=>?_,fun j hj=>?_⟩
 ·obtain⟨j,hj⟩:=List.getElem?_of_mem hv
  have hj':j<es:=Nat.lt_of_lt_of_eq (List.getElem?_eq_some_iff.1 hj).1 g2
  rw [g3 j hj'] at hj
  exact E8 hlt (List.mem_of_getElem? hj)
 ·rw [g3 j hj,h0,Nat.zero_add]
  have hb:i*es+j<cells.length:=by
   rw [h1]
   calc i*es+j<i*es+es:=by omega
    _=(i+1)*es:=by rw [Nat.succ_mul]
    _≤k*es:=Nat.mul_le_mul_right _ hi
  rw [List.getElem?_eq_getElem hb]
  exact hat _ _ (List.getElem?_eq_getElem hb)
theorem II {h:Array Obj}{l:Loc}{cs:List j3}{e:TypeId}{fz:Nat×Nat}
  (ho:h[l.b]?=some (.cells (l8 ι cs).toArray e fz)) (h0:l.base=0) (hc:l.cap=cs.length) (hlt:ltL n cs):Z9 P ι n h l (Q9 cs):=by
 refine⟨_,e,fz,ho,by simp;omega,⟨by simp;omega,1,Nat.le_refl 1,.nd .e .e,lI (.nd .e .e)⟩,fun i hi=>?_⟩
 obtain rfl:i=0:=by omega
 refine⟨cs,rfl,(C8 cs).symm,hlt,fun j hj=>?_⟩
 rw [h0]
 simp [K7]
theorem Fu {h:Array Obj}{l:Loc}{cs:List j3}{e:TypeId}{fz:Nat×Nat}
  (ho:h[l.b]?=some (.cells (l8 ι cs).toArray e fz)) (h0:l.base=0) (hc:l.cap=cs.length) (hlt:ltL n cs) (hsz:cs.length=P.cellsOf e):Z9 P ι n h l (Iq e cs):=by
 refine⟨_,e,fz,ho,by simp;omega,⟨by simp;omega,2,by omega,.nd (.nd .e .e) .e,fun ty _ ht=>?_⟩,fun i hi=>?_⟩
 ·have ht:some e=some ty:=ht
  cases ht
  exact⟨rfl,h0,by simpa using hsz⟩
 obtain rfl:i=0:=by omega
 refine⟨cs,rfl,(C8 cs).symm,hlt,fun j hj=>?_⟩
 rw [h0]
 simp [K7]
theorem qY {nid:Nat}{l:Loc}{cs:List j3}(hn:¬ n nid)(h:ltL n cs):l8 (ι.upd nid l) cs=l8 ι cs:=
 U2 (n:=n) (fun i hi=>ι.upd_ne l (fun e=>hn (by subst e;exact hi))) cs h
theorem BL {nid:Nat}{l:Loc}{v:j3}(hn:¬ n nid)(h:v.lt n):l6 (ι.upd nid l) v=l6 ι v:=
 F7 (n:=n) (fun i hi=>ι.upd_ne l (fun e=>hn (by subst e;exact hi))) v h
structure Makes (P:Program)(ι:Inj)(n:Nm)(ρ:Operand→Value)(op:Op)(nid:Nat)(v:j3)(b:Blk)(w:World)(l:Loc)(obj:Obj)(w':World):Prop where
 loc:l.b=w.heap.size
 spot:l.spot=none
 run:∀o:Oper,o.op=op→(execOp ρ o).run P w=.ok (.value (l6 (ι.upd nid l) v)) w'
 grew:OG w w' obj
 live:ah b=false
 free:∀c e fz,obj=.cells c e fz→∀k,k<c.size→¬ (fz.1≤k∧k<fz.2)
 blk:∀n':Nm,n.le n'→n' nid→n'.cap nid=l.cap→Z9 P (ι.upd nid l) n' (w.heap.push obj) l b∧v.lt n'
inductive gT (P:Program)(ι:Inj)(n:Nm)(ρ:Operand→Value)(op:Op)(nid:Nat)(w:World):j3×Option Blk→Prop
 | none {v}:v.lt n→Gives P ρ op (l6 ι v)→gT P ι n ρ op nid w (v,none)
 | made {v b} (l:Loc) (obj:Obj) (w':World):Makes P ι n ρ op nid v b w l obj w'→gT P ι n ρ op nid w (v,some b)
 | tail {v p} (l:Loc):n p→(l.cap=0∨(l.b=(ι p).b∧l.base+l.cap≤(ι p).base+(ι p).cap∧((ι p).spot=none→l.spot=none)))→Gives P ρ op (l6 (ι.upd nid l) v)→(∀n':Nm,n.le n'→n' nid→n'.cap nid=l.cap→v.lt n')→
   gT P ι n ρ op nid w (v,some (.tail p))
theorem Q7 {w:World}{o:Obj}:(w.heap.push o)[w.heap.size]?=some o:=by simp
theorem xW {op:Op}{nid:Nat}{w:World}{cs:List j3}(hn:¬ n nid)(hlt:ltL n cs){e:TypeId}
  (hrun:∀o:Oper,o.op=op→(execOp a.eval o).run P w=.ok (.value (.pointer (some ⟨w.heap.size,0,none⟩))) {w with heap:=w.heap.push (.cells (l8 ι cs).toArray e)}):
  gT P ι n a.eval op nid w (.ptr nid 0,some (Q9 cs)):=by
 refine .made ⟨w.heap.size,0,cs.length,none⟩ (.cells (l8 ι cs).toArray e) {w with heap:=w.heap.push (.cells (l8 ι cs).toArray e)} ⟨rfl,rfl,fun o ho=>?_,⟨rfl,rfl,rfl,rfl⟩,rfl,fun c e' fz h k hk=>?_,fun n' hm hnn _=>⟨?_,hnn⟩⟩
 ·rw [hrun o ho];simp [l6,Inj.at]
 ·cases h;simp
 ·rw [← qY (l:=⟨w.heap.size,0,cs.length,none⟩) hn hlt]
  exact II Q7 rfl rfl (R8 hm _ hlt)
theorem uz {op:Op}{nid:Nat}{w:World}{cs:List j3}(hn:¬ n nid)(hlt:ltL n cs){e:TypeId}(hsz:cs.length=P.cellsOf e)
  (hrun:∀o:Oper,o.op=op→(execOp a.eval o).run P w=.ok (.value (.pointer (some ⟨w.heap.size,0,none⟩))) {w with heap:=w.heap.push (.cells (l8 ι cs).toArray e)}):
  gT P ι n a.eval op nid w (.ptr nid 0,some (Iq e cs)):=by
 refine .made ⟨w.heap.size,0,cs.length,none⟩ (.cells (l8 ι cs).toArray e) {w with heap:=w.heap.push (.cells (l8 ι cs).toArray e)} ⟨rfl,rfl,fun o ho=>?_,⟨rfl,rfl,rfl,rfl⟩,rfl,fun c e' fz h k hk=>?_,fun n' hm hnn _=>⟨?_,hnn⟩⟩
 ·rw [hrun o ho];simp [l6,Inj.at]
 ·cases h;simp
 ·rw [← qY (l:=⟨w.heap.size,0,cs.length,none⟩) hn hlt]
  exact Fu Q7 rfl rfl (R8 hm _ hlt) hsz
theorem R3 (e:TypeId)(cs:Array Value)(w:World):(newRow e cs).run P w=.ok ⟨w.heap.size,0,none⟩ {w with heap:=w.heap.push (.cells cs e)}:=by
 simp [newRow,newObj,Sem.run]
theorem jg (z:List j3)(k:Nat):I4 z (k+1)=z++I4 z k:=by show dz z (I4 z k)=_;rw [L9]
theorem oQ (z:List j3):I4 z 0=[]:=rfl
theorem R4 (z:List j3):∀k,(I4 z k).length=k*z.length
 | 0=>by simp [oQ]
 | k+1=>by rw [jg,List.length_append,R4 z k,Nat.succ_mul];omega
theorem jK {z:List j3}(h:ltL n z):∀k,ltL n (I4 z k)
 | 0=>trivial
 | k+1=>by
  rw [jg,R5]
  intro v hv
  rcases List.mem_append.1 hv with hv | hv
  ·exact E8 h hv
  ·exact E8 (jK h k) hv
theorem kK (z:List j3):∀(k i:Nat),i<k*z.length→(I4 z k)[i]?=z[i%z.length]?
 | 0,i,h=>by simp at h
 | k+1,i,h=>by
  rw [jg]
  by_cases hi:i<z.length
  ·rw [List.getElem?_append_left hi,Nat.mod_eq_of_lt hi]
  ·have hi:z.length≤i:=Nat.le_of_not_lt hi
   rw [List.getElem?_append_right hi,kK z k _ (by rw [Nat.succ_mul] at h;omega),← Nat.mod_eq_sub_mod hi]
theorem vZ (z:List j3)(k:Nat):(Array.range (k*z.length)).map (fun i=>(l8 ι z).toArray[i%(l8 ι z).toArray.size]!)=(l8 ι (I4 z k)).toArray:=by
 apply Array.ext
 ·simp [R4]
 ·intro i h1 h2
  have h3:i<k*z.length:=by simpa using h1
  have hz:0<z.length:=Nat.pos_of_ne_zero fun e=>by rw [e] at h3;simp at h3
  have hm:i%z.length<z.length:=Nat.mod_lt _ hz
  have h4:=kK z k i h3
  rw [Array.getElem_map,Array.getElem_range]
  have h5:(l8 ι (I4 z k))[i]?=some (l8 ι z)[i%z.length]!:=by
   rw [K7,h4,List.getElem?_eq_getElem hm]
   simp [N8,hm]
  have h6:(l8 ι (I4 z k)).toArray[i]?=some ((l8 ι z).toArray[i%(l8 ι z).toArray.size]!):=by
   simpa using h5
  rw [Array.getElem?_eq_getElem h2] at h6
  exact (Option.some.inj h6).symm
theorem IJ {op:Op}{nid:Nat}{w:World}{cells:List j3}(hn:¬ n nid)(hlt:ltL n cells){e:TypeId}{es k len:Nat}{rl:List (List j3)}(hr:rowsOf es k cells=some rl)
  (hrun:∀o:Oper,o.op=op→(execOp a.eval o).run P w=.ok (.value (.slice (some ⟨w.heap.size,0,none⟩) len k)) {w with heap:=w.heap.push (.cells (l8 ι cells).toArray e)}):
  gT P ι n a.eval op nid w (.slice nid 0 len k,some (.cells es k (T.ofList rl))):=by
 refine .made ⟨w.heap.size,0,cells.length,none⟩ (.cells (l8 ι cells).toArray e) {w with heap:=w.heap.push (.cells (l8 ι cells).toArray e)} ⟨rfl,rfl,fun o ho=>?_,⟨rfl,rfl,rfl,rfl⟩,rfl,fun c e' fz h k hk=>?_,fun n' hm hnn _=>⟨?_,hnn⟩⟩
 ·rw [hrun o ho];simp [l6,Inj.at]
 ·cases h;simp
 ·rw [← qY (l:=⟨w.heap.size,0,cells.length,none⟩) hn hlt]
  exact BK hr Q7 rfl (by simp) (R8 hm _ hlt) (fun j v hj=>by simp [K7,hj]) (by simp)
theorem fZ {t:TypeId}{z:List j3}(h:En P t=some z):nE P t=some z∧aS P t=some z.length:=by
 simp only [En] at h
 split at h
 ·split at h
  ·cases h;rename_i h1 h2 h3;exact⟨h2,by rw [h1,h3]⟩
  ·cases h
 ·cases h
theorem nM {t:TypeId}{k:Nat}(h:aS P t=some k):P.cellsOf t=k:=by
 unfold aS at h;unfold Program.cellsOf;rw [h];rfl
theorem run_askRoom (k:Nat)(w:World):(askRoom k).run P w=.ok () w:=by
 unfold askRoom
 split<;>simp [mark,Sem.run]
theorem nN (e:TypeId)(c:Array Value)(hp:Array Obj)(w:World):
  (markStringish ⟨hp.size,0,none⟩).run P {w with heap:=hp.push (.cells c e)}=.ok () {w with heap:=hp.push (.cells c e (c.size,c.size+1))}:=by
 simp only [markStringish,Sem.run_bind,run_shape,World.shape?,Result.andThen_ok]
 have hm:∀(f:Obj→Obj),(hp.push (.cells c e)).modify hp.size f=hp.push (f (.cells c e)):=by
  intro f
  apply Array.ext
  ·simp
  ·intro i h1 h2
   rw [Array.getElem_modify]
   simp only [Array.size_push,Array.size_modify] at h1 h2
   by_cases h:hp.size=i
   ·subst h;simp
   ·have:i<hp.size:=by omega
    simp [h,Array.getElem_push_lt this]
 simp [World.freeze,hm]
theorem jL (s:St P ι n slots done ls env a.tmps)(hcp:∀i,n i→n.cap i=(ι i).cap){nid:Nat}(hn:¬ n nid){op:Op}{lo:LOp}(h:iI P slots done op lo){r:j3×Option Blk}(hv:trL lo ls env nid=some r)(w:World):
  gT P ι n a.eval op nid w r:=by
 cases h with
 | @alloc t z hz=>
  cases hv
  obtain⟨v,h1,h2,h3⟩:=Q5 (w:=w) hz ι
  exact xW (e:=t) hn (h3 n) fun o ho=>by simp [execOp,ho,Instr.alloc,h1,newVar,R3,h2]
 | @box t x x' hx=>
  cases hv
  obtain⟨e1,e2⟩:=l9 s hx
  exact xW (e:=t) hn (lG e2) fun o ho=>by simp [execOp,ho,Instr.box,e1,newVar,R3,dI]
 | @allocT t z hz=>
  cases hv
  obtain⟨hz,hsz⟩:=fZ hz
  obtain⟨v,h1,h2,h3⟩:=Q5 (w:=w) hz ι
  exact uz (e:=t) hn (h3 n) (nM hsz).symm fun o ho=>by simp [execOp,ho,Instr.alloc,h1,newVar,R3,h2]
 | @boxT t k x x' hk hx=>
  obtain⟨h1,hv⟩:=p9 hv
  cases hv
  obtain⟨e1,e2⟩:=l9 s hx
  have h1:(trO x' ls env).cells.length=k:=by rw [← C8];exact Nat.eq_of_beq_eq_true h1
  exact uz (e:=t) hn (lG e2) (by rw [nM hk];exact h1) fun o ho=>by simp [execOp,ho,Instr.box,e1,newVar,R3,dI]
 | @mkMap t=>
  cases hv
  refine .made ⟨w.heap.size,0,0,none⟩ (.map #[] 0) {w with heap:=w.heap.push (.map #[] 0)} ⟨rfl,rfl,fun o ho=>?_,⟨rfl,rfl,rfl,rfl⟩,rfl,(fun c e' fz h=>by cases h),fun n' hm hnn _=>⟨⟨?_,by simp⟩,hnn⟩⟩
  ·simp [execOp,ho,Instr.makeMap,l6,newObj,Sem.run]
  ·simp [A8]
 | @mkMapN t k m kt e hu=>
  cases hv
  refine .made ⟨w.heap.size,0,0,none⟩ (.map #[] 0) {w with heap:=w.heap.push (.map #[] 0)} ⟨rfl,rfl,fun o ho=>?_,⟨rfl,rfl,rfl,rfl⟩,rfl,(fun c e' fz h=>by cases h),fun n' hm hnn _=>⟨⟨?_,by simp⟩,hnn⟩⟩
  ·simp [execOp,ho,Instr.makeMap,l6,newObj,Sem.run,run_underlying hu,Act.eval,asInt,asIntOf]
  ·simp [A8]
 | @buildSlice t len parts e es ps z hu hes hps hle hz=>
  obtain⟨cells,h1,hv⟩:=r9 hv
  obtain⟨rl,h2,hv⟩:=r9 hv
  cases hv
  obtain⟨v,hz1,hz2,hz3⟩:=Q5 (P:=P) (w:=w) hz ι
  obtain⟨g1,g2,g3⟩:=qP s _ parts.toList ps hps _ cells (jK (hz3 n) len) h1
  obtain⟨r1,_,_⟩:=au _ _ _ _ h2
  rw [R4] at g3
  have harr:(parts.map fun p=>(p.1,a.eval p.2)).toList=parts.toList.map fun p=>(p.1,a.eval p.2):=by simp
  refine IJ (e:=e) hn g2 h2 fun o ho=>?_
  have hnl:¬ len*es>2^24:=by have:(2:Nat)^24=16777216:=rfl
                             omega
  simp only [execOp,ho,Instr.buildSlice,Sem.run_bind,run_underlying hu,Result.andThen_ok,run_sizeOf hes,if_neg hnl,Sem.run_pure]
  have key:∀Z:Array Value,(len*es=0∨Z=(l8 ι z).toArray)→(Array.range (len*es)).map (fun i=>Z[i%Z.size]!)=(l8 ι (I4 z len)).toArray:=by
   intro Z hZ
   by_cases h0:len*es=0
   ·have:I4 z len=[]:=List.eq_nil_of_length_eq_zero (by rw [R4];omega)
    rw [this,h0];simp [l8]
   ·rcases hZ with h | rfl
    ·exact absurd h h0
    ·have hm:len*z.length=len*es:=by omega
     have hp:0<len:=Nat.pos_of_ne_zero fun e=>h0 (by rw [e,Nat.zero_mul])
     have hzl:z.length=es:=Nat.eq_of_mul_eq_mul_left hp hm
     rw [← hzl];exact vZ z len
  by_cases h0:len*es=0
  ·rw [if_pos h0]
   simp only [Sem.run_bind,Sem.run_pure,Result.andThen_ok,harr,key #[] (.inl h0),g1]
   simp [R3]
  ·rw [if_neg h0]
   simp only [Sem.run_bind,hz1,Sem.run_pure,Result.andThen_ok,harr,hz2,key _ (.inr rfl),g1]
   simp [R3]
 | @mkSlice t l c e es by' z l' c' hu hes hby hz hl hc=>
  obtain⟨hz0,hzs⟩:=fZ hz
  rw [hes] at hzs;cases hzs
  obtain⟨i,len,h1,hv⟩:=aj hv
  obtain⟨j,cap,h2,hv⟩:=aj hv
  obtain⟨g1,hv⟩:=p9 hv
  obtain⟨g2,hv⟩:=p9 hv
  obtain⟨g3,hv⟩:=p9 hv
  cases hv
  have g1:len≤cap:=Nat.le_of_ble_eq_true g1
  have g2:by'*cap≤281474976710656:=Nat.le_of_ble_eq_true g2
  have g3:cap<9223372036854775808:=Eq.mp Nat.blt_eq g3
  have h1:trO l' ls env=.int i (len:Int):=h1
  have h2:trO c' ls env=.int j (cap:Int):=h2
  obtain⟨e1,_⟩:=l9 s hl
  obtain⟨e2,_⟩:=l9 s hc
  obtain⟨info,hi1,hi2⟩:=lK (w:=w) hby
  obtain⟨v,hz1,hz2,hz3⟩:=Q5 (P:=P) (w:=w) hz0 ι
  have hlen:=R4 z cap
  have hrun:∀o:Oper,o.op=.makeSlice t l c→(execOp a.eval o).run P w=.ok (.value (.slice (some ⟨w.heap.size,0,none⟩) len cap)) {w with heap:=w.heap.push (.cells (l8 ι (I4 z cap)).toArray e)}:=by
   intro o ho
   have w1:IntKind.i64.wrap (len:Int)=len:=qJ _ ⟨by omega,by omega⟩
   have w2:IntKind.i64.wrap (cap:Int)=cap:=qJ _ ⟨by omega,by omega⟩
   have hbig:¬ ((by':Int)*(cap:Int)>2^48):=by
    have:((by'*cap:Nat):Int)=(by':Int)*(cap:Int):=by simp
    rw [← this]
    have h48:(2:Int)^48=281474976710656:=rfl
    rw [h48];omega
   simp only [execOp,ho,Instr.makeSlice,Sem.run_bind,run_underlying hu,Result.andThen_ok,e1,e2,h1,h2,l6,asInt,asIntOf,Sem.run_pure,hi1,hi2,w1,w2]
   rw [if_neg (by simp only [Bool.or_eq_true,decide_eq_true_eq,not_or];exact⟨⟨⟨by omega,hbig⟩,by omega⟩,by omega⟩)]
   simp only [Sem.run_bind,run_askRoom,Result.andThen_ok,run_sizeOf hes,Int.toNat_natCast]
   by_cases h0:cap*z.length=0
   ·have hnil:I4 z cap=[]:=List.eq_nil_of_length_eq_zero (by rw [hlen];exact h0)
    have hr0:∀f:Nat→Value,(Array.range 0).map f=#[]:=by intro f;simp
    simp only [Sem.run_bind,Sem.run_pure,Result.andThen_ok,h0,hnil,if_true,hr0]
    simp [R3,l8]
   ·have hk:=vZ (ι:=ι) z cap
    simp only [if_neg h0,Sem.run_bind,Sem.run_pure,Result.andThen_ok,hz1,hz2,hk]
    simp [R3]
  refine .made ⟨w.heap.size,0,(I4 z cap).length,none⟩ (.cells (l8 ι (I4 z cap)).toArray e) {w with heap:=w.heap.push (.cells (l8 ι (I4 z cap)).toArray e)} ⟨rfl,rfl,fun o ho=>?_,⟨rfl,rfl,rfl,rfl⟩,rfl,fun c e' fz h k hk=>?_,fun n' hm hnn _=>⟨?_,hnn⟩⟩
  ·rw [hrun o ho];simp [l6,Inj.at]
  ·cases h;simp
  ·refine⟨_,_,_,Q7,by simp,⟨by simp [hlen],cap,Nat.le_refl _,by simpa using T.EP z cap .e 0 .e,lI (by simpa using T.EP z cap .e 0 .e)⟩,fun i hi=>⟨z,?_,rfl,hz3 _,fun j hj=>?_⟩⟩
   ·rw [T.ER _ _ _ _ T.Ok.e];simp [hi]
   ·have hb:i*z.length+j<cap*z.length:=by
     calc i*z.length+j<i*z.length+z.length:=by omega
      _=(i+1)*z.length:=by rw [Nat.succ_mul]
      _≤cap*z.length:=Nat.mul_le_mul_right _ hi
    rw [Nat.zero_add,List.getElem?_toArray,K7,kK _ _ _ hb]
    rw [show (i*z.length+j)%z.length=j from by rw [Nat.mul_comm,Nat.mul_add_mod,Nat.mod_eq_of_lt hj]]
    rw [List.getElem?_eq_getElem hj]
    simp [BL (l:=⟨w.heap.size,0,(I4 z cap).length,none⟩) hn (E8 (hz3 n) (List.getElem_mem hj))]
 | @strBytes t u e x x' h1 h2 h3 hx=>
  obtain⟨str,h4,hv⟩:=aZ hv
  obtain⟨rl,h5,hv⟩:=r9 hv
  cases hv
  have h4:trO x' ls env=.str str:=h4
  obtain⟨e1,_⟩:=l9 s hx
  have hbl:∀l:List UInt8,bytesOf l=l.map fun b=>j3.int .u8 b.toNat:=by
   intro l
   induction l with
   | nil=>rfl
   | cons b l ih=>simp [bytesOf,ih]
  rw [C8] at *
  generalize hcap:str.length+w.tape w.drawn (.appendCap str.length 0 e)%(2^63-str.length)=cap
  have hle:str.length≤cap:=by omega
  let cells:Array Value:=(l8 ι (bytesOf str)).toArray++Array.replicate (cap-str.length) (.int .u8 0)
  have hsz:cells.size=cap:=by simp [cells,hbl];omega
  have hlt:ltL n (bytesOf str):=by
   rw [hbl,R5];intro v hv
   obtain⟨b,_,rfl⟩:=List.mem_map.1 hv
   simp [j3.lt]
  have hrun:∀o:Oper,o.op=.convert t u x→(execOp a.eval o).run P w =
    .ok (.value (.slice (some ⟨w.heap.size,0,none⟩) str.length cap)) {w with heap:=w.heap.push (.cells cells e (cap,cap+1)),drawn:=w.drawn+1}:=by
   intro o ho
   simp only [execOp,ho,Sem.run_bind,convert,run_underlying h1,run_underlying h2,run_underlying h3,Result.andThen_ok,e1,h4,l6,Conv.stringToBytes]
   rw [run_choose]
   simp only [Question.forced,Bool.false_eq_true,if_false,Result.andThen_ok,Question.cut,gJ,hcap]
   have hc:(⟨str.toArray⟩:ByteArray).data.map (fun b=>Value.int .u8 b.toNat)++Array.replicate (cap-str.length) (.int .u8 0)=cells:=by
    simp only [cells,hbl,N8,List.map_map]
    congr 1
    simp [l6,Function.comp_def]
   have hc:str.toArray.map (fun b=>Value.int .u8 b.toNat)++Array.replicate (cap-str.length) (.int .u8 0)=cells:=hc
   rw [hc,R3]
   simp only [Result.andThen_ok]
   rw [nN e cells w.heap {w with drawn:=w.drawn+1}]
   simp [hsz]
  refine .made ⟨w.heap.size,0,cap,none⟩ (.cells cells e (cap,cap+1)) {w with heap:=w.heap.push (.cells cells e (cap,cap+1)),drawn:=w.drawn+1} ⟨rfl,rfl,fun o ho=>?_,⟨rfl,rfl,rfl,rfl⟩,rfl,fun c e' fz h k hk=>?_,fun n' hm hnn hcp=>⟨?_,⟨hnn,Nat.le_refl 1,by rw [hcp];show 0+str.length*1≤cap;omega⟩⟩⟩
  ·rw [hrun o ho];simp [l6,Inj.at]
  ·cases h;rw [hsz] at hk;simp;omega
  ·refine BK h5 Q7 rfl hsz.symm (R8 hm _ hlt) (fun j v hj=>?_) (by rw [hsz,hbl];simpa using hle)
   have hjl:j<(bytesOf str).length:=(List.getElem?_eq_some_iff.1 hj).1
   have hv:=E8 hlt (List.mem_of_getElem? hj)
   rw [BL (l:=⟨w.heap.size,0,cap,none⟩) hn hv]
   simp only [cells]
   rw [Array.getElem?_append_left (by simpa using hjl)]
   simp [K7,hj]
 | @sl t x lo hi e es x' lo' hi' hu hes hx hlo hhi=>
  obtain⟨e1,e2⟩:=l9 s hx
  have hv:aH (ny lo') 0 ls env (fun l=>Option.rec (F3 nid es (trO x' ls env) l none) (fun h=>kU (h ls env) fun h=>F3 nid es (trO x' ls env) l (some h)) (ny hi'))=some r:=hv
  generalize hX:trO x' ls env=X at *
  have hb:∀d,(∀l,F3 nid es X l none=F3 nid es X l (some d))→
    ∃l h,F3 nid es X l (some h)=some r∧∀cap w,l≤h→h≤cap→(Instr.sliceBounds true d cap (lo.map a.eval) (hi.map a.eval) none).run P w=.ok (l,h,cap) w:=by
   intro d hd
   have h':aH (ny lo') 0 ls env (fun l=>aH (ny hi') d ls env fun h=>F3 nid es X l (some h))=some r:=by
    rw [← hv];congr 1;funext l
    cases hhi':ny hi' with
    | none=>simp only [aH];exact (hd l).symm
    | some f=>rfl
   obtain⟨l,h,g1,_,_,g2⟩:=je s hlo hhi h'
   exact⟨l,h,g1,fun cap w p q=>g2 true d cap w rfl p q⟩
  have hslice:∀(ad:Option Addr) (len cap l h:Nat) (w:World),l6 ι X=.slice ad len cap→(Instr.sliceBounds true len cap (lo.map a.eval) (hi.map a.eval) none).run P w=.ok (l,h,cap) w→
    ∀o:Oper,o.op=.slice t x lo hi none→(execOp a.eval o).run P w=.ok (.value (.slice (if cap=l then ad else ad.map (·.add (l*es))) (h-l) (cap-l))) w:=by
   intro ad len cap l h w hc hbd o ho
   simp [execOp,ho,Instr.sliceAt,run_underlying hu,Instr.slice,e1,hc,hbd,run_sizeOf hes]
  cases X with
  | nilSlice=>
   obtain⟨l,h,g1,g2⟩:=hb 0 (fun l=>by simp [F3,vSl,Nat.beq_refl])
   have g1:bi (Nat.beq l 0) (bi (Nat.beq h 0) (some (j3.nilSlice,none)) none) none=some r:=g1
   obtain⟨q1,g1⟩:=p9 g1
   obtain⟨q2,g1⟩:=p9 g1
   obtain rfl:=Nat.eq_of_beq_eq_true q1
   obtain rfl:=Nat.eq_of_beq_eq_true q2
   cases g1
   refine .none (by simp [j3.lt]) fun o ho w=>?_
   rw [hslice none 0 0 0 0 w rfl (g2 0 w (Nat.le_refl _) (Nat.le_refl _)) o ho]
   rfl
  | slice id off len cap=>
   obtain⟨l,h,g1,g2⟩:=hb len (fun l=>rfl)
   have g1:F3.known es l id off cap h=some r:=g1
   simp only [F3.known] at g1
   obtain⟨q1,g1⟩:=p9 g1
   obtain⟨q2,g1⟩:=p9 g1
   have q1:=Nat.le_of_ble_eq_true q1
   have q2:=Nat.le_of_ble_eq_true q2
   cases g1
   refine .none e2 fun o ho w=>?_
   rw [hslice _ len cap l h w rfl (g2 cap w q1 q2) o ho]
   simp only [l6,oL,Option.map_some,Inj.iZ]
   by_cases hc:cap=l
   ·rw [if_pos hc,if_pos hc.symm];rfl
   ·rw [if_neg hc,if_neg (fun e=>hc e.symm)];rfl
  | sliceU id off len es'=>
   obtain⟨l,h,g1,g2⟩:=hb len (fun l=>rfl)
   have g1:F3.unk nid es l id off len es' h=some r:=g1
   simp only [F3.unk] at g1
   obtain⟨q1,p1⟩:=p9 g1
   obtain⟨q2,p2⟩:=p9 p1
   obtain⟨q3,p3⟩:=p9 p2
   clear g1 p1 p2
   have q1:=Nat.le_of_ble_eq_true q1
   have q2:=Nat.le_of_ble_eq_true q2
   obtain rfl:=Nat.eq_of_beq_eq_true q3
   obtain⟨hid,hes1,hcap⟩:=e2
   have hcap:off+len*es≤(n.cap id):=hcap
   rw [hcp id hid] at hcap
   have hlen:len≤((ι id).cap-off) / es:=(Nat.le_div_iff_mul_le hes1).2 (by omega)
   have hX:l6 ι (.sliceU id off len es)=.slice (some (ι.at id off)) len (((ι id).cap-off) / es):=by simp [l6]
   have hrun:=fun w=>hslice _ _ _ l h w hX (g2 _ w q1 (Nat.le_trans q2 hlen))
   have hdiv:∀k,k*es≤(ι id).cap-off→((ι id).cap-(off+k*es)) / es=((ι id).cap-off) / es-k:=by
    intro k hk
    rw [← Nat.sub_sub,Nat.mul_comm k es,Nat.sub_mul_div]
   cases hlt:Nat.blt l len with
   | true=>
    have g1:some (j3.sliceU id (off+l*es) (h-l) es,none)=some r:=by rw [hlt] at p3;exact p3
    have hll:l<len:=Eq.mp Nat.blt_eq hlt
    cases g1
    have hle:h*es≤len*es:=Nat.mul_le_mul_right _ q2
    have hsum:l*es+(h-l)*es=h*es:=by rw [← Nat.add_mul];congr 1;omega
    refine .none ⟨hid,hes1,by rw [hcp id hid];omega⟩ fun o ho w=>?_
    rw [hrun w o ho,if_neg (by omega)]
    simp only [l6,Option.map_some,Inj.iZ]
    rw [hdiv l (by have:l*es≤len*es:=Nat.mul_le_mul_right _ (by omega)
                   omega)]
   | false=>
    have hge:len≤l:=by
     rcases Nat.lt_or_ge l len with hh | hh
     ·rw [(Eq.mpr Nat.blt_eq hh:Nat.blt l len=true)] at hlt;cases hlt
     ·exact hh
    have g1:bi (Nat.beq l 0) (some (j3.sliceU id off (h-l) es,none)) (some (.sliceU nid 0 0 es,some (.tail id)))=some r:=by rw [hlt] at p3;exact p3
    rw [oL] at g1
    split at g1
    ·rename_i h0
     subst h0
     cases g1
     obtain rfl:len=0:=by omega
     obtain rfl:h=0:=by omega
     refine .none ⟨hid,hes1,by rw [hcp id hid];omega⟩ fun o ho w=>?_
     rw [hrun w o ho]
     simp only [l6,Option.map_some,Inj.iZ,Nat.zero_mul,Nat.add_zero,Nat.sub_zero,ite_self]
    ·cases g1
     obtain rfl:l=len:=by omega
     obtain rfl:h=l:=by omega
     by_cases hc:((ι id).cap-off) / es=h
     ·refine .tail ⟨(ι id).b,(ι id).base+off,0,if off=0 then (ι id).spot else none⟩ hid (.inl rfl) (fun o ho w=>?_) fun n' hm hnn hcp=>⟨hnn,hes1,by rw [hcp];simp⟩
      rw [hrun w o ho,if_pos hc,hc]
      simp [l6,Inj.at]
     ·refine .tail ⟨(ι id).b,(ι id).base+(off+h*es),(ι id).cap-(off+h*es),if off+h*es=0 then (ι id).spot else none⟩ hid (.inr ⟨rfl,by show (ι id).base+(off+h*es)+((ι id).cap-(off+h*es))≤(ι id).base+(ι id).cap;omega,fun hh=>by show (if off+h*es=0 then (ι id).spot else none)=none;rw [hh];simp⟩) (fun o ho w=>?_) fun n' hm hnn hcp=>⟨hnn,hes1,by rw [hcp];simp⟩
      rw [hrun w o ho,if_neg hc,← hdiv h (by omega)]
      have key:=Inj.iZ ι id off (h*es)
      simp only [l6,Option.map_some,key]
      simp [Inj.at]
  | _=>obtain⟨l,h,g1,_⟩:=hb 0 (fun l=>rfl);cases g1
end
theorem Mem.gU {m:Mem}(h:T.Ok m.t m.next){id:Nat}{b b':Blk}(hg:m.get id=some b)(hb':ah b'=false)(i:Nat)(hi:m.has i):(m.set id b').has i:=by
 obtain⟨x,h1,h2⟩:=hi
 by_cases he:i=id
 ·subst he;exact⟨b',by rw [Mem.K4 h (Mem.y9 h hg),if_pos rfl],hb'⟩
 ·exact⟨x,by rw [Mem.K4 h (Mem.y9 h hg),if_neg he];exact h1,h2⟩
theorem getElem?_set_ne (a:Array Obj)(i j:Nat)(o:Obj)(h:i≠j):(a.setIfInBounds i o)[j]?=a[j]?:=Array.getElem?_setIfInBounds_ne h
structure Put (w w':World)(b:Nat)(o:Obj):Prop where
 heap:w'.heap=w.heap.setIfInBounds b o
 os:w'.os=w.os
 out:w'.output=w.output
 tape:w'.tape=w.tape
theorem Step.set' {P:Program}{G:Mem}{ι:Inj}{m:Mem}{w w':World}(h:RM P G ι m w.heap){id:Nat}{b b':Blk}(hid:m.lim≤id)(hg:m.get id=some b)(hl:K8 b=true)
  (hb':ah b'=false) {o:Obj} (hw:Put w w' (ι id).b o)
  (hblk:Z9 P ι ((m.set id b').nm ι) (w.heap.setIfInBounds (ι id).b o) (ι id) b')
  (hf:K8 b'=true→∀c e fz,o=.cells c e fz→∀k,k<c.size→¬ (fz.1≤k∧k<fz.2)):
  Step P G ι m w ι (m.set id b') w':=by
 have hlt:=Mem.y9 h.ok hg
 have hget:=Mem.K4 h.ok hlt b'
 have hhas:=fun i hi=>Mem.gU h.ok hg hb' i hi
 have hown:=h.own id b hid hg hl
 have hbnd:(ι id).b<w.heap.size:=R9 (h.blk id b hg) hl
 refine⟨⟨h.ok.put id b' hlt,?_,?_,h.glim,h.limn,h.gle,fun i hi=>by rw [hget,if_neg (by have:=h.glim;omega)];exact h.base i hi,fun i hi=>hhas i (h.ghas i hi),h.glob,fun i x hx hlx=>by
   rw [hget] at hx
   split at hx
   ·rename_i e;subst e;exact h.spot i b hg hl
   ·exact h.spot i x hx hlx,h.EX fun b₁ hb₁ ho=>by
   rw [hw.heap,getElem?_set_ne]
   intro e
   exact ho ⟨id,b,hid,hg,hl,e⟩⟩,fun _ _=>rfl,hhas,Nat.le_refl _,rfl,?_,by rw [hw.heap];simp,?_,?_,hw.os,hw.out,hw.tape⟩
 ·intro i x hx
  rw [hget] at hx
  rw [hw.heap]
  split at hx
  ·rename_i e;subst e;cases hx;exact hblk
  ·rename_i e
   exact (h.blk i x hx).mono (n:=m.nm ι) (fun _ _=>rfl) (Mem.O6 hhas fun _ _=>rfl) (fun hlx=>getElem?_set_ne _ _ _ _ (fun e'=>hown.alone i x e hx hlx e'.symm))
 ·intro i x hi hx hlx
  rw [hget] at hx
  have key:∀j y,m.get j=some y→K8 y=true→j≠i→∀(z:Blk),m.get i=some z→K8 z=true→(ι j).b≠(ι i).b:=fun j y hy hly hji z hz hlz=>(h.own i z hi hz hlz).alone j y hji hy hly
  have hi':∃z,m.get i=some z∧K8 z=true:=by
   split at hx
   ·rename_i e;subst e;exact⟨b,hg,hl⟩
   ·exact⟨x,hx,hlx⟩
  obtain⟨z,hz,hlz⟩:=hi'
  refine⟨fun j y hj hy hly=>?_,fun c e fz hc=>?_⟩
  ·rw [hget] at hy
   split at hy
   ·rename_i ej;subst ej;exact key j b hg hl hj z hz hlz
   ·exact key j y hy hly hj z hz hlz
  ·by_cases he:i=id
   ·subst he
    rw [if_pos rfl] at hx
    cases hx
    rw [hw.heap,Array.getElem?_setIfInBounds_self_of_lt hbnd] at hc
    exact hf hlx c e fz (Option.some.inj hc)
   ·rw [hw.heap,getElem?_set_ne _ _ _ _ (fun e'=>hown.alone i z he hz hlz e'.symm)] at hc
    exact (h.own i z hi hz hlz).free c e fz hc
 ·intro i hi
  rw [hget,if_neg (by omega)]
 ·intro b₁ hb₁ ho
  rw [hw.heap,getElem?_set_ne]
  intro e
  exact ho ⟨id,b,hid,hg,hl,e⟩
 ·rintro b₁ ⟨i,x,hi,hx,hlx,rfl⟩
  rw [hget] at hx
  split at hx
  ·rename_i e;subst e;exact .inl ⟨i,b,hid,hg,hl,rfl⟩
  ·exact .inl ⟨i,x,hi,hx,hlx,rfl⟩
theorem Step.set {P:Program}{G:Mem}{ι:Inj}{m:Mem}{w w':World}(h:RM P G ι m w.heap){id:Nat}{b b':Blk}(hid:m.lim≤id)(hg:m.get id=some b)(hl:K8 b=true)
  (hb':ah b'=false) {o:Obj} (hw:Put w w' (ι id).b o)
  (hblk:Z9 P ι ((m.set id b').nm ι) (w.heap.setIfInBounds (ι id).b o) (ι id) b')
  (hf:∀c e fz,o=.cells c e fz→∀k,k<c.size→¬ (fz.1≤k∧k<fz.2)):
  Step P G ι m w ι (m.set id b') w':=Step.set' h hid hg hl hb' hw hblk fun _=>hf
theorem Step.kill {P:Program}{G:Mem}{ι:Inj}{m:Mem}{w:World}(h:RM P G ι m w.heap){id:Nat}{b:Blk}(hid:m.lim≤id)(hg:m.get id=some b):
  Step P G ι m w ι (m.set id .dead) w:=by
 have hlt:=Mem.y9 h.ok hg
 have hget:=Mem.K4 h.ok hlt .dead
 have hhas:=fun i hi=>Mem.gU (b':=.dead) h.ok hg rfl i hi
 have hne:∀i x,(m.set id .dead).get i=some x→K8 x=true→m.get i=some x:=fun i x hx hlx=>by
  rw [hget] at hx
  split at hx
  ·cases hx;cases hlx
  ·exact hx
 refine⟨⟨h.ok.put id .dead hlt,?_,?_,h.glim,h.limn,h.gle,fun i hi=>by rw [hget,if_neg (by have:=h.glim;omega)];exact h.base i hi,fun i hi=>hhas i (h.ghas i hi),h.glob,fun i x hx hlx=>h.spot i x (hne i x hx hlx) hlx,h.gsz⟩,fun _ _=>rfl,hhas,Nat.le_refl _,rfl,?_,Nat.le_refl _,fun _ _ _=>rfl,?_,rfl,rfl,rfl⟩
 ·intro i x hx
  rw [hget] at hx
  split at hx
  ·cases hx;trivial
  ·exact (h.blk i x hx).mono (n:=m.nm ι) (fun _ _=>rfl) (Mem.O6 hhas fun _ _=>rfl) (fun _=>rfl)
 ·intro i x hi hx hlx
  have ho:=h.own i x hi (hne i x hx hlx) hlx
  exact⟨fun j y hj hy hly=>ho.alone j y hj (hne j y hy hly) hly,ho.free⟩
 ·intro i hi
  rw [hget,if_neg (by omega)]
 ·rintro b₁ ⟨i,x,hi,hx,hlx,rfl⟩
  exact .inl ⟨i,x,hi,hne i x hx hlx,hlx,rfl⟩
section
variable {P:Program}{G:Mem}{ι:Inj}{m:Mem}{w:World}{slots:List Nat}{done:List (Option Nat)}{ls:List j3}{env:T j3}{a:Act}
def O5 (P:Program)(G:Mem)(ι:Inj)(m:Mem)(w:World)(outs:List VM)(v:Value)(w':World):Prop:=
 ∃r∈outs,∃ι',Step P G ι m w ι' r.m w'∧r.v.lt (r.m.nm ι')∧v=l6 ι' r.v
def Does (P:Program)(ρ:Operand→Value)(o:Oper)(w:World)(R:Value→World→Prop):Prop:=
 match (execOp ρ o).run P w with
 | .ok (.value v) w'=>R v w'
 | .ok .skip w'=>R undef w'
 | .ok (.enter f args) w'=>CallsIn Fence.wide 0 P f args w' fun e w''=>∃v,e=.returned v∧R v w''
 | .ok (.round l f tmps assign body) w'=>RoundIn Fence.wide 0 P l f tmps assign body w' fun e w''=>∃v,e=.returned v∧R v w''
 | _=>False
theorem E5 {ρ:Operand→Value}{o:Oper}{R:Value→World→Prop}{v:Value}{w':World}(h:(execOp ρ o).run P w=.ok (.value v) w')(hR:R v w'):Does P ρ o w R:=by
 unfold Does;rw [h];exact hR
theorem qZ {ρ:Operand→Value}{o:Oper}{R:Value→World→Prop}{w':World}(h:(execOp ρ o).run P w=.ok .skip w')(hR:R undef w'):Does P ρ o w R:=by
 unfold Does;rw [h];exact hR
theorem gV:∀{l:List j3},G7 l=true→∀v∈l,bM v=true
 | [],_,v,hv=>by cases hv
 | x::l,h,v,hv=>by
  have h:bi (bM x) (G7 l) false=true:=h
  cases hx:bM x with
  | false=>rw [hx] at h;cases h
  | true=>
   rw [hx] at h
   rcases List.mem_cons.1 hv with rfl | hv
   ·exact hx
   ·exact gV h v hv
theorem ru {v:j3}(h:bM v=true):(∀l,l6 ι v≠.agg l)∧∀l,l6 ι v≠.tuple l:=by
 cases v<;>simp_all [bM,l6]
theorem run_store {ad:Addr}{v x:Value}{w:World}(hc:w.cell? ad=some x)(hf:w.frozen? ad=false)(h1:∀l,v≠.agg l)(h2:∀l,v≠.tuple l):
  (store ad v).run P w=.ok () (w.setCell ad v):=by
 cases v<;>first | exact absurd rfl (h1 _) | exact absurd rfl (h2 _) | simp [store,Sem.run,hc,hf]
def over (c:Array Value)(o:Nat):List Value→Array Value
 | []=>c
 | v::l=>over (c.setIfInBounds o v) (o+1) l
@[simp] theorem OJ (l:List Value):∀(c:Array Value) (o:Nat),(over c o l).size=c.size:=by
 induction l with
 | nil=>intro c o;rfl
 | cons v l ih=>intro c o;rw [over,ih];simp
theorem qg (l:List Value):∀(c:Array Value) (o:Nat),o+l.length≤c.size→∀i,(over c o l)[i]?=if i<o then c[i]? else if i<o+l.length then l[i-o]? else c[i]?:=by
 induction l with
 | nil=>intro c o h i;simp [over];omega
 | cons v l ih=>
  intro c o h i
  simp only [List.length_cons] at h ⊢
  rw [over,ih _ _ (by simp;omega)]
  by_cases h1:i<o
  ·rw [if_pos h1,if_pos (by omega),Array.getElem?_setIfInBounds_ne (by omega)]
  ·by_cases h2:i=o
   ·subst h2
    rw [if_pos (by omega),if_neg h1,if_pos (by omega),Array.getElem?_setIfInBounds_self_of_lt (by omega)];simp
   ·rw [if_neg (by omega),if_neg h1]
    by_cases h3:i<o+1+l.length
    ·rw [if_pos h3,if_pos (by omega),show i-o=(i-(o+1))+1 from by omega];simp
    ·rw [if_neg h3,if_neg (by omega),Array.getElem?_setIfInBounds_ne (by omega)]
theorem fE {b:Nat}{e:TypeId}{fz:Nat×Nat}:∀(vs:List Value) (c:Array Value) (base i:Nat) (w:World),w.heap[b]?=some (.cells c e fz)→
  base+i+vs.length≤c.size→(∀k,k<c.size→¬ (fz.1≤k∧k<fz.2))→(∀v∈vs,(∀l,v≠.agg l)∧∀l,v≠.tuple l)→
  (storeCells ⟨b,base,none⟩ vs i).run P w=.ok () {w with heap:=w.heap.setIfInBounds b (.cells (over c (base+i) vs) e fz)}:=by
 intro vs
 induction vs with
 | nil=>
  intro c base i w hb hl hf hv
  have:w.heap.setIfInBounds b (.cells c e fz)=w.heap:=by
   apply Array.ext_getElem?
   intro j
   by_cases hj:b=j
   ·subst hj;rw [Array.getElem?_setIfInBounds_self_of_lt (Array.getElem?_eq_some_iff.1 hb).1,hb]
   ·rw [Array.getElem?_setIfInBounds_ne hj]
  simp [storeCells,over,this]
 | cons v vs ih=>
  intro c base i w hb hl hf hv
  simp only [List.length_cons] at hl
  have hin:base+i<c.size:=by omega
  have h1:=hv v (by simp)
  have hc:w.cell? ⟨b,base+i,none⟩=some c[base+i]:=by simp [World.cell?,hb,hin]
  have hfr:w.frozen? ⟨b,base+i,none⟩=false:=by
   have:=hf (base+i) hin
   simp only [World.frozen?,hb,Bool.and_eq_false_iff,decide_eq_false_iff_not]
   omega
  simp only [storeCells,Sem.run_bind]
  rw [show (⟨b,base,none⟩:Addr).add i=⟨b,base+i,none⟩ from by simp [Addr.add],run_store hc hfr h1.1 h1.2,Result.andThen_ok]
  have hset:w.setCell ⟨b,base+i,none⟩ v={w with heap:=w.heap.setIfInBounds b (.cells (c.setIfInBounds (base+i) v) e fz)}:=by
   simp only [World.setCell]
   congr 1
   apply Array.ext_getElem?
   intro j
   rw [Array.getElem?_modify]
   by_cases hj:b=j
   ·subst hj;rw [if_pos rfl,hb,Array.getElem?_setIfInBounds_self_of_lt (Array.getElem?_eq_some_iff.1 hb).1];simp
   ·rw [if_neg hj,Array.getElem?_setIfInBounds_ne hj]
  rw [hset,ih (c.setIfInBounds (base+i) v) base (i+1) _ (by simp [Array.getElem?_setIfInBounds_self_of_lt (Array.getElem?_eq_some_iff.1 hb).1]) (by simp;omega) (by simpa using hf) (fun x hx=>hv x (by simp [hx]))]
  congr 2
  simp [over,Nat.add_assoc]
theorem wh {rs n off:Nat}{rows rows':T (List j3)}{vs:List j3}(h:L6 rs n rows off vs=some rows'):
  off / rs<n∧∃row,rows.get (off / rs)=some row∧off%rs+vs.length≤rs∧rows'=rows.put (off / rs) (iO (off%rs) vs row):=by
 obtain⟨h1,h⟩:=p9 h
 obtain⟨row,h2,h⟩:=r9 h
 obtain⟨h3,h⟩:=p9 h
 have h3:=Nat.le_of_ble_eq_true h3
 rw [C8] at h3
 cases h
 exact⟨Eq.mp Nat.blt_eq h1,row,h2,h3,rfl⟩
theorem oU {n:Nm}{h h':Array Obj}{l:Loc}{rs k off:Nat}{rows rows':T (List j3)}{vs:List j3}(hb:Z9 P ι n h l (.cells rs k rows))(hw:L6 rs k rows off vs=some rows')
  (hvs:ltL n vs) {c:Array Value} {e:TypeId} {fz:Nat×Nat} (hc:h[l.b]?=some (.cells c e fz)) (hc':h'[l.b]?=some (.cells (over c (l.base+off) (l8 ι vs)) e fz)):
  Z9 P ι n h' l (.cells rs k rows')∧l.base+off+vs.length≤c.size:=by
 obtain⟨c₀,e₀,fz₀,h1,h2,⟨h3,N,hN,hok,htag⟩,h4⟩:=hb
 rw [hc] at h1;cases h1
 obtain⟨w1,row,w2,w3,rfl⟩:=wh hw
 obtain⟨row',g1,g2,g3,g4⟩:=h4 _ w1
 rw [w2] at g1;cases g1
 have hdm:off / rs*rs+off%rs=off:=by rw [Nat.mul_comm];exact Nat.div_add_mod off rs
 have hrow:off / rs*rs+rs≤k*rs:=by
  calc off / rs*rs+rs=(off / rs+1)*rs:=by rw [Nat.succ_mul]
   _≤k*rs:=Nat.mul_le_mul_right _ w1
 have hfit:l.base+off+vs.length≤c.size:=by omega
 refine⟨⟨_,e,fz,hc',by simpa using h2,⟨h3,N,hN,hok.put _ _ (by omega),fun ty hk1 ht=>?_⟩,fun i hi=>?_⟩,hfit⟩
 ·have h0:off / rs=0:=Nat.lt_one_iff.1 (Nat.lt_of_lt_of_eq w1 hk1)
  rw [h0,EU hok (by omega) (by omega)] at ht
  obtain⟨q1,q2,q3⟩:=htag ty hk1 ht
  exact⟨q1,q2,by simpa using q3⟩
 by_cases hi0:i=off / rs
 ·subst hi0
  refine⟨_,T.N7 hok _ _ (by omega),by rw [oJ _ _ _ (by omega)];exact g2,?_,fun j hj=>?_⟩
  ·rw [eZ _ _ _ (by omega),R5]
   intro v hv
   rcases List.mem_append.1 hv with hv | hv
   ·exact E8 g3 (List.mem_of_mem_take hv)
   ·rcases List.mem_append.1 hv with hv | hv
    ·exact E8 hvs hv
    ·exact E8 g3 (List.mem_of_mem_drop hv)
  ·have hg4:=g4 j hj
   rw [qg _ _ _ (by simp;omega),ES _ _ _ (by omega)]
   simp only [G9]
   by_cases c1:j<off%rs
   ·rw [if_pos (by omega),if_neg (by omega)];exact hg4
   ·by_cases c2:j<off%rs+vs.length
    ·rw [if_neg (by omega),if_pos (by omega),if_pos (by omega),K7]
     congr 2;omega
    ·rw [if_neg (by omega),if_neg (by omega),if_neg (by omega)];exact hg4
 ·obtain⟨row',q1,q2,q3,q4⟩:=h4 i hi
  refine⟨row',by rw [T.O8 hok _ _ _ (by omega) (fun e=>hi0 e.symm)];exact q1,q2,q3,fun j hj=>?_⟩
  rw [qg _ _ _ (by simp;omega),← q4 j hj]
  simp only [G9]
  rcases Nat.lt_or_ge i (off / rs) with hlt | hge
  ·have:i*rs+rs≤off / rs*rs:=by
    calc i*rs+rs=(i+1)*rs:=by rw [Nat.succ_mul]
     _≤off / rs*rs:=Nat.mul_le_mul_right _ hlt
   rw [if_pos (by omega)]
  ·have:off / rs*rs+rs≤i*rs:=by
    calc off / rs*rs+rs=(off / rs+1)*rs:=by rw [Nat.succ_mul]
     _≤i*rs:=Nat.mul_le_mul_right _ (by omega)
   rw [if_neg (by omega),if_neg (by omega)]
theorem wm (rs n:Nat)(rows:T (List j3))(off:Nat):aF rs n [] rows off=some rows:=rfl
theorem tK (rs n:Nat)(v:j3)(vs:List j3)(rows:T (List j3))(off:Nat):
  aF rs n (v::vs) rows off=ob (L6 rs n rows off [v]) fun rows'=>aF rs n vs rows' (off+1):=rfl
theorem aK {h:Array Obj}{b:Nat}{x o:Obj}(hb:h[b]?=some x):(h.setIfInBounds b o)[b]?=some o:=
 Array.getElem?_setIfInBounds_self_of_lt (Array.getElem?_eq_some_iff.1 hb).1
theorem set_set (h:Array Obj)(b:Nat)(x y:Obj):(h.setIfInBounds b x).setIfInBounds b y=h.setIfInBounds b y:=by
 apply Array.ext_getElem?
 intro j
 by_cases hj:b=j
 ·subst hj
  by_cases hb:b<h.size
  ·rw [Array.getElem?_setIfInBounds_self_of_lt (by simpa using hb),Array.getElem?_setIfInBounds_self_of_lt hb]
  ·simp [Nat.le_of_not_lt hb]
 ·rw [Array.getElem?_setIfInBounds_ne hj,Array.getElem?_setIfInBounds_ne hj,Array.getElem?_setIfInBounds_ne hj]
theorem wo {n:Nm}{l:Loc}{rs k:Nat}{e:TypeId}{fz:Nat×Nat}:∀(vs:List j3) (off:Nat) (rows rows':T (List j3)) (h:Array Obj) (c:Array Value),
  Z9 P ι n h l (.cells rs k rows)→aF rs k vs rows off=some rows'→ltL n vs→h[l.b]?=some (.cells c e fz)→
  Z9 P ι n (h.setIfInBounds l.b (.cells (over c (l.base+off) (l8 ι vs)) e fz)) l (.cells rs k rows')∧(vs≠[]→l.base+off+vs.length≤c.size):=by
 intro vs
 induction vs with
 | nil=>
  intro off rows rows' h c hb hw _ hc
  rw [wm] at hw;cases hw
  refine⟨hb.mono (n:=n) (fun _ _=>rfl) (Nm.le_refl n) fun _=>?_,fun h=>absurd rfl h⟩
  rw [aK hc,hc];rfl
 | cons v vs ih=>
  intro off rows rows' h c hb hw hlt hc
  rw [tK] at hw
  obtain⟨r₁,h1,h2⟩:=r9 hw
  obtain⟨b1,f1⟩:=oU (h':=h.setIfInBounds l.b (.cells (over c (l.base+off) (l8 ι [v])) e fz)) hb h1 ⟨hlt.1,trivial⟩ hc (aK hc)
  obtain⟨b2,f2⟩:=ih (off+1) _ _ _ _ b1 h2 hlt.2 (aK hc)
  rw [set_set] at b2
  refine⟨?_,fun _=>?_⟩
  ·simpa [l8,over,Nat.add_assoc] using b2
  ·cases vs with
   | nil=>simpa using f1
   | cons u vs=>have:=f2 (by simp);simp at this ⊢;omega
theorem xX (hm:RM P G ι m w.heap){id rs k off:Nat}{rows rows':T (List j3)}(hid:m.lim≤id)(hg:m.get id=some (.cells rs k rows)){vs:List j3}
  (h1:G7 vs=true) (hlt:ltL (m.nm ι) vs)
  (hb:∀c e fz,w.heap[(ι id).b]?=some (.cells c e fz)→Z9 P ι (m.nm ι) (w.heap.setIfInBounds (ι id).b (.cells (over c ((ι id).base+off) (l8 ι vs)) e fz)) (ι id) (.cells rs k rows')∧
   (vs≠[]→(ι id).base+off+vs.length≤c.size)):
  ∃w',(storeCells (ι.at id off) (l8 ι vs) 0).run P w=.ok () w'∧Step P G ι m w ι (m.set id (.cells rs k rows')) w':=by
 obtain⟨c,e,fz,hc,_⟩:=hm.blk id _ hg
 obtain⟨hblk,hfit⟩:=hb c e fz hc
 have hfree:=(hm.own id _ hid hg rfl).free c e fz hc
 have hone:∀v∈l8 ι vs,(∀l,v≠.agg l)∧∀l,v≠.tuple l:=by
  intro v hv
  rw [N8] at hv
  obtain⟨u,hu,rfl⟩:=List.mem_map.1 hv
  exact ru (gV h1 u hu)
 refine⟨{w with heap:=w.heap.setIfInBounds (ι id).b (.cells (over c ((ι id).base+off) (l8 ι vs)) e fz)},?_,?_⟩
 ·cases vs with
  | nil=>
   have:w.heap.setIfInBounds (ι id).b (.cells c e fz)=w.heap:=by
    apply Array.ext_getElem?
    intro j
    by_cases hj:(ι id).b=j
    ·subst hj;rw [aK hc,hc]
    ·rw [Array.getElem?_setIfInBounds_ne hj]
   simp [l8,storeCells,over,this]
  | cons v vs=>
   have:=hfit (by simp)
   rw [Inj.qH (hm.spot id _ hg rfl)]
   exact fE (l8 ι (v::vs)) c ((ι id).base+off) 0 w hc (by simpa using this) hfree hone
 ·refine Step.set hm hid hg rfl rfl ⟨rfl,rfl,rfl,rfl⟩ ?_ (fun c' e' fz' h=>by cases h;simpa using hfree)
  exact hblk.mono (n:=m.nm ι) (fun _ _=>rfl) (Mem.O6 (fun i hi=>Mem.gU hm.ok hg rfl i hi) fun _ _=>rfl) fun _=>rfl
theorem wu (hm:RM P G ι m w.heap){id off:Nat}{vs:List j3}{β:Type}{k:Mem→Option β}{r:β}(hs:storeAt m id off vs k=some r)(hlt:ltL (m.nm ι) vs):
  ∃m' w',k m'=some r∧(storeCells (ι.at id off) (l8 ι vs) 0).run P w=.ok () w'∧Step P G ι m w ι m' w':=by
 obtain⟨h1,hs⟩:=dR hs
 obtain⟨h2,hs⟩:=p9 hs
 obtain⟨rs,n,rows,hg,hs⟩:=Q6 hs
 obtain⟨rows',hw,hk⟩:=r9 hs
 have hid:m.lim≤id:=by
  rcases Nat.lt_or_ge id m.lim with h | h
  ·rw [(Eq.mpr Nat.blt_eq h:Nat.blt id m.lim=true)] at h1;cases h1
  ·exact h
 obtain⟨w',g1,g2⟩:=xX (off:=off) (rows':=rows') hm hid hg h2 hlt (fun c e fz hc=>by
  obtain⟨p,q⟩:=oU (h':=w.heap.setIfInBounds (ι id).b (.cells (over c ((ι id).base+off) (l8 ι vs)) e fz)) (hm.blk id _ hg) hw hlt hc (aK hc)
  exact⟨p,fun _=>q⟩)
 exact⟨_,w',hk,g1,g2⟩
theorem dY (hm:RM P G ι m w.heap){id off:Nat}{vs:List j3}{β:Type}{k:Mem→Option β}{r:β}(hs:bN m id off vs k=some r)(hlt:ltL (m.nm ι) vs):
  ∃m' w',k m'=some r∧(storeCells (ι.at id off) (l8 ι vs) 0).run P w=.ok () w'∧Step P G ι m w ι m' w':=by
 cases vs with
 | nil=>exact⟨m,w,hs,by simp [l8,storeCells],Step.refl hm⟩
 | cons v vs=>
  have hs:bi (Nat.blt id m.lim) none (bi (G7 (v::vs)) (K5 (m.get id) fun rs n rows=>ob (aF rs n (v::vs) rows off) fun rows'=>k (m.set id (.cells rs n rows'))) none)=some r:=hs
  obtain⟨h1,hs⟩:=dR hs
  obtain⟨h2,hs⟩:=p9 hs
  obtain⟨rs,n,rows,hg,hs⟩:=Q6 hs
  obtain⟨rows',hw,hk⟩:=r9 hs
  have hid:m.lim≤id:=by
   rcases Nat.lt_or_ge id m.lim with h | h
   ·rw [(Eq.mpr Nat.blt_eq h:Nat.blt id m.lim=true)] at h1;cases h1
   ·exact h
  obtain⟨w',g1,g2⟩:=xX (off:=off) (rows':=rows') hm hid hg h2 hlt (fun c e fz hc=>wo (v::vs) off rows rows' _ c (hm.blk id _ hg) hw hlt hc)
  exact⟨_,w',hk,g1,g2⟩
theorem bT {a b:Nat}(h:Nat.blt a b=false):b≤a:=by
 rcases Nat.lt_or_ge a b with g | g
 ·rw [(Eq.mpr Nat.blt_eq g:Nat.blt a b=true)] at h;cases h
 ·exact g
theorem Ae (s:St P ι (m.nm ι) slots done ls env a.tmps)(hm:RM P G ι m w.heap){t:TypeId}{x y:Operand}{k:Nat}{x' y':Opd}(hk:aS P t=some k)
  (hx:J7 P slots done x=some x') (hy:J7 P slots done y=some y') {cf:y8} {outs:List VM} (hv:trE (.store k x' y') cf ls env m=some outs):
  ∀o:Oper,o.op=.store t x y→Does P a.eval o w (O5 P G ι m w outs):=by
 intro o ho
 obtain⟨id,off,h1,h⟩:=V6 hv
 have h1:trO x' ls env=.ptr id off:=h1
 obtain⟨h2,h⟩:=p9 h
 have h2:(trO y' ls env).cells.length=k:=by rw [← C8];exact Nat.eq_of_beq_eq_true h2
 obtain⟨e1,_⟩:=l9 s hx
 obtain⟨e2,e2'⟩:=l9 s hy
 obtain⟨m',w',hk',hrun,hstep⟩:=wu hm h (lG e2')
 cases hk'
 refine qZ (w':=w') ?_ ⟨_,List.mem_singleton.2 rfl,ι,hstep,trivial,rfl⟩
 have hsz:(l6 ι (trO y' ls env)).cells.size=k:=by rw [dI];simp [h2]
 have hc:(l6 ι (trO y' ls env)).cells.toList=l8 ι (trO y' ls env).cells:=by rw [dI]
 simp [execOp,ho,Instr.storeAt,e1,e2,h1,l6,Instr.sureAddr,storeVar,run_sizeOf hk,hsz,hc,hrun]
end
section
variable {P:Program}{G:Mem}{ι:Inj}{m:Mem}{w:World}{slots:List Nat}{done:List (Option Nat)}{ls:List j3}{env:T j3}{a:Act}
theorem jM {r:Nat}{o x:Obj}(h:w.heap[r]?=some x)(hx:∀c e fz,x≠.cells c e fz):(setObj r o).run P w=.ok () {w with heap:=w.heap.setIfInBounds r o}:=by
 simp only [setObj,Sem.run,h]
theorem dG {kk:PK}{x y:j3}(h:Ih kk x y=some true)(n:Nat):Instr.sameBits n (l6 ι x) (l6 ι y)=true:=by
 cases kk with
 | i=>obtain⟨k,p,q,rfl,rfl,hr⟩:=fV (show J5 x y=some true from h);simp [l6,Instr.sameBits];simpa using hr.symm
 | b=>obtain⟨p,q,rfl,rfl,hr⟩:=ak (show oz x y=some true from h);simp [l6,Instr.sameBits];simpa using hr.symm
 | s=>obtain⟨p,q,rfl,rfl,hr⟩:=bf (show eqStr x y=some true from h);simp [l6,Instr.sameBits,dD];simpa using hr.symm
theorem lY:∀(ks:List PK) (x y:List j3),R6 ks x y=some true→x.length=ks.length→y.length=ks.length→∀n,
  ((l8 ι x).zip (l8 ι y)).all (fun (p:Value×Value)=>Instr.sameBits n p.1 p.2)=true
 | [],x,y,_,h1,h2,n=>by
  cases x<;>simp_all [l8]
 | k::ks,x,y,h,h1,h2,n=>by
  cases x with
  | nil=>simp at h1
  | cons a x=>
   cases y with
   | nil=>simp at h2
   | cons b y=>
    rw [bg] at h
    obtain⟨r,h3,h4⟩:=r9 h
    cases r with
    | false=>cases h4
    | true=>
     have ih:=lY ks x y h4 (by simpa using h1) (by simpa using h2) n
     simp only [l8,List.zip_cons_cons,List.all_cons,dG h3 n,Bool.true_and]
     exact ih
theorem xY {kk:EqK}{t:TypeId}(hk:wX P t=some kk){x y:j3}(h:pR kk x y=some true)(hx:x.cells.length=CR kk)(hy:y.cells.length=CR kk):
  Instr.sameBits 10000 (l6 ι y) (l6 ι x)=true:=by
 have sym:∀kk x y,Ih kk x y=some true→Ih kk y x=some true:=by
  intro kk x y h
  cases kk with
  | i=>obtain⟨k,p,q,rfl,rfl,hr⟩:=fV (show J5 x y=some true from h)
       have:p=q:=by simpa using hr.symm
       subst this;exact h
  | b=>obtain⟨p,q,rfl,rfl,hr⟩:=ak (show oz x y=some true from h)
       have:p=q:=by simpa using hr.symm
       subst this;exact h
  | s=>obtain⟨p,q,rfl,rfl,hr⟩:=bf (show eqStr x y=some true from h)
       have:p=q:=by simpa using hr.symm
       subst this;exact h
 rcases lV hk with⟨rfl,_⟩ | ⟨_,rfl,_⟩ | ⟨rfl,_⟩ | ⟨fs,ks,rfl,_,_⟩
 ·exact dG (kk:=.b) (sym .b x y h) _
 ·exact dG (kk:=.i) (sym .i x y h) _
 ·exact dG (kk:=.s) (sym .s x y h) _
 ·obtain⟨l,rfl,h1⟩:=V7 h
  obtain⟨l',rfl,h2⟩:=V7 h1
  have hx:l.length=ks.length:=hx
  have hy:l'.length=ks.length:=hy
  have symL:∀(ks:List PK) (x y:List j3),R6 ks x y=some true→R6 ks y x=some true:=by
   intro ks
   induction ks with
   | nil=>intro x y h;exact dK y x
   | cons k ks ih=>
    intro x y h
    cases x with
    | nil=>cases h
    | cons u x=>
     cases y with
     | nil=>cases h
     | cons v y=>
      rw [bg] at h ⊢
      obtain⟨r,h3,h4⟩:=r9 h
      cases r with
      | false=>cases h4
      | true=>rw [sym k u v h3];exact ih x y h4
  have:=lY (ι:=ι) ks l' l (symL ks l l' h2) hy hx 9999
  simp only [l6,Instr.sameBits,List.size_toArray,G9,hx,hy,beq_self_eq_true,Bool.true_and]
  exact this
theorem kD (ι:Inj)(e:j3×j3):∀(es:List (j3×j3)) (j:Nat),A8 ι (es ++ [e]) j=A8 ι es j ++ [{key:=l6 ι e.1,val:=l6 ι e.2,born:=j+es.length}]
 | [],j=>by simp [A8]
 | x::es,j=>by simp [A8,kD ι e es,Nat.add_assoc,Nat.add_comm 1]
theorem uD (k v:j3)(i:Nat):Y0 [] k v i=[]:=rfl
theorem dZ (e:j3×j3)(es:List (j3×j3))(k v:j3):Y0 (e::es) k v 0=(k,v)::es:=rfl
theorem eu (e:j3×j3)(es:List (j3×j3))(k v:j3)(i:Nat):Y0 (e::es) k v (i+1)=e::Y0 es k v i:=rfl
theorem lZ (k v:j3):∀(es:List (j3×j3)) (i:Nat),(Y0 es k v i).length=es.length
 | [],i=>rfl
 | e::es,0=>by simp [dZ]
 | e::es,i+1=>by simp [eu,lZ k v es]
theorem jN {k v:j3}:∀{es:List (j3×j3)} {i:Nat} {x:j3×j3},x∈Y0 es k v i→x=(k,v)∨x∈es
 | [],i,x,h=>by cases h
 | e::es,0,x,h=>by
  rw [dZ] at h
  rcases List.mem_cons.1 h with h | h
  ·exact .inl h
  ·exact .inr (List.mem_cons_of_mem _ h)
 | e::es,i+1,x,h=>by
  rw [eu] at h
  rcases List.mem_cons.1 h with h | h
  ·exact .inr (by rw [h];exact List.mem_cons_self)
  ·rcases jN h with h | h
   ·exact .inl h
   ·exact .inr (List.mem_cons_of_mem _ h)
theorem kE (ι:Inj)(k v:j3):∀(es:List (j3×j3)) (i j:Nat),
  (A8 ι es j).modify i (fun e=>{e with key:=l6 ι k,val:=l6 ι v})=A8 ι (Y0 es k v i) j
 | [],i,j=>by simp [A8,uD]
 | e::es,0,j=>by simp [A8,dZ]
 | e::es,i+1,j=>by simp [A8,eu,kE ι k v es]
theorem rz (hm:RM P G ι m w.heap){t kt e:TypeId}{kk:EqK}(hu:P.underlying t=some (.map kt e))(hk:wX P kt=some kk){id:Nat}{k x:j3}{es:List (j3×j3)}
  (hid:m.lim≤id) (hg:m.get id=some (.map es)) {r:Option (Nat×j3)} (hf:I6 (pR kk) (CR kk) k es=some r) (hkl:k.lt (m.nm ι)) (hxl:x.lt (m.nm ι)) {outs:List VM}
  (hr:Option.rec (one .undef (m.set id (.map (dz es [(k,x)])))) (fun p=>ob (sW p.1 es) fun e=>
   bi (Nat.beq (len' e.1.cells) (CR kk)) (one .undef (m.set id (.map (Y0 es k x p.1)))) none) r=some outs):
  ∃w',(Instr.mapUpdate t (.map (some (ι id).b)) (l6 ι k) (l6 ι x)).run P w=.ok () w'∧O5 P G ι m w outs undef w':=by
 obtain⟨h1,⟨y,b,h2⟩,h3⟩:=bS hf
 obtain⟨hobj,hlt⟩:=hm.blk id _ hg
 have hget:=U6 (P:=P) hobj (by intro _ _ _ e;cases e)
 have hput:=fun o=>jM (P:=P) (o:=o) hobj (by intro _ _ _ e;cases e)
 have hfk:=dF (ι:=ι) hk h3 w
 have hck:=vU (ι:=ι) hk h1 h2 false w
 cases r with
 | none=>
  cases hr
  refine⟨{w with heap:=w.heap.setIfInBounds (ι id).b (.map (A8 ι (es ++ [(k,x)]) 0).toArray (es ++ [(k,x)]).length)},?_,_,List.mem_singleton.2 rfl,ι,Step.set hm hid hg rfl rfl (o:=.map (A8 ι (es ++ [(k,x)]) 0).toArray (es ++ [(k,x)]).length) ⟨rfl,rfl,rfl,rfl⟩ ?_ (by intro _ _ _ h;cases h),trivial,rfl⟩
  ·simp only [Instr.mapUpdate,Sem.run_bind,run_underlying hu,hget,Result.andThen_ok,hck,hfk,jX,Option.map_none,hput]
   simp [kD]
  ·rw [L9]
   refine⟨aK hobj,fun e he=>?_⟩
   have hle:=Mem.O6 (ι:=ι) (ι':=ι) (fun i hi=>Mem.gU (b':=.map (es ++ [(k,x)])) hm.ok hg rfl i hi) fun _ _=>rfl
   rcases List.mem_append.1 he with he | he
   ·exact⟨j3.F4 hle _ (hlt e he).1,j3.F4 hle _ (hlt e he).2⟩
   ·rw [List.mem_singleton.1 he]
    exact⟨j3.F4 hle _ hkl,j3.F4 hle _ hxl⟩
 | some p=>
  obtain⟨e,h4,hr⟩:=r9 hr
  obtain⟨h5,hr⟩:=p9 hr
  cases hr
  rw [cZ] at h4
  have h5:e.1.cells.length=CR kk:=by rw [← C8];exact Nat.eq_of_beq_eq_true h5
  obtain⟨j,e',g1,g2,_,g3⟩:=dL h3
  rw [Nat.zero_add] at g1
  rw [g1,g2] at h4;cases h4
  have hsame:=xY (ι:=ι) hk g3 h1 h5
  refine⟨{w with heap:=w.heap.setIfInBounds (ι id).b (.map (A8 ι (Y0 es k x p.1) 0).toArray es.length)},?_,_,List.mem_singleton.2 rfl,ι,Step.set hm hid hg rfl rfl (o:=.map (A8 ι (Y0 es k x p.1) 0).toArray es.length) ⟨rfl,rfl,rfl,rfl⟩ ?_ (by intro _ _ _ h;cases h),trivial,rfl⟩
  ·have hkey:(((A8 ι es 0).toArray[p.1]?).map (·.key)).getD (l6 ι k)=l6 ι e.1:=by
    simp [dU,g1,g2]
   simp only [Instr.mapUpdate,Sem.run_bind,run_underlying hu,hget,Result.andThen_ok,hck,hfk,jX,Option.map_some,hkey,Instr.keyThatStays,hsame,if_true,Sem.run_pure,hput]
   rw [List.modify_toArray,kE]
  ·refine⟨by rw [lZ];exact aK hobj,fun e he=>?_⟩
   have hle:=Mem.O6 (ι:=ι) (ι':=ι) (fun i hi=>Mem.gU (b':=.map (Y0 es k x p.1)) hm.ok hg rfl i hi) fun _ _=>rfl
   rcases jN he with he | he
   ·rw [he];exact⟨j3.F4 hle _ hkl,j3.F4 hle _ hxl⟩
   ·exact⟨j3.F4 hle _ (hlt e he).1,j3.F4 hle _ (hlt e he).2⟩
theorem xZ {ι:Inj}(k v:j3):∀(L:List MapEntry) (es:List (j3×j3)) (j:Nat),L.map wY=es.map (fun e=>(l6 ι e.1,l6 ι e.2))→
  (L.modify j fun e=>{e with key:=l6 ι k,val:=l6 ι v}).map wY=(Y0 es k v j).map fun e=>(l6 ι e.1,l6 ι e.2)
 | [],[],j,_=>by simp [uD]
 | [],_ :: _,_,h=>by cases h
 | _ :: _,[],_,h=>by cases h
 | x::L,e::es,0,h=>by
  simp only [List.map_cons,List.cons.injEq] at h
  rw [dZ]
  simp [wY];simpa [wY] using h.2
 | x::L,e::es,j+1,h=>by
  simp only [List.map_cons,List.cons.injEq] at h
  rw [eu]
  simp [h.1,xZ k v L es j h.2]
def Kk (u:List UInt8)(x:j3)(e:j3×j3):j3×j3:=match e.1 with
 | .str t=>if t=u then (.str u,x) else e
 | _=>e
theorem IK (u:List UInt8)(x:j3)(e:j3×j3):(Kk u x e).1=e.1:=by
 obtain⟨k,v⟩:=e
 cases k<;>simp only [Kk]
 split
 ·rename_i h;rw [h]
 ·rfl
theorem Fv {u:List UInt8}{x:j3}:∀{es:List (j3×j3)},(∀e∈es,e.1≠.str u)→es.map (Kk u x)=es
 | [],_=>rfl
 | e::es,h=>by
  rw [List.map_cons,Fv fun y hy=>h y (by simp [hy])]
  congr 1
  have:=h e (by simp)
  obtain⟨k,v⟩:=e
  cases k<;>simp only [Kk]
  split
  ·rename_i h';exact absurd (by simp [h']) this
  ·rfl
theorem gW {u:List UInt8}{x v:j3}:∀{es:List (j3×j3)} {j:Nat},(es.map (·.1)).Nodup→es[j]?=some (.str u,v)→Y0 es (.str u) x j=es.map (Kk u x)
 | [],j,_,h=>by simp at h
 | e::es,0,hn,h=>by
  simp at h
  subst h
  simp only [List.map_cons,List.nodup_cons] at hn
  rw [dZ,List.map_cons,Fv fun y hy hk=>hn.1 (by rw [← hk];exact List.mem_map.2 ⟨y,hy,rfl⟩)]
  simp [Kk]
 | e::es,j+1,hn,h=>by
  simp only [List.map_cons,List.nodup_cons] at hn
  have h:es[j]?=some (.str u,v):=by simpa using h
  rw [eu,List.map_cons,gW hn.2 h]
  congr 1
  have hne:e.1≠.str u:=fun hk=>hn.1 (by rw [hk];exact List.mem_map.2 ⟨_,List.mem_of_getElem? h,rfl⟩)
  obtain⟨k,w⟩:=e
  cases k<;>simp only [Kk]
  split
  ·rename_i h';exact absurd (by simp [h']) hne
  ·rfl
theorem pX (hm:RM P G ι m w.heap){t kt e:TypeId}{kk:EqK}(hu:P.underlying t=some (.map kt e))(hk:wX P kt=some kk){id:Nat}{u:List UInt8}{x:j3}{es:List (j3×j3)}
  (hid:m.lim≤id) (hg:m.get id=some (.mapU es)) {r:Option (Nat×j3)} (hf:I6 (pR kk) (CR kk) (.str u) es=some r) (hxl:x.lt (m.nm ι)) {es2:List (j3×j3)}
  (hr:(r=none∧es2=es ++ [(.str u,x)])∨∃p,r=some p∧es2=Y0 es (.str u) x p.1):
  ∃w',(Instr.mapUpdate t (.map (some (ι id).b)) (l6 ι (.str u)) (l6 ι x)).run P w=.ok () w'∧O5 P G ι m w [⟨.undef,m.set id (.mapU es2)⟩] undef w':=by
 obtain⟨h1,⟨y,b,h2⟩,h3⟩:=bS hf
 obtain⟨L,ck,hobj,⟨hp,hs,hn⟩,hlt⟩:=hm.blk id _ hg
 have hget:=U6 (P:=P) hobj (by intro _ _ _ e;cases e)
 have hput:=fun o=>jM (P:=P) (o:=o) hobj (by intro _ _ _ e;cases e)
 obtain⟨es',p1,p2⟩:=qW _ hp
 obtain⟨r',q1,q2⟩:=OI hk p1 hs hn hf
 have hkv:(A8 ι es' 0).map wY=L.map wY:=by rw [nK];exact p2.symm
 have hfk:=dF (ι:=ι) hk q1 w
 rw [uw kt (l6 ι (.str u)) hkv] at hfk
 have hck:=vU (ι:=ι) hk h1 h2 false w
 have hle:∀b',ah b'=false→(m.nm ι).le ((m.set id b').nm ι):=fun b' hb'=>Mem.O6 (ι:=ι) (ι':=ι) (fun i hi=>Mem.gU (b':=b') hm.ok hg hb' i hi) fun _ _=>rfl
 have hkk:es≠[]→pR kk=eqStr:=fun hne=>by
  cases es with
  | nil=>exact absurd rfl hne
  | cons e0 es=>
   obtain⟨s0,hs0⟩:=hs e0 (by simp)
   rw [O9,hs0] at h3
   obtain⟨b0,hb0,_⟩:=r9 h3
   rw [(Fp hk hb0).1];rfl
 rcases hr with⟨rfl,rfl⟩ | ⟨p,rfl,rfl⟩
 ·obtain rfl:r'=none:=by cases r'<;>simp at q2 ⊢
  refine⟨{w with heap:=w.heap.setIfInBounds (ι id).b (.map (L ++ [(⟨l6 ι (.str u),l6 ι x,ck⟩:MapEntry)]).toArray (ck+1))},?_,_,List.mem_singleton.2 rfl,ι,Step.set hm hid hg rfl rfl (o:=.map (L ++ [(⟨l6 ι (.str u),l6 ι x,ck⟩:MapEntry)]).toArray (ck+1)) ⟨rfl,rfl,rfl,rfl⟩ ?_ (by intro _ _ _ h;cases h),trivial,rfl⟩
  ·simp only [Instr.mapUpdate,Sem.run_bind,run_underlying hu,hget,Result.andThen_ok,hck,hfk,jX,Option.map_none,hput]
   simp
  ·refine⟨_,_,aK hobj,⟨?_,fun e he=>?_,?_⟩,fun e he=>?_⟩
   ·simp only [List.map_append,List.map_cons,List.map_nil]
    exact hp.append_right _
   ·rcases List.mem_append.1 he with he | he
    ·exact hs e he
    ·rw [List.mem_singleton.1 he];exact⟨u,rfl⟩
   ·simp only [List.map_append,List.map_cons,List.map_nil]
    rw [List.nodup_append]
    refine⟨hn,by simp,?_⟩
    intro a ha b hb hab
    rw [List.mem_singleton.1 hb] at hab
    subst hab
    obtain⟨e0,he0,hk0⟩:=List.mem_map.1 ha
    have hin:(j3.str u,e0.2)∈es:=by rw [← hk0];exact he0
    obtain⟨j,g1,_⟩:=gQ es 0 hs hn hin
    rw [hkk (List.ne_nil_of_mem hin),g1] at h3
    cases h3
   ·rcases List.mem_append.1 he with he | he
    ·exact⟨j3.F4 (hle _ rfl) _ (hlt e he).1,j3.F4 (hle _ rfl) _ (hlt e he).2⟩
    ·rw [List.mem_singleton.1 he]
     exact⟨trivial,j3.F4 (hle _ rfl) _ hxl⟩
 ·obtain⟨p',rfl⟩:∃p',r'=some p':=by cases r' with
   | none=>simp at q2
   | some p'=>exact⟨p',rfl⟩
  have hne:es≠[]:=by rintro rfl;rw [P7] at h3;cases h3
  have he:=hkk hne
  have at1:∃v,es[p.1]?=some (.str u,v):=by
   obtain⟨j,e0,g1,g2,_,g4⟩:=dL h3
   rw [he] at g4
   obtain⟨a1,b1,g5,g6,g7⟩:=bf g4
   cases g5
   have:u=b1:=by simpa using g7.symm
   subst this
   exact⟨e0.2,by rw [g1,Nat.zero_add,g2,← g6]⟩
  have at2:∃v,es'[p'.1]?=some (.str u,v):=by
   obtain⟨j,e0,g1,g2,_,g4⟩:=dL q1
   rw [he] at g4
   obtain⟨a1,b1,g5,g6,g7⟩:=bf g4
   cases g5
   have:u=b1:=by simpa using g7.symm
   subst this
   exact⟨e0.2,by rw [g1,Nat.zero_add,g2,← g6]⟩
  obtain⟨v1,at1⟩:=at1
  obtain⟨v2,at2⟩:=at2
  have hL:∃le,L[p'.1]?=some le∧le.key=l6 ι (.str u):=by
   have:=congrArg (fun l=>l[p'.1]?) p2
   simp only [List.getElem?_map,at2,Option.map_some] at this
   cases hl:L[p'.1]? with
   | none=>rw [hl] at this;cases this
   | some le=>rw [hl] at this;simp at this;exact⟨le,rfl,this.1⟩
  obtain⟨le,hle1,hle2⟩:=hL
  have hsame:Instr.sameBits 10000 (l6 ι (.str u)) (l6 ι (.str u))=true:=by simp [l6,Instr.sameBits,dD]
  have hn':(es'.map (·.1)).Nodup:=(p1.map _).nodup_iff.2 hn
  refine⟨{w with heap:=w.heap.setIfInBounds (ι id).b (.map (L.modify p'.1 fun e=>{e with key:=l6 ι (.str u),val:=l6 ι x}).toArray ck)},?_,_,List.mem_singleton.2 rfl,ι,Step.set hm hid hg rfl rfl (o:=.map (L.modify p'.1 fun e=>{e with key:=l6 ι (.str u),val:=l6 ι x}).toArray ck) ⟨rfl,rfl,rfl,rfl⟩ ?_ (by intro _ _ _ h;cases h),trivial,rfl⟩
  ·have hkey:((L.toArray[p'.1]?).map (·.key)).getD (l6 ι (.str u))=l6 ι (.str u):=by
    simp [hle1,hle2]
   simp only [Instr.mapUpdate,Sem.run_bind,run_underlying hu,hget,Result.andThen_ok,hck,hfk,jX,Option.map_some,hkey,Instr.keyThatStays,hsame,if_true,Sem.run_pure,hput]
   rw [List.modify_toArray]
  ·refine⟨_,_,aK hobj,⟨?_,fun e he=>?_,?_⟩,fun e he=>?_⟩
   ·rw [show (L.modify p'.1 fun e=>{e with key:=l6 ι (.str u),val:=l6 ι x}).map (fun x=>(x.key,x.val))=(Y0 es' (.str u) x p'.1).map (fun e=>(l6 ι e.1,l6 ι e.2)) from xZ (.str u) x L es' p'.1 p2,gW hn' at2,gW hn at1]
    exact (p1.map _).map _
   ·rcases jN he with he | he
    ·rw [he];exact⟨u,rfl⟩
    ·exact hs e he
   ·rw [gW hn at1,List.map_map]
    rw [show ((fun x=>x.1)∘Kk u x:j3×j3→j3)=fun e=>e.1 from funext fun e=>IK u x e]
    exact hn
   ·rcases jN he with he | he
    ·rw [he];exact⟨trivial,j3.F4 (hle _ rfl) _ hxl⟩
    ·exact⟨j3.F4 (hle _ rfl) _ (hlt e he).1,j3.F4 (hle _ rfl) _ (hlt e he).2⟩
theorem yc {id:Nat}{k:j3}{es es2:List (j3×j3)}(h:m.get id=some (.map es)):iT m id k es2=one .undef (m.set id (.map es2)):=by
 unfold iT;rw [h]
theorem uE {id:Nat}{k:j3}{es es2:List (j3×j3)}(h:m.get id=some (.mapU es)):iT m id k es2=pO k fun _=>one .undef (m.set id (.mapU es2)):=by
 unfold iT;rw [h]
theorem oV (s:St P ι (m.nm ι) slots done ls env a.tmps)(hm:RM P G ι m w.heap){t kt e:TypeId}{kk:EqK}(hu:P.underlying t=some (.map kt e))(hk:wX P kt=some kk)
  {x k y:Operand} {x' k' y':Opd} (hx:J7 P slots done x=some x') (hkk:J7 P slots done k=some k') (hy:J7 P slots done y=some y')
  {cf:y8} {outs:List VM} (hv:trE (.mapSet kk x' k' y') cf ls env m=some outs):
  ∀o:Oper,(o.op=.mapUpdate t x k y∨o.op=.insert t x k y)→Does P a.eval o w (O5 P G ι m w outs):=by
 intro o ho
 rcases nH hv with⟨_,h⟩ | ⟨id,h1,h⟩
 ·cases h
 obtain⟨h2,h⟩:=dR h
 obtain⟨es,hg | hg,h⟩:=vV h
 case inr=>
  obtain⟨r,hf,hr⟩:=r9 h
  have h1:trO x' ls env=.map id:=h1
  obtain⟨e1,_⟩:=l9 s hx
  obtain⟨e2,e2'⟩:=l9 s hkk
  obtain⟨e3,e3'⟩:=l9 s hy
  have key:∃u,trO k' ls env=.str u∧∃es2,outs=[⟨.undef,m.set id (.mapU es2)⟩]∧((r=none∧es2=es ++ [(.str u,trO y' ls env)])∨∃p,r=some p∧es2=Y0 es (.str u) (trO y' ls env) p.1):=by
   cases r with
   | none=>
    have hr:iT m id (trO k' ls env) (dz es [(trO k' ls env,trO y' ls env)])=some outs:=hr
    rw [uE hg] at hr
    obtain⟨u,hu',hr⟩:=aZ hr
    cases hr
    rw [hu',L9]
    exact⟨u,rfl,_,rfl,.inl ⟨rfl,rfl⟩⟩
   | some p=>
    obtain⟨e0,_,hr⟩:=r9 hr
    obtain⟨_,hr⟩:=p9 hr
    rw [uE hg] at hr
    obtain⟨u,hu',hr⟩:=aZ hr
    cases hr
    rw [hu']
    exact⟨u,rfl,_,rfl,.inr ⟨p,rfl,rfl⟩⟩
  obtain⟨u,hku,es2,rfl,hcase⟩:=key
  rw [hku] at hf
  obtain⟨w',g1,g2⟩:=pX hm hu hk (bT h2) hg hf e3' hcase
  refine qZ (w':=w') ?_ g2
  rcases ho with ho | ho<;>simp [execOp,ho,e1,e2,e3,h1,hku,l6,g1]
  all_goals (simp only [l6] at g1;simp [g1])
 obtain⟨r,hf,hr⟩:=r9 h
 have h1:trO x' ls env=.map id:=h1
 obtain⟨e1,_⟩:=l9 s hx
 obtain⟨e2,e2'⟩:=l9 s hkk
 obtain⟨e3,e3'⟩:=l9 s hy
 have hr:Option.rec (one .undef (m.set id (.map (dz es [(trO k' ls env,trO y' ls env)])))) (fun p=>ob (sW p.1 es) fun e=>
   bi (Nat.beq (len' e.1.cells) (CR kk)) (one .undef (m.set id (.map (Y0 es (trO k' ls env) (trO y' ls env) p.1)))) none) r=some outs:=by
  cases r with
  | none=>rw [← yc (k:=trO k' ls env) hg];exact hr
  | some p=>simp only [← yc (k:=trO k' ls env) hg];exact hr
 obtain⟨w',g1,g2⟩:=rz hm hu hk (bT h2) hg hf e2' e3' hr
 refine qZ (w':=w') ?_ g2
 rcases ho with ho | ho<;>simp [execOp,ho,e1,e2,e3,h1,l6,g1]
theorem run_newObj (o:Obj)(w:World):(newObj o).run P w=.ok w.heap.size {w with heap:=w.heap.push o}:=by simp [newObj,Sem.run]
theorem BM (hm:RM P G ι m w.heap)(mp:Option Nat)(since:Nat)(hmp:∀x,mp=some x→m.has x):
  O5 P G ι m w [⟨.ptr m.next 0,m.new (.iter mp since [])⟩] (.pointer (some ⟨w.heap.size,0,none⟩)) {w with heap:=w.heap.push (.mapIter (mp.map fun x=>(ι x).b) since #[] since)}:=by
 have hl:=Laid.new hm.ok hm.limn (.iter mp since []) rfl
 refine⟨_,List.mem_singleton.2 rfl,ι.upd m.next ⟨w.heap.size,0,0,none⟩,Step.lay (w':={w with heap:=w.heap.push (.mapIter (mp.map fun x=>(ι x).b) since #[] since)}) hm hl (o:=.mapIter (mp.map fun x=>(ι x).b) since #[] since) ⟨rfl,rfl,rfl,rfl⟩ rfl rfl ?_ (by intro _ _ _ h;cases h),hl.self,by simp [l6,Inj.at]⟩
 refine⟨rfl,fun x hx=>hl.has x (hmp x hx),#[],since,?_,rfl,fun _=>rfl⟩
 show (w.heap.push _)[w.heap.size]?=_
 rw [Q7]
 cases mp with
 | none=>rfl
 | some x=>simp [ι.upd_ne ⟨w.heap.size,0,0,none⟩ (fun e=>hl.free (e▸hmp x rfl):x≠m.next)]
theorem Af (s:St P ι (m.nm ι) slots done ls env a.tmps)(hm:RM P G ι m w.heap){t k e:TypeId}(hu:P.underlying t=some (.map k e))
  {x:Operand} {x':Opd} (hx:J7 P slots done x=some x') {cf:y8} {outs:List VM} (hv:trE (.range x') cf ls env m=some outs):
  ∀o:Oper,o.op=.range t x→Does P a.eval o w (O5 P G ι m w outs):=by
 intro o ho
 obtain⟨e1,e1'⟩:=l9 s hx
 rcases nH hv with⟨h1,h⟩ | ⟨id,h1,h⟩
 ·cases h
  have h1:trO x' ls env=.nilMap:=h1
  refine E5 (v:=.pointer (some ⟨w.heap.size,0,none⟩)) ?_ (BM hm none 0 (by simp))
  simp [execOp,ho,Instr.range,run_underlying hu,e1,h1,l6]
 ·obtain⟨es,hg,h⟩:=uo h
  cases h
  have h1:trO x' ls env=.map id:=h1
  obtain⟨o1,o2⟩:=BJ hm hg
  rw [C8]
  refine E5 (v:=.pointer (some ⟨w.heap.size,0,none⟩)) ?_ (BM hm (some id) es.length (by intro x hx;cases hx;exact⟨_,hg,rfl⟩))
  simp [execOp,ho,Instr.range,run_underlying hu,e1,h1,l6,o1]
theorem Ag (n:Nat):∀l:List Nat,vF n l=l.contains n
 | []=>rfl
 | x::l=>by
  show bi (Nat.beq x n) true (vF n l)=_
  rw [Ag n l,oL,List.contains_cons]
  by_cases h:x=n
  ·subst h;simp
  ·rw [if_neg h,beq_eq_false_iff_ne.2 (fun e=>h e.symm),Bool.false_or]
theorem nO (m:Mem)(id mp since:Nat)(seen:List Nat)(e:j3×j3)(es:List (j3×j3))(i:Nat):
  nexts m id mp since seen (e::es) i=bi (vF i seen) (nexts m id mp since seen es (i+1))
   (⟨.tuple [.bool true,e.1,e.2],m.set id (.iter (some mp) since (i::seen))⟩::nexts m id mp since seen es (i+1)):=rfl
theorem rA {m:Mem}{id mp since:Nat}{seen:List Nat}:∀{es:List (j3×j3)} {i j:Nat} {e:j3×j3},es[j]?=some e→seen.contains (i+j)=false→
  (⟨.tuple [.bool true,e.1,e.2],m.set id (.iter (some mp) since ((i+j)::seen))⟩:VM)∈nexts m id mp since seen es i
 | [],i,j,e,h,_=>by simp at h
 | x::es,i,0,e,h,hs=>by
  simp at h;subst h
  rw [nO,Ag,show seen.contains i=false from hs]
  exact List.mem_cons_self
 | x::es,i,j+1,e,h,hs=>by
  rw [nO]
  have:=rA (es:=es) (i:=i+1) (j:=j) (m:=m) (id:=id) (mp:=mp) (since:=since) (by simpa using h) (by rw [show i+1+j=i+(j+1) from by omega];exact hs)
  rw [show i+1+j=i+(j+1) from by omega] at this
  cases vF i seen with
  | true=>exact this
  | false=>exact List.mem_cons_of_mem _ this
theorem uF {m:Mem}{id mp since:Nat}{seen:List Nat}:∀{es:List (j3×j3)} {i:Nat},(∀j,j<es.length→seen.contains (i+j)=true)→nexts m id mp since seen es i=[]
 | [],i,h=>rfl
 | e::es,i,h=>by
  rw [nO,Ag,show seen.contains i=true from h 0 (by simp)]
  exact uF fun j hj=>by rw [show i+1+j=i+(j+1) from by omega];exact h (j+1) (by simpa using hj)
theorem tL (n:Nat)(hn:0<n)(w:World):∃k w',(choose (.mapNext n)).run P w=.ok k w'∧k<n∧(w'=w∨w'={w with drawn:=w.drawn+1}):=by
 rw [run_choose]
 by_cases h:n≤1
 ·exact⟨0,w,by simp [Question.forced,h],hn,.inl rfl⟩
 ·exact⟨_,_,by simp only [Question.forced,h,decide_false,Bool.false_eq_true,if_false];rfl,Nat.mod_lt _ hn,.inr rfl⟩
theorem IL (hm:RM P G ι m w.heap){id mp since:Nat}{seen:List Nat}{es:List (j3×j3)}(hid:m.lim≤id)(hit:m.get id=some (.iter (some mp) since seen))
  (hes:m.get mp=some (.map es)) (hlen:es.length=since) (t:TypeId):
  ∃v w',(Instr.next (.pointer (some ⟨(ι id).b,0,none⟩)) false t).run P w=.ok v w'∧O5 P G ι m w (Br m (nexts m id mp since seen es 0)) v w':=by
 obtain⟨b1,b2,sn,st,b3,b4,b5⟩:=hm.blk id _ hit
 obtain⟨c1,c2⟩:=hm.blk mp _ hes
 have hst:st=since:=b5 (by simp)
 subst hst;subst hlen
 have hgi:=U6 (P:=P) b3 (by intro _ _ _ e;cases e)
 have hgm:=U6 (P:=P) c1 (by intro _ _ _ e;cases e)
 generalize hL:A8 ι es 0=L at *
 have hborn:∀x∈L,x.born<es.length:=by
  intro x hx
  obtain⟨j,hj⟩:=List.getElem?_of_mem hx
  rw [← hL,dU] at hj
  cases he:es[j]? with
  | none=>simp [he] at hj
  | some e=>simp [he] at hj;rw [← hj];simpa using (List.getElem?_eq_some_iff.1 he).1
 have hall:(!sn.isEmpty && !L.toArray.isEmpty&&L.toArray.all (fun e=>decide (e.born≥es.length)))=false:=by
  cases L with
  | nil=>simp
  | cons x L=>have:=hborn x (by simp);simp;intro _ h;omega
 have hold:∀l:List MapEntry,(∀x∈l,x∈L)→l.filter (fun e=>decide (e.born<es.length))=l:=fun l hl=>List.filter_eq_self.2 fun x hx=>by simpa using hborn x (hl x hx)
 have hnew:∀l:List MapEntry,(∀x∈l,x∈L)→l.filter (fun e=>decide (e.born≥es.length))=[]:=fun l hl=>List.filter_eq_nil_iff.2 fun x hx=>by have:=hborn x (hl x hx);simp;omega
 have hleft:=fun x (hx:x∈L.filter (fun e=>!sn.contains e.born))=>(List.mem_filter.1 hx).1
 simp only [Instr.next,Sem.run_bind,hgi,Result.andThen_ok,Option.map_some,hgm]
 rw [if_neg (by rw [hall];simp)]
 simp only [List.filter_toArray,hold _ hleft,hnew _ hleft]
 generalize hlf:L.filter (fun e=>!sn.contains e.born)=left at *
 generalize hc:((if left.toArray.isEmpty=true then #[none] else #[])++Array.map some (left.toArray ++ [].toArray):Array (Option MapEntry))=cands
 have hc':cands=(if left=[] then #[none] else (left.map some).toArray):=by
  rw [← hc];cases left<;>simp
 have hpos:0<cands.size:=by rw [hc'];split<;>simp_all;exact Nat.pos_of_ne_zero (by simp;assumption)
 obtain⟨k,w1,hk1,hk2,hk3⟩:=tL (P:=P) cands.size hpos w
 simp only [Sem.run_bind,hk1,Result.andThen_ok]
 have hheap:w1.heap=w.heap:=by rcases hk3 with rfl | rfl<;>rfl
 have hw1:w1.os=w.os∧w1.output=w.output∧w1.tape=w.tape:=by rcases hk3 with rfl | rfl<;>exact⟨rfl,rfl,rfl⟩
 have hin:∀x,x∈sn.toList↔x∈seen:=fun x=>by rw [← b4];simp
 by_cases hl0:left=[]
 ·rw [if_pos hl0] at hc'
  have hk0:k=0:=by rw [hc'] at hk2;simpa using hk2
  rw [hc',hk0]
  have hnone:nexts m id mp es.length seen es 0=[]:=uF fun j hj=>by
   have hx:(A8 ι es 0)[j]?=some {key:=l6 ι es[j].1,val:=l6 ι es[j].2,born:=0+j}:=by rw [dU];simp [hj]
   have hmem:({key:=l6 ι es[j].1,val:=l6 ι es[j].2,born:=0+j}:MapEntry)∈L:=by rw [← hL];exact List.mem_of_getElem? hx
   rw [hl0] at hlf
   have:=List.filter_eq_nil_iff.1 hlf _ hmem
   simp at this ⊢
   rw [← hin];simpa using this
  refine⟨.tuple #[.bool false],w1,by simp,⟨.tuple [.bool false],m⟩,by rw [hnone];exact List.mem_singleton.2 rfl,ι,?_,by simp [j3.lt,ltL],by simp [l6,l8]⟩
  rcases hk3 with rfl | rfl
  ·exact Step.refl hm
  ·exact Step.drew hm _
 ·rw [if_neg hl0] at hc'
  have hkl:k<left.length:=by rw [hc'] at hk2;simpa using hk2
  have hget:cands[k]?=some (some left[k]):=by rw [hc'];simp [hkl]
  have hmem:left[k]∈L∧sn.contains left[k].born=false:=by
   have:=List.mem_filter.1 (show left[k]∈L.filter (fun e=>!sn.contains e.born) from by rw [hlf];exact List.getElem_mem hkl)
   simpa using this
  generalize left[k]=x at *
  obtain⟨j,hj⟩:=List.getElem?_of_mem hmem.1
  rw [← hL,dU] at hj
  cases he:es[j]? with
  | none=>simp [he] at hj
  | some e=>
   simp [he] at hj
   subst hj
   have hnc:seen.contains (0+j)=false:=by
    have h2:=hmem.2
    rw [Bool.eq_false_iff] at h2 ⊢
    intro hc2;apply h2
    simp at hc2 ⊢
    have:=(hin j).2 hc2
    simpa using this
   have hm1:(nexts m id mp es.length seen es 0)≠[]:=List.ne_nil_of_mem (rA he hnc)
   have hor:Br m (nexts m id mp es.length seen es 0)=nexts m id mp es.length seen es 0:=by
    cases h:nexts m id mp es.length seen es 0 with
    | nil=>exact absurd h hm1
    | cons=>rfl
   have hput:=jM (P:=P) (w:=w1) (o:=.mapIter (some (ι mp).b) es.length (sn.push j) es.length) (by rw [hheap];exact b3) (by intro _ _ _ e;cases e)
   refine⟨.tuple #[.bool true,l6 ι e.1,l6 ι e.2],{w1 with heap:=w1.heap.setIfInBounds (ι id).b (.mapIter (some (ι mp).b) es.length (sn.push j) es.length)},?_,_,by rw [hor];exact rA he hnc,ι,Step.set (w':={w1 with heap:=w1.heap.setIfInBounds (ι id).b (.mapIter (some (ι mp).b) es.length (sn.push j) es.length)}) hm hid hit rfl rfl (o:=.mapIter (some (ι mp).b) es.length (sn.push j) es.length) ⟨by rw [hheap],hw1.1,hw1.2.1,hw1.2.2⟩ ?_ (by intro _ _ _ h;cases h),?_,?_⟩
   ·rw [hget]
    simp [hput]
   ·refine⟨b1,fun x hx=>?_,sn.push j,es.length,?_,?_,fun _=>rfl⟩
    ·cases hx;exact Mem.gU hm.ok hit rfl mp ⟨_,hes,rfl⟩
    ·simpa using aK b3
    ·simp [b4]
   ·have hlt:=c2 e (List.mem_of_getElem? he)
    have hle:=Mem.O6 (ι:=ι) (ι':=ι) (fun i hi=>Mem.gU (b':=.iter (some mp) es.length ((0+j)::seen)) hm.ok hit rfl i hi) fun _ _=>rfl
    exact⟨trivial,j3.F4 hle _ hlt.1,j3.F4 hle _ hlt.2,trivial⟩
   ·simp [l6,l8]
theorem Dh (s:St P ι (m.nm ι) slots done ls env a.tmps)(hm:RM P G ι m w.heap)
  {x:Operand} {x':Opd} (hx:J7 P slots done x=some x') {cf:y8} {outs:List VM} (hv:trE (.next x') cf ls env m=some outs):
  ∀o:Oper,o.op=.next x false→Does P a.eval o w (O5 P G ι m w outs):=by
 intro o ho
 obtain⟨e1,e1'⟩:=l9 s hx
 obtain⟨id,off,h1,h⟩:=V6 hv
 have h1:trO x' ls env=.ptr id off:=h1
 obtain⟨h0,h⟩:=p9 h
 obtain rfl:off=0:=Nat.eq_of_beq_eq_true h0
 obtain⟨hid,h⟩:=dR h
 rcases vX h with⟨sn',l',hit,h⟩ | ⟨mp,since,seen,hit,h⟩
 ·cases h
  obtain⟨b1,b2,sn,st,b3,b4,b5⟩:=hm.blk id _ hit
  have hgi:=U6 (P:=P) b3 (by intro _ _ _ e;cases e)
  have hev:a.eval x=.pointer (some ⟨(ι id).b,0,none⟩):=by rw [e1,h1];simp [l6,Inj.at,b1,hm.spot _ _ hit rfl]
  refine E5 (v:=.tuple #[.bool false]) (w':=w) ?_ ⟨_,List.mem_singleton.2 rfl,ι,Step.refl hm,by simp [j3.lt,ltL],by simp [l6,l8]⟩
  simp [execOp,ho,hev,Instr.next,hgi]
 ·obtain⟨es,hes,h⟩:=uo h
  obtain⟨h2,h⟩:=p9 h
  have h2:es.length=since:=by rw [← C8];exact Nat.eq_of_beq_eq_true h2
  cases h
  obtain⟨b1,_⟩:=hm.blk id _ hit
  have hev:a.eval x=.pointer (some ⟨(ι id).b,0,none⟩):=by rw [e1,h1];simp [l6,Inj.at,b1,hm.spot _ _ hit rfl]
  obtain⟨v,w',g1,g2⟩:=IL hm (bT hid) hit hes h2 o.type
  refine E5 (v:=v) (w':=w') ?_ g2
  simp [execOp,ho,hev,g1]
end
section
variable {P:Program}{G:Mem}{ι:Inj}{m:Mem}{w:World}{slots:List Nat}{done:List (Option Nat)}{ls:List j3}{env:T j3}{a:Act}
theorem gq (l:List UInt8):bytesOf l=l.map fun b=>j3.int .u8 b.toNat:=by
 induction l with
 | nil=>rfl
 | cons b l ih=>simp [bytesOf,ih]
theorem kL {v:j3}{n:Nat}(h:lenOf v=some n)(w:World):(Builtin.lenOf (l6 ι v)).run P w=.ok n w:=by
 cases v<;>simp only [lenOf,Option.some.injEq,reduceCtorEq] at h<;>subst h<;>simp [l6,Builtin.lenOf,gJ]
theorem aL (hm:RM P G ι m w.heap){es n:Nat}{v:j3}{l:List j3}(h:cK m es n v=some l):
  (Builtin.firstCells es n (l6 ι v)).run P w=.ok (l8 ι l).toArray w∧ltL (m.nm ι) l:=by
 cases v<;>simp only [cK,Option.some.injEq,reduceCtorEq] at h
 ·subst h
  refine⟨?_,by rw [gq,R5];intro v hv;obtain⟨b,_,rfl⟩:=List.mem_map.1 hv;simp [j3.lt]⟩
  simp only [l6,Builtin.firstCells,Sem.run_pure]
  congr 1
  simp [gq,N8,l6,Function.comp_def,ByteArray.data_extract,List.extract_eq_take_drop]
 ·subst h
  exact⟨by simp [l6,Builtin.firstCells,l8],trivial⟩
 ·obtain⟨g1,g2,g3⟩:=bL hm h
  exact⟨Z0 g1 g3,g2⟩
 ·obtain⟨g1,g2,g3⟩:=bL hm h
  exact⟨Z0 g1 g3,g2⟩
theorem Di (s:St P ι (m.nm ι) slots done ls env a.tmps)(hm:RM P G ι m w.heap){c:Call}{t u e:TypeId}{x y:Operand}{x' y':Opd}{es:Nat}(hc:c.callee=.builtin .copy)
  (hts:c.argTypes.toList=[t,u]) (has:c.args.toList=[x,y]) (hu:P.underlying t=some (.slice e)) (hes:aS P e=some es)
  (hx:J7 P slots done x=some x') (hy:J7 P slots done y=some y') {cf:y8} {outs:List VM} (hv:trE (.copy es x' y') cf ls env m=some outs):
  ∀o:Oper,o.op=.call c→Does P a.eval o w (O5 P G ι m w outs):=by
 intro o ho
 have hts:c.argTypes=#[t,u]:=by rw [← hts,Array.toArray_toList]
 have has:c.args=#[x,y]:=by rw [← has,Array.toArray_toList]
 obtain⟨e1,_⟩:=l9 s hx
 obtain⟨e2,_⟩:=l9 s hy
 obtain⟨n,h1,hv⟩:=r9 hv
 have hl:=kL (P:=P) (ι:=ι) h1 w
 have go:∀id off len cap,l6 ι (trO x' ls env)=.slice (some (ι.at id off)) len cap→KP.go es m n id off len (trO y' ls env)=some outs→Does P a.eval o w (O5 P G ι m w outs):=by
  intro id off len cap h2 h
  obtain⟨cells,h3,h⟩:=r9 h
  obtain⟨g1,g2⟩:=aL hm h3
  obtain⟨m',w',hk,hrun,hstep⟩:=dY hm h g2
  cases hk
  refine E5 (v:=.int .i64 (Nat.min n len)) (w':=w') ?_ ⟨_,List.mem_singleton.2 rfl,ι,hstep,trivial,rfl⟩
  simp [execOp,ho,resolve,hc,has,hts,invoke,builtin,Builtin.copy_,run_underlying hu,e1,e2,h2,hl,run_sizeOf hes,g1,hrun,goInt]
 rcases lN hv with⟨h2,h⟩ | ⟨id,off,len,cap,h2,h⟩ | ⟨id,off,len,cap,h2,h⟩
 ·cases h
  have h2:trO x' ls env=.nilSlice:=h2
  have hf:∃C,(Builtin.firstCells es 0 (l6 ι (trO y' ls env))).run P w=.ok C w:=by
   have hz:cK m es 0 (trO y' ls env)=some []:=by
    generalize trO y' ls env=v at h1
    have h0:∀i off,I7 m i off 0=some []:=fun i off=>rfl
    cases v<;>simp only [lenOf,reduceCtorEq] at h1<;>simp [cK,bytesOf,h0]
   exact⟨_,(aL hm hz).1⟩
  obtain⟨C,hC⟩:=hf
  refine E5 (v:=.int .i64 0) (w':=w) ?_ ⟨_,List.mem_singleton.2 rfl,ι,Step.refl hm,trivial,rfl⟩
  simp [execOp,ho,resolve,hc,has,hts,invoke,builtin,Builtin.copy_,run_underlying hu,e1,e2,h2,hl,run_sizeOf hes,l6,goInt,hC]
 ·have h2:trO x' ls env=.slice id off len cap:=h2
  exact go id off len cap (by rw [h2];rfl) h
 ·have h2:trO x' ls env=.sliceU id off len cap:=h2
  exact go id off len (((ι id).cap-off) / cap) (by rw [h2];simp only [l6]) h
theorem oW (z:List j3)(k:Nat):Builtin.zeroCells (l8 ι z).toArray k=(l8 ι (I4 z k)).toArray:=by
 have:=vZ (ι:=ι) z k
 rw [← this]
 simp [Builtin.zeroCells]
theorem Ah (s:St P ι (m.nm ι) slots done ls env a.tmps)(hm:RM P G ι m w.heap){c:Call}{t e:TypeId}{x:Operand}{x':Opd}{z:List j3}(hc:c.callee=.builtin .clear)
  (hts:c.argTypes.toList=[t]) (has:c.args.toList=[x]) (hu:P.underlying t=some (.slice e)) (hz:nE P e=some z)
  (hx:J7 P slots done x=some x') {cf:y8} {outs:List VM} (hv:trE (.clear z x') cf ls env m=some outs):
  ∀o:Oper,o.op=.call c→Does P a.eval o w (O5 P G ι m w outs):=by
 intro o ho
 have hts:c.argTypes=#[t]:=by rw [← hts,Array.toArray_toList]
 have has:c.args=#[x]:=by rw [← has,Array.toArray_toList]
 obtain⟨e1,_⟩:=l9 s hx
 obtain⟨zv,hz1,hz2,hz3⟩:=Q5 (P:=P) (w:=w) hz ι
 have go:∀id off len cap,l6 ι (trO x' ls env)=.slice (some (ι.at id off)) len cap→bN m id off (I4 z len) (fun m'=>one (.tuple []) m')=some outs→Does P a.eval o w (O5 P G ι m w outs):=by
  intro id off len cap h2 h
  obtain⟨m',w',hk,hrun,hstep⟩:=dY hm h (jK (hz3 _) len)
  cases hk
  refine E5 (v:=.tuple #[]) (w':=w') ?_ ⟨_,List.mem_singleton.2 rfl,ι,hstep,by simp [j3.lt,ltL],by simp [l6,l8]⟩
  cases len with
  | zero=>
   rw [oQ] at hrun
   have:w'=w:=by simp [l8,storeCells] at hrun;exact hrun.symm
   subst this
   simp [execOp,ho,resolve,hc,has,hts,invoke,builtin,Builtin.clear_,run_underlying hu,e1,h2]
  | succ len=>simp [execOp,ho,resolve,hc,has,hts,invoke,builtin,Builtin.clear_,run_underlying hu,e1,h2,hz1,hz2,oW,hrun]
 rcases lN hv with⟨h2,h⟩ | ⟨id,off,len,cap,h2,h⟩ | ⟨id,off,len,cap,h2,h⟩
 ·cases h
  have h2:trO x' ls env=.nilSlice:=h2
  refine E5 (v:=.tuple #[]) (w':=w) ?_ ⟨_,List.mem_singleton.2 rfl,ι,Step.refl hm,by simp [j3.lt,ltL],by simp [l6,l8]⟩
  simp [execOp,ho,resolve,hc,has,hts,invoke,builtin,Builtin.clear_,run_underlying hu,e1,h2,l6]
 ·have h2:trO x' ls env=.slice id off len cap:=h2
  exact go id off len cap (by rw [h2];rfl) h
 ·have h2:trO x' ls env=.sliceU id off len cap:=h2
  exact go id off len (((ι id).cap-off) / cap) (by rw [h2];simp only [l6]) h
end
section
variable {P:Program}{G:Mem}{ι:Inj}{m:Mem}{w:World}
theorem Step.OL {G:Mem}(h:RM P G ι m w.heap){id:Nat}{b b':Blk}(hid:m.lim≤id)(hg:m.get id=some b)(hl:K8 b=true)(hb':ah b'=false){o:Obj}{w':World}
  (hw:Put w w' (ι id).b o) {l:Loc} (hlb:l.b=(ι id).b) (hls:l.spot=none)
  (hblk:Z9 P (ι.upd m.next l) ((((m.set id .dead).new b')).nm (ι.upd m.next l)) (w.heap.setIfInBounds (ι id).b o) l b')
  (hf:∀c e fz,o=.cells c e fz→∀k,k<c.size→¬ (fz.1≤k∧k<fz.2)):
  Step P G ι m w (ι.upd m.next l) ((m.set id .dead).new b') w':=by
 have hlt:=Mem.y9 h.ok hg
 have hget₁:=Mem.K4 h.ok hlt .dead
 have hok₁:T.Ok (m.set id .dead).t (m.set id .dead).next:=h.ok.put id .dead hlt
 have hget:∀i,((m.set id .dead).new b').get i=if i=m.next then some b' else if i=id then some .dead else m.get i:=fun i=>by
  rw [Mem.D7 hok₁,hget₁];rfl
 have hne:∀i x,m.get i=some x→i≠m.next:=fun i x hx e=>by have:=Mem.y9 h.ok hx;omega
 have hext:∀j,m.has j→ι.upd m.next l j=ι j:=fun j ⟨x,hx,_⟩=>ι.upd_ne l (hne j x hx)
 have hhas:∀i,m.has i→((m.set id .dead).new b').has i:=fun i ⟨x,hx,hv⟩=>by
  by_cases he:i=id
  ·exact⟨.dead,by rw [hget,if_neg (hne i x hx),if_pos he],rfl⟩
  ·exact⟨x,by rw [hget,if_neg (hne i x hx),if_neg he];exact hx,hv⟩
 have hown:=h.own id b hid hg hl
 have hbnd:(ι id).b<w.heap.size:=R9 (h.blk id b hg) hl
 have hlive:∀i x,((m.set id .dead).new b').get i=some x→K8 x=true→(i=m.next∧x=b')∨(i≠m.next∧i≠id∧m.get i=some x):=fun i x hx hlx=>by
  rw [hget] at hx
  split at hx
  ·cases hx;exact .inl ⟨by assumption,rfl⟩
  ·split at hx
   ·cases hx;cases hlx
   ·exact .inr ⟨by assumption,by assumption,hx⟩
 refine⟨⟨hok₁.push b',?_,?_,h.glim,Nat.le_succ_of_le h.limn,h.gle,fun i hi=>by rw [hget,if_neg (by have:=h.glim;have:=h.limn;omega),if_neg (by have:=h.glim;omega)];exact h.base i hi,fun i hi=>hhas i (h.ghas i hi),fun i hi=>by rw [hext i (h.ghas i hi)];exact h.glob i hi,fun i x hx hlx=>by
   rcases hlive i x hx hlx with⟨rfl,_⟩ | ⟨h1,_,h3⟩
   ·rw [ι.G6];exact hls
   ·rw [ι.upd_ne l h1];exact h.spot i x h3 hlx,h.EX fun b₁ hb₁ ho=>by
   rw [hw.heap,getElem?_set_ne]
   intro e
   exact ho ⟨id,b,hid,hg,hl,e⟩⟩,hext,hhas,Nat.le_succ _,rfl,?_,by rw [hw.heap];simp,?_,?_,hw.os,hw.out,hw.tape⟩
 ·intro i x hx
  rw [hget] at hx
  rw [hw.heap]
  split at hx
  ·rename_i e;subst e;cases hx;simpa using hblk
  ·rename_i e
   split at hx
   ·cases hx;trivial
   ·rename_i e2
    rw [ι.upd_ne l e]
    exact (h.blk i x hx).mono (n:=m.nm ι) hext (Mem.O6 hhas hext) (fun hlx=>getElem?_set_ne _ _ _ _ (fun e'=>hown.alone i x e2 hx hlx e'.symm))
 ·intro i x hi hx hlx
  have hi:m.lim≤i:=hi
  rcases hlive i x hx hlx with⟨rfl,rfl⟩ | ⟨h1,h2,h3⟩
  ·refine⟨fun j y hj hy hly=>?_,fun c e fz hc=>?_⟩
   ·rcases hlive j y hy hly with⟨h4,_⟩ | ⟨h4,h5,h6⟩
    ·exact absurd h4 hj
    ·rw [ι.upd_ne l h4,ι.G6,hlb];exact hown.alone j y h5 h6 hly
   ·rw [ι.G6,hlb,hw.heap,Array.getElem?_setIfInBounds_self_of_lt hbnd] at hc
    exact hf c e fz (Option.some.inj hc)
  ·refine⟨fun j y hj hy hly=>?_,fun c e fz hc=>?_⟩
   ·rw [ι.upd_ne l h1]
    rcases hlive j y hy hly with⟨rfl,_⟩ | ⟨h4,h5,h6⟩
    ·rw [ι.G6,hlb];exact (h.own i x hi h3 hlx).alone id b (fun e=>h2 e.symm) hg hl
    ·rw [ι.upd_ne l h4];exact (h.own i x hi h3 hlx).alone j y hj h6 hly
   ·rw [ι.upd_ne l h1,hw.heap,getElem?_set_ne _ _ _ _ (fun e'=>hown.alone i x h2 h3 hlx e'.symm)] at hc
    exact (h.own i x hi h3 hlx).free c e fz hc
 ·intro i hi
  rw [hget,if_neg (by have:=h.limn;omega),if_neg (by omega)]
 ·intro b₁ _ ho
  rw [hw.heap,getElem?_set_ne]
  intro e
  exact ho ⟨id,b,hid,hg,hl,e⟩
 ·rintro b₁ ⟨i,x,hi,hx,hlx,rfl⟩
  rcases hlive i x hx hlx with⟨rfl,rfl⟩ | ⟨h1,h2,h3⟩
  ·rw [ι.G6,hlb];exact .inl ⟨id,b,hid,hg,hl,rfl⟩
  ·rw [ι.upd_ne l h1];exact .inl ⟨i,x,hi,h3,hlx,rfl⟩
def Fits (P:Program)(ι:Inj)(m:Mem)(es need:Nat)(cells:List j3)(b':Blk):Prop:=
 ah b'=false∧∀(ι':Inj) (n':Nm) (h':Array Obj) (l':Loc) (c':Array Value) (e:TypeId) (fz:Nat×Nat),(m.nm ι).le n'→(∀i,m.has i→ι' i=ι i)→
  h'[l'.b]?=some (.cells c' e fz)→l'.base+l'.cap≤c'.size→need*es≤l'.cap→(∀(j:Nat) (v:j3),cells[j]?=some v→c'[l'.base+j]?=some (l6 ι v))→Z9 P ι' n' h' l' b'
theorem mg {es need:Nat}{cells:List j3}{rl:List (List j3)}(hr:rowsOf es need cells=some rl)(hlt:ltL (m.nm ι) cells):Fits P ι m es need cells (.cells es need (T.ofList rl)):=by
 refine⟨rfl,fun ι' n' h' l' c' e fz hle hext hc hcap hneed hat=>?_⟩
 obtain⟨h1,h2,h3⟩:=au _ _ _ _ hr
 refine⟨c',e,fz,hc,hcap,⟨hneed,rl.length,by omega,T.Y9 rl,by rw [← h2];exact lI (T.Y9 rl)⟩,fun i hi=>?_⟩
 obtain⟨row,g1,g2,g3⟩:=h3 i hi
 refine⟨row,by rw [T.M9];exact g1,g2,R5.2 fun v hv=>?_,fun j hj=>?_⟩
 ·obtain⟨j,hj⟩:=List.getElem?_of_mem hv
  have hj':j<es:=Nat.lt_of_lt_of_eq (List.getElem?_eq_some_iff.1 hj).1 g2
  rw [g3 j hj'] at hj
  exact j3.F4 hle _ (E8 hlt (List.mem_of_getElem? hj))
 ·rw [g3 j hj]
  have hb:i*es+j<cells.length:=by
   rw [h1]
   calc i*es+j<i*es+es:=by omega
    _=(i+1)*es:=by rw [Nat.succ_mul]
    _≤need*es:=Nat.mul_le_mul_right _ hi
  have hv:=List.getElem?_eq_getElem hb
  rw [hat _ _ hv,hv,Option.map_some,F7 (n:=m.nm ι) hext _ (E8 hlt (List.mem_of_getElem? hv))]
theorem Fw (hm:RM P G ι m w.heap){id es k:Nat}{rows:T (List j3)}(hg:m.get id=some (.cells es k rows)):∀len,len≤k→
  ∃l:List j3,l.length=len*es∧ltL (m.nm ι) l∧gM ι w id 0 l∧∀i,i<len→∃row,rows.get i=some row∧row.length=es∧∀j,j<es→l[i*es+j]?=row[j]?:=by
 intro len
 induction len with
 | zero=>intro _;exact⟨[],by simp,trivial,fun j v hv=>by simp at hv,fun i hi=>by omega⟩
 | succ len ih=>
  intro hle
  obtain⟨l,h1,h2,h3,h4⟩:=ih (by omega)
  obtain⟨c,e,fz,_,_,_,hb⟩:=hm.blk id _ hg
  obtain⟨row,g1,g2,g3,_⟩:=hb len (by omega)
  refine⟨l++row,by simp [h1,g2,Nat.succ_mul],R5.2 fun v hv=>?_,fun j v hv=>?_,fun i hi=>?_⟩
  ·rcases List.mem_append.1 hv with hv | hv
   ·exact E8 h2 hv
   ·exact E8 g3 hv
  ·by_cases hj:j<l.length
   ·rw [List.getElem?_append_left hj] at hv;exact h3 j v hv
   ·rw [List.getElem?_append_right (by omega)] at hv
    have hjr:=(List.getElem?_eq_some_iff.1 hv).1
    have:=(Aa hm hg (i:=len) (by omega) (by omega:j-l.length<es) g1 hv).1
    rwa [show len*es+(j-l.length)=0+j from by omega] at this
  ·by_cases hil:i<len
   ·obtain⟨row',q1,q2,q3⟩:=h4 i hil
    refine⟨row',q1,q2,fun j hj=>?_⟩
    have:i*es+j<l.length:=by
     rw [h1]
     calc i*es+j<i*es+es:=by omega
      _=(i+1)*es:=by rw [Nat.succ_mul]
      _≤len*es:=Nat.mul_le_mul_right _ hil
    rw [List.getElem?_append_left this];exact q3 j hj
   ·obtain rfl:i=len:=by omega
    refine⟨row,g1,g2,fun j hj=>?_⟩
    rw [List.getElem?_append_right (by omega)]
    congr 1;omega
theorem IQ (hm:RM P G ι m w.heap){id es k len:Nat}{rows:T (List j3)}(hg:m.get id=some (.cells es k rows))(hlen:len≤k)(hpos:0<len){l new:List j3}(hl:l.length=len*es)
  (hrows:∀i,i<len→∃row,rows.get i=some row∧row.length=es∧∀j,j<es→l[i*es+j]?=row[j]?) (hnl:new.length=es) (hlt:ltL (m.nm ι) l) (hnew:ltL (m.nm ι) new):
  Fits P ι m es (len+1) (l++new) (.cells es (len+1) (rows.put len new)):=by
 obtain⟨_,_,_,_,_,⟨_,N,hN,hok,_⟩,_⟩:=hm.blk id _ hg
 refine⟨rfl,fun ι' n' h' l' c' e fz hle hext hc hcap hneed hat=>⟨c',e,fz,hc,hcap,⟨hneed,?_⟩,fun i hi=>?_⟩⟩
 ·rcases Nat.lt_or_ge len N with h | h
  ·exact⟨N,by omega,hok.put _ _ h,fun ty h1=>by omega⟩
  ·obtain rfl:len=N:=by omega
   exact⟨len+1,Nat.le_refl _,hok.push _,fun ty h1=>by omega⟩
 ·by_cases hil:i=len
  ·subst hil
   refine⟨new,T.N7 hok _ _ (by omega),hnl,R8 hle _ hnew,fun j hj=>?_⟩
   have hv:new[j]?=some new[j]:=List.getElem?_eq_getElem (by omega)
   have:(l++new)[i*es+j]?=some new[j]:=by
    rw [List.getElem?_append_right (by omega),← hv];congr 1;omega
   rw [hat _ _ this,hv,Option.map_some,F7 (n:=m.nm ι) hext _ (E8 hnew (List.mem_of_getElem? hv))]
  ·obtain⟨row,q1,q2,q3⟩:=hrows i (by omega)
   have hin:∀j,j<es→i*es+j<l.length:=fun j hj=>by
    rw [hl]
    calc i*es+j<i*es+es:=by omega
     _=(i+1)*es:=by rw [Nat.succ_mul]
     _≤len*es:=Nat.mul_le_mul_right _ (by omega)
   refine⟨row,by rw [T.O8 hok _ _ _ (by omega) (fun e=>hil e.symm)];exact q1,q2,R5.2 fun v hv=>?_,fun j hj=>?_⟩
   ·obtain⟨j,hj⟩:=List.getElem?_of_mem hv
    have hj':j<es:=Nat.lt_of_lt_of_eq (List.getElem?_eq_some_iff.1 hj).1 q2
    rw [← q3 j hj'] at hj
    exact j3.F4 hle _ (E8 hlt (List.mem_of_getElem? hj))
   ·have hv:l[i*es+j]?=some (l[i*es+j]'(hin j hj)):=List.getElem?_eq_getElem (hin j hj)
    have h2:(l++new)[i*es+j]?=some (l[i*es+j]'(hin j hj)):=by rw [List.getElem?_append_left (hin j hj)];exact hv
    rw [hat _ _ h2,← q3 j hj,hv,Option.map_some,F7 (n:=m.nm ι) hext _ (E8 hlt (List.mem_of_getElem? hv))]
end
section
variable {P:Program}{G:Mem}{ι:Inj}{m:Mem}{w:World}{a:Act}
theorem yg (need:Nat):∀(r c:Nat),Builtin.growBy need r c≤max c (need+(need+768) / 4)
 | 0,c=>by simp only [Builtin.growBy];omega
 | r+1,c=>by
  simp only [Builtin.growBy]
  split
  ·omega
  ·have:=yg need r (c+(c+768) / 4);omega
theorem nextslicecap_le (need old:Nat)(h:old<need):Builtin.nextslicecap need old≤2*need+2048:=by
 unfold Builtin.nextslicecap
 split
 ·omega
 ·split
  ·omega
  ·have:=yg need 4 old;omega
def Fx:TypeDesc→Bool
 | .int _=>true
 | _=>false
def TG (P:Program)(w:World)(zs:Bool)(by' n:Nat)(x:Value):Prop:=
 (zs=false∧(Builtin.lenOf x).run P w=.ok n w)∨(zs=true∧(∃k,x=.int k n)∧n<9223372036854775808∧n*by'≤281474976710656)
def eB (zs:Bool)(e:TypeId)(es sLen sCap:Nat)(base:Option Addr)(x:Value)(n:Nat):Sem Value:=do
 let appended:Sem (Array Value):=
  if !zs then Builtin.firstCells es n x
  else if n*es=0 then pure #[]
  else do pure (Builtin.zeroCells (← zeroValue e).cells n)
 let need:=sLen+n
 if need≤sCap then
  let new ← appended
  if let some a:=base then storeCells (a.add (sLen*es)) new.toList
  pure (.slice base need sCap)
 else
  if (need:Int)>IntKind.i64.max∧(zs∨(← typeInfo e).bytes=0) then runtimePanic (.error "growslice: len out of range")
  if Builtin.nextslicecap need sCap*(← typeInfo e).bytes>2^48 then (if zs then runtimePanic (.error "growslice: len out of range") else do
   if !(← Builtin.mayShare es sLen n base x) then mark .noRoom
   unsupported (.resourceLimit "append: a slice or a string whose bytes no memory bears"))
  let newCap ← choose (.appendCap need sCap e)
  askRoom (newCap*(← typeInfo e).bytes)
  let old ← Builtin.firstCells es sLen (.slice base sLen sCap)
  let new ← appended
  let rest:=Builtin.zeroCells (← zeroValue e).cells (newCap-need)
  pure (.slice (some (← newRow e (old++new++rest))) need newCap)
theorem rD {t u e T:TypeId}{d:TypeDesc}{es by' n sLen sCap:Nat}{base:Option Addr}{x:Value}(hu:P.underlying t=some (.slice e))(hes:aS P e=some es)(hd:P.underlying u=some d)
  (hby:Z5 P e=some by') (hn:TG P w (Fx d) by' n x):
  (Builtin.append_ #[t,u] T #[.slice base sLen sCap,x]).run P w=(eB (Fx d) e es sLen sCap base x n).run P w:=by
 obtain⟨info,hi1,hi2⟩:=lK (w:=w) hby
 rcases hn with⟨hz,h1⟩ | ⟨hz,⟨k,rfl⟩,h2,h3⟩
 ·cases d with
  | int=>cases hz
  | _=>
   simp only [Builtin.append_,List.getElem?_toArray,List.getElem?_cons_zero,List.getElem?_cons_succ,Sem.run_bind,run_underlying hu,Result.andThen_ok,run_sizeOf hes,run_underlying hd,Sem.run_pure,Bool.false_eq_true,if_false,h1,eB,Fx]
   rfl
 ·cases d with
  | int k'=>
   have w1:IntKind.i64.wrap (n:Int)=n:=qJ _ ⟨by omega,by omega⟩
   have hbig:¬ ((n:Int)*(info.bytes:Int)>2^48):=by
    rw [hi2]
    have:((n*by':Nat):Int)=(n:Int)*(by':Int):=by simp
    rw [← this]
    have h48:(2:Int)^48=281474976710656:=rfl
    rw [h48];omega
   have hneg:¬ ((n:Int)<0):=by omega
   simp only [Builtin.append_,List.getElem?_toArray,List.getElem?_cons_zero,List.getElem?_cons_succ,Sem.run_bind,run_underlying hu,Result.andThen_ok,run_sizeOf hes,run_underlying hd,Sem.run_pure,if_true,asInt,asIntOf,w1,hneg,if_false,hi1,hbig,Int.toNat_natCast,eB,Fx]
   rfl
  | _=>cases hz
theorem bU {zs:Bool}{e:TypeId}{es sLen sCap n:Nat}{base:Option Addr}{x:Value}{new:List Value}{w':World}(hfit:sLen+n≤sCap)
  (hnew:(if (!zs)=true then Builtin.firstCells es n x else if n*es=0 then pure #[] else do pure (Builtin.zeroCells (← zeroValue e).cells n):Sem (Array Value)).run P w=.ok new.toArray w)
  (hst:match base with | some ad=>(storeCells (ad.add (sLen*es)) new 0).run P w=.ok () w' | none=>w'=w):
  (eB zs e es sLen sCap base x n).run P w=.ok (.slice base (sLen+n) sCap) w':=by
 unfold eB
 simp only [hfit,if_true]
 rw [Sem.run_bind,hnew,Result.andThen_ok]
 cases base with
 | none=>subst hst;simp
 | some ad=>simp only [] at hst;simp [hst]
theorem bV {zs:Bool}{e:TypeId}{es by' sLen sCap n:Nat}{base:Option Addr}{x:Value}{z:List j3}{old new:List Value}(hby:Z5 P e=some by')(hz:nE P e=some z)
  (hnofit:¬ sLen+n≤sCap) (hbig:(2*(sLen+n)+2048)*by'≤281474976710656) (hby1:1≤by')
  (hold:∀w':World,w'.heap=w.heap→(Builtin.firstCells es sLen (.slice base sLen sCap)).run P w'=.ok old.toArray w')
  (hnew:∀w':World,w'.heap=w.heap→(if (!zs)=true then Builtin.firstCells es n x else if n*es=0 then pure #[] else do pure (Builtin.zeroCells (← zeroValue e).cells n):Sem (Array Value)).run P w'=.ok new.toArray w'):
  ∃(capN:Nat) (rest:List Value),sLen+n≤capN∧rest.length=(capN-(sLen+n))*z.length∧
   (eB zs e es sLen sCap base x n).run P w=.ok (.slice (some ⟨w.heap.size,0,none⟩) (sLen+n) capN)
    {w with heap:=w.heap.push (.cells (old++new++rest).toArray e),drawn:=w.drawn+1}:=by
 obtain⟨info,hi1,hi2⟩:=lK (w:=w) hby
 have hle:(2*(sLen+n)+2048)*1≤(2*(sLen+n)+2048)*by':=Nat.mul_le_mul_left _ hby1
 have hcapb:=nextslicecap_le (sLen+n) sCap (by omega)
 have hmul:Builtin.nextslicecap (sLen+n) sCap*by'≤(2*(sLen+n)+2048)*by':=Nat.mul_le_mul_right _ hcapb
 have c1:¬ (((sLen+n:Nat):Int)>IntKind.i64.max):=by
  have:IntKind.i64.max=9223372036854775807:=rfl
  rw [this];omega
 have c2:¬ (Builtin.nextslicecap (sLen+n) sCap*info.bytes>2^48):=by
  rw [hi2]
  have h48:(2:Nat)^48=281474976710656:=rfl
  rw [h48];omega
 obtain⟨zv,hz1,hz2,_⟩:=Q5 (P:=P) (w:={w with drawn:=w.drawn+1}) hz (fun _=>⟨0,0,0,none⟩)
 refine⟨sLen+n+w.tape w.drawn (.appendCap (sLen+n) sCap e)%(2^63-(sLen+n)),(Builtin.zeroCells zv.cells (sLen+n+w.tape w.drawn (.appendCap (sLen+n) sCap e)%(2^63-(sLen+n))-(sLen+n))).toList,by omega,?_,?_⟩
 ·simp [Builtin.zeroCells,hz2]
 ·unfold eB
  simp only [hnofit,if_false]
  have hi1':∀w',(typeInfo e).run P w'=.ok info w':=by
   intro w'
   obtain⟨i2,h1,_⟩:=lK (w:=w') hby
   have h3:∀w₁ w₂:World,∀a b,(typeInfo e).run P w₁=.ok a w₁→(typeInfo e).run P w₂=.ok b w₂→a=b:=by
    intro w₁ w₂ a b ha hb
    unfold typeInfo at ha hb
    simp only [Sem.run_bind,run_program,Result.andThen_ok] at ha hb
    split at ha<;>split at hb<;>simp_all
   rw [h1,h3 w' w _ _ h1 hi1]
  have hch:∀w':World,(choose (.appendCap (sLen+n) sCap e)).run P w'=.ok (sLen+n+w'.tape w'.drawn (.appendCap (sLen+n) sCap e)%(2^63-(sLen+n))) {w' with drawn:=w'.drawn+1}:=by
   intro w';rw [run_choose];simp [Question.forced,Question.cut]
  simp only [Sem.run_bind,hi1',Result.andThen_ok,c1,c2,false_and,if_false,Sem.run_pure,hch,run_askRoom,hold {w with drawn:=w.drawn+1} rfl,hnew {w with drawn:=w.drawn+1} rfl,hz1,R3]
  simp only [Nat.add_sub_cancel_left,← List.append_toArray,Array.toArray_toList]
theorem wz (hm:RM P G ι m w.heap){es need capN:Nat}{cells:List j3}{b':Blk}(hF:Fits P ι m es need cells b'){c:Array Value}{e:TypeId}{w':World}
  (hw:OG w w' (.cells c e)) (hsz:c.size=capN*es) (hcap:need≤capN) (hat:∀(j:Nat) (v:j3),cells[j]?=some v→c[j]?=some (l6 ι v)):
  Step P G ι m w (ι.upd m.next ⟨w.heap.size,0,capN*es,none⟩) (m.new b') w':=by
 obtain⟨hv,hF⟩:=hF
 have hlaid:=Laid.new hm.ok hm.limn b' hv
 have hext:∀j,m.has j→(ι.upd m.next ⟨w.heap.size,0,capN*es,none⟩) j=ι j:=fun j hj=>ι.upd_ne _ fun h=>hlaid.free (h▸hj)
 refine Step.lay hm hlaid hw rfl rfl ?_ ?_
 ·refine hF _ _ _ _ c e _ (Mem.O6 hlaid.has hext) hext Q7 ?_ ?_ fun j v hj=>?_
  ·show 0+capN*es≤c.size;omega
  ·exact Nat.mul_le_mul_right _ hcap
  ·rw [Nat.zero_add];exact hat j v hj
 ·intro c' e' fz h k hk
  cases h;simp
theorem Fits.kill (hm:RM P G ι m w.heap){es need q:Nat}{cells:List j3}{b' bq:Blk}(hF:Fits P ι m es need cells b')(hq:m.lim≤q)(hg:m.get q=some bq):Fits P ι (m.set q .dead) es need cells b':=by
 have hk:=Step.kill hm hq hg
 refine⟨hF.1,fun ι' n' h' l' c' e fz hle hext=>hF.2 ι' n' h' l' c' e fz (Nm.le_trans (Mem.O6 hk.has fun _ _=>rfl) hle) fun i hi=>hext i (hk.has i hi)⟩
theorem Fy (hm:RM P G ι m w.heap){es need capN q:Nat}{cells:List j3}{b' bq:Blk}(hF:Fits P ι m es need cells b')(hq:m.lim≤q)(hg:m.get q=some bq){c:Array Value}{e:TypeId}{w':World}
  (hw:OG w w' (.cells c e)) (hsz:c.size=capN*es) (hcap:need≤capN) (hat:∀(j:Nat) (v:j3),cells[j]?=some v→c[j]?=some (l6 ι v)):
  Step P G ι m w (ι.upd m.next ⟨w.heap.size,0,capN*es,none⟩) ((m.set q .dead).new b') w':=
 (Step.kill hm hq hg).trans (wz (Step.kill hm hq hg).rm (Fits.kill hm hF hq hg) hw hsz hcap hat)
theorem Ld (hm:RM P G ι m w.heap){q rs k:Nat}{rows:T (List j3)}(hq:m.lim≤q)(hg:m.get q=some (.cells rs k rows)){c:Array Value}{e:TypeId}{fz:Nat×Nat}(hc:w.heap[(ι q).b]?=some (.cells c e fz))
  {B C len n es:Nat} {old new:List j3} {b':Blk} (hBC:B+C≤c.size) (hfit:(len+n)*es≤C) (hol:old.length=len*es) (hnl:new.length=n*es) (hone:G7 new=true)
  (hold:∀(j:Nat) (v:j3),old[j]?=some v→c[B+j]?=some (l6 ι v)) (hF:Fits P ι m es (len+n) (old++new) b'):
  ∃w',(storeCells ⟨(ι q).b,B+len*es,none⟩ (l8 ι new) 0).run P w=.ok () w'∧
   Step P G ι m w (ι.upd m.next ⟨(ι q).b,B,C,none⟩) ((m.set q .dead).new b') w':=by
 have hown:=hm.own q _ hq hg rfl
 have hfz:=hown.free c e fz hc
 have hsum:(len+n)*es=len*es+n*es:=Nat.add_mul _ _ _
 have hrun:=fE (P:=P) (l8 ι new) c (B+len*es) 0 w hc (by simp;omega) hfz (fun v hv=>by
  rw [N8] at hv
  obtain⟨u,hu,rfl⟩:=List.mem_map.1 hv
  exact ru (gV hone u hu))
 refine⟨_,hrun,?_⟩
 obtain⟨hv,hF⟩:=hF
 have hk:=Step.kill hm hq hg
 have hlaid:=Laid.new hk.rm.ok hk.rm.limn b' hv
 have hext:∀j,m.has j→(ι.upd m.next ⟨(ι q).b,B,C,none⟩) j=ι j:=fun j ⟨y,hy,_⟩=>ι.upd_ne _ fun h=>by have:=Mem.y9 hm.ok hy;omega
 refine Step.OL (o:=.cells (over c (B+len*es+0) (l8 ι new)) e fz) (w':={w with heap:=w.heap.setIfInBounds (ι q).b (.cells (over c (B+len*es+0) (l8 ι new)) e fz)}) hm hq hg rfl hv ⟨rfl,rfl,rfl,rfl⟩ rfl rfl ?_ ?_
 ·refine hF _ _ _ _ _ e fz (Mem.O6 (fun i hi=>hlaid.has i (hk.has i hi)) hext) hext (aK hc) ?_ hfit fun j v hj=>?_
  ·simpa using hBC
  ·show (over c (B+len*es+0) (l8 ι new))[B+j]?=some (l6 ι v)
   rw [qg _ _ _ (by simp;omega)]
   by_cases h1:j<old.length
   ·rw [List.getElem?_append_left h1] at hj
    rw [if_pos (by omega)];exact hold j v hj
   ·rw [List.getElem?_append_right (by omega)] at hj
    have h2:=(List.getElem?_eq_some_iff.1 hj).1
    rw [if_neg (by omega),if_pos (by simp;omega),K7,show B+j-(B+len*es+0)=j-old.length from by omega,hj];rfl
 ·intro c' e' fz' h k' hk'
  cases h
  exact hfz k' (by simpa using hk')
theorem gu {w':World}{l:Loc}{m':Mem}(hls:l.spot=none)(hst:Step P G ι m w (ι.upd m.next l) m' w')(hh:m'.has m.next){es need:Nat}(hes:1≤es)(hneed:need*es≤l.cap){cap:Nat}(hcap:cap=l.cap / es):
  O5 P G ι m w [⟨.sliceU m.next 0 need es,m'⟩] (.slice (some ⟨l.b,l.base,none⟩) need cap) w':=by
 refine⟨_,List.mem_singleton.2 rfl,_,hst,⟨hh,hes,?_⟩,?_⟩
 ·show 0+need*es≤((ι.upd m.next l) m.next).cap
  rw [Inj.G6];omega
 ·simp [l6,Inj.at,hcap,hls]
theorem Ai (h:T.Ok m.t m.next){b:Blk}(hb:ah b=false):(m.new b).has m.next:=⟨b,by rw [Mem.D7 h,if_pos rfl],hb⟩
theorem mh {n bytes es:Nat}(h:big n bytes es=true):(2*n+2048)*bytes≤281474976710656∧1≤es∧1≤bytes:=by
 unfold big at h
 cases h1:Nat.ble (Nat.mul (Nat.add (Nat.mul 2 n) 2048) bytes) 281474976710656 with
 | false=>rw [h1] at h;cases h
 | true=>
  rw [h1] at h
  cases h2:Nat.ble 1 es with
  | false=>rw [h2] at h;cases h
  | true=>
   rw [h2] at h
   exact⟨Nat.le_of_ble_eq_true h1,Nat.le_of_ble_eq_true h2,Nat.le_of_ble_eq_true h⟩
theorem IU {β:Type}{b:Option Blk}{c:Nat→Nat→T (List j3)→Option β}{k:Nat→Option β}{r:β}(h:EC b c k=some r):
  (∃rs n rows,b=some (.cells rs n rows)∧c rs n rows=some r)∨∃p,b=some (.tail p)∧k p=some r:=by
 unfold EC at h
 split at h
 ·exact .inl ⟨_,_,_,rfl,h⟩
 ·exact .inr ⟨_,rfl,h⟩
 ·cases h
theorem qh {es n:Nat}{cells:List j3}{outs:List VM}(h:grown m es n cells=some outs):∃rl,rowsOf es n cells=some rl∧outs=[⟨.sliceU m.next 0 n es,m.new (.cells es n (T.ofList rl))⟩]:=by
 obtain⟨rl,h1,h⟩:=r9 h
 cases h
 exact⟨rl,h1,rfl⟩
theorem BN {α:Type}{b:Bool}{x y:Option α}{r:α}(h:bi b x y=some r):(b=true∧x=some r)∨(b=false∧y=some r):=by
 cases b with
 | true=>exact .inl ⟨rfl,h⟩
 | false=>exact .inr ⟨rfl,h⟩
theorem yh {a b:Nat}(h:Nat.ble a b=false):¬ a≤b:=fun hh=>by rw [Nat.ble_eq_true_of_le hh] at h;cases h
end
section
variable {P:Program}{G:Mem}{ι:Inj}{m:Mem}{w:World}{slots:List Nat}{done:List (Option Nat)}{ls:List j3}{env:T j3}{a:Act}
theorem Fz (hm:RM P G ι m w.heap){id rs k:Nat}{rows:T (List j3)}(hg:m.get id=some (.cells rs k rows)):∃c e fz,w.heap[(ι id).b]?=some (.cells c e fz)∧(ι id).base+(ι id).cap≤c.size∧
  ∀j v,w.cell? (ι.at id j)=some v→c[(ι id).base+j]?=some v:=by
 obtain⟨c,e,fz,h1,h2,_⟩:=hm.blk id _ hg
 refine⟨c,e,fz,h1,h2,fun j v hv=>?_⟩
 simpa [World.cell?,Inj.at,h1,hm.spot id _ hg rfl] using hv
theorem Aj (hm:RM P G ι m w.heap){e:TypeId}{es by' n:Nat}{z:List j3}(hz:En P e=some z)(hes:aS P e=some es)(hby:Z5 P e=some by')
  {zs:Bool} {x:Value} {new:List j3} (hltn:ltL (m.nm ι) new) (hn0:n=0→new=[])
  (hnew:∀w':World,w'.heap=w.heap→(if (!zs)=true then Builtin.firstCells es n x else if n*es=0 then pure #[] else do pure (Builtin.zeroCells (← zeroValue e).cells n):Sem (Array Value)).run P w'=.ok (l8 ι new).toArray w')
  {sv:j3} (hsv:sv.lt (m.nm ι)) {outs:List VM} (h:CS m es by' n new sv=some outs):
  ∃base sLen sCap v w',l6 ι sv=.slice base sLen sCap∧(eB zs e es sLen sCap base x n).run P w=.ok v w'∧O5 P G ι m w outs v w':=by
 obtain⟨hz',hsz⟩:=fZ hz
 obtain rfl:es=z.length:=by rw [hes] at hsz;exact Option.some.inj hsz
 rcases lN h with⟨rfl,h⟩ | ⟨id,off,len,cap,rfl,h⟩ | ⟨id,off,len,es',rfl,h⟩
 ·
  refine⟨none,0,0,?_⟩
  cases n with
  | zero=>
   have h:one .nilSlice m=some outs:=h
   cases h
   obtain rfl:=hn0 rfl
   exact⟨.slice none 0 0,w,rfl,bU (Nat.le_refl 0) (hnew w rfl) rfl,_,List.mem_singleton.2 rfl,ι,Step.refl hm,trivial,rfl⟩
  | succ n=>
   have h:bi (big (n+1) by' z.length) (grown m z.length (n+1) new) none=some outs:=h
   obtain⟨hb,h⟩:=p9 h
   obtain⟨b1,b2,b3⟩:=mh hb
   obtain⟨rl,hr,rfl⟩:=qh h
   obtain⟨capN,rest,r1,r2,r3⟩:=bV (P:=P) (w:=w) (zs:=zs) (e:=e) (es:=z.length) (sLen:=0) (sCap:=0) (base:=none) (x:=x) (n:=n+1) (old:=[]) hby hz' (by omega) (by simpa using b1) b3
    (fun w' _=>by simp [Builtin.firstCells]) hnew
   have hlen:=(au _ _ _ _ hr).1
   have hst:=wz hm (mg hr hltn) (c:=([]++l8 ι new++rest).toArray) (e:=e) (w':={w with heap:=w.heap.push (.cells ([]++l8 ι new++rest).toArray e),drawn:=w.drawn+1}) ⟨rfl,rfl,rfl,rfl⟩ (capN:=capN)
    (by simp only [List.size_toArray,List.length_append,List.length_nil,G9,hlen,r2,Nat.zero_add];rw [← Nat.add_mul];congr 1;omega) (by omega)
    (fun j v hj=>by
     have hj':=(List.getElem?_eq_some_iff.1 hj).1
     simp only [List.nil_append,List.getElem?_toArray]
     rw [List.getElem?_append_left (by simpa using hj'),K7,hj];rfl)
   refine⟨_,_,rfl,r3,?_⟩
   have:=gu rfl hst (Ai hm.ok rfl) b2 (need:=n+1) (Nat.mul_le_mul_right _ (by omega)) (cap:=capN) (by show capN=capN*z.length / z.length;rw [Nat.mul_div_cancel _ b2])
   simpa using this
 ·
  refine⟨some (ι.at id off),len,cap,?_⟩
  have h:bi (Nat.ble (len+n) cap) (bN m id (off+len*z.length) new fun m'=>one (.slice id off (len+n) cap) m')
   (bi (big (len+n) by' z.length) (ob (I7 m id off (len*z.length)) fun old=>grown m z.length (len+n) (dz old new)) none)=some outs:=h
  rcases BN h with⟨hf,h⟩ | ⟨hf,h⟩
  ·obtain⟨m',w',hk,hrun,hst⟩:=dY hm h hltn
   cases hk
   exact⟨_,w',rfl,bU (Nat.le_of_ble_eq_true hf) (hnew w rfl) (by simp only [Inj.iZ];exact hrun),_,List.mem_singleton.2 rfl,ι,hst,hst.has id hsv,by simp [l6]⟩
  ·obtain⟨hb,h⟩:=p9 h
   obtain⟨b1,b2,b3⟩:=mh hb
   obtain⟨old,ho,h⟩:=r9 h
   rw [L9] at h
   obtain⟨rl,hr,rfl⟩:=qh h
   obtain⟨o1,o2,o3⟩:=bL hm ho
   obtain⟨capN,rest,r1,r2,r3⟩:=bV (P:=P) (w:=w) (zs:=zs) (e:=e) (es:=z.length) (sLen:=len) (sCap:=cap) (base:=some (ι.at id off)) (x:=x) (n:=n) (old:=l8 ι old) hby hz' (yh hf) b1 b3
    (fun w' hw=>Z0 o1 (fun j v hj=>by have:=o3 j v hj;simpa [World.cell?,hw] using this)) hnew
   have hlt:ltL (m.nm ι) (old++new):=R5.2 fun v hv=>(List.mem_append.1 hv).elim (E8 o2) (E8 hltn)
   have hlen:=(au _ _ _ _ hr).1
   have hst:=wz hm (mg hr hlt) (c:=(l8 ι old++l8 ι new++rest).toArray) (e:=e) (w':={w with heap:=w.heap.push (.cells (l8 ι old++l8 ι new++rest).toArray e),drawn:=w.drawn+1}) ⟨rfl,rfl,rfl,rfl⟩ (capN:=capN)
    (by
     rw [List.length_append] at hlen
     simp only [List.size_toArray,List.length_append,G9,hlen,r2];rw [← Nat.add_mul];congr 1;omega) (by omega)
    (fun j v hj=>by
     have hj':=(List.getElem?_eq_some_iff.1 hj).1
     rw [List.length_append] at hj'
     rw [List.getElem?_toArray,List.getElem?_append_left (by simpa using hj'),N8,N8,← List.map_append,List.getElem?_map,hj];rfl)
   refine⟨_,_,rfl,r3,?_⟩
   exact gu rfl hst (Ai hm.ok rfl) b2 (need:=len+n) (Nat.mul_le_mul_right _ (by omega)) (cap:=capN) (by show capN=capN*z.length / z.length;rw [Nat.mul_div_cancel _ b2])
 ·
  obtain⟨hs1,hs2,hs3⟩:=hsv
  have hs3:off+len*es'≤(ι id).cap:=hs3
  have hlecap:len≤((ι id).cap-off) / es':=(Nat.le_div_iff_mul_le hs2).2 (by omega)
  refine⟨some (ι.at id off),len,((ι id).cap-off) / es',?_⟩
  cases n with
  | zero=>
   have h:one (.sliceU id off len es') m=some outs:=h
   cases h
   obtain rfl:=hn0 rfl
   refine⟨_,w,rfl,bU (w':=w) hlecap (hnew w rfl) (by simp [l8,storeCells]),_,List.mem_singleton.2 rfl,ι,Step.refl hm,⟨hs1,hs2,hs3⟩,by simp [l6]⟩
  | succ n=>
   have h:bi (Nat.beq z.length es') (bi (big (len+(n+1)) by' z.length) (bi (Nat.ble m.lim id) (bi (G7 new)
    (EC (m.get id)
     (fun rs k rows=>
      bi (bi (Nat.beq rs z.length) (bi (Nat.beq off 0) (bi (Nat.ble len k) (bi (Nat.beq (n+1) 1) (bi (Nat.beq (len' new) z.length) (Nat.blt 0 len) false) false) false) false) false)
       (one (.sliceU m.next 0 (Nat.succ len) z.length) ((m.set id .dead).new (.cells z.length (Nat.succ len) (rows.put len new))))
       (ob (H7 rs k rows (len*z.length) off) fun old=>grown (m.set id .dead) z.length (len+(n+1)) (dz old new)))
     (fun p=>K5 (m.get p) fun _ _ _=>bi (Nat.ble m.lim p) (bi (Nat.beq len 0) (grown (m.set p .dead) z.length (n+1) new) none) none)) none) none) none) none=some outs:=h
   obtain⟨q1,k1⟩:=p9 h
   clear h
   obtain rfl:=Nat.eq_of_beq_eq_true q1
   obtain⟨q2,k2⟩:=p9 k1
   obtain⟨b1,b2,b3⟩:=mh q2
   obtain⟨q3,k3⟩:=p9 k2
   have hlim:m.lim≤id:=Nat.le_of_ble_eq_true q3
   obtain⟨hone,h⟩:=p9 k3
   clear k1 k2 k3
   have core:∀(q rs k:Nat) (rows:T (List j3)),m.lim≤q→m.get q=some (.cells rs k rows)→∀(B C:Nat) (old:List j3) (b':Blk),C=(ι id).cap-off→
     ((ι id).b=(ι q).b∨C=0)→B=(ι id).base+off→(C≠0→B+C≤(ι q).base+(ι q).cap)→(C≠0→(ι id).spot=none)→old.length=len*z.length→new.length=(n+1)*z.length→ltL (m.nm ι) old→gM ι w id off old→
     Fits P ι m z.length (len+(n+1)) (old++new) b'→outs=[⟨.sliceU m.next 0 (len+(n+1)) z.length,(m.set q .dead).new b'⟩]→
     ∃v w',l6 ι (.sliceU id off len z.length)=.slice (some (ι.at id off)) len (((ι id).cap-off) / z.length)∧
      (eB zs e z.length len (((ι id).cap-off) / z.length) (some (ι.at id off)) x (n+1)).run P w=.ok v w'∧O5 P G ι m w outs v w':=by
    intro q rs k rows hq hg B C old b' hC hb hB hBC hspC hol hnl holt hoc hF hout
    subst hout
    have hokk:=(Step.kill hm hq hg).rm
    have hhas:((m.set q .dead).new b').has m.next:=Ai (m:=m.set q .dead) hokk.ok hF.1
    by_cases hfit:len+(n+1)≤((ι id).cap-off) / z.length
    ·have hfit':(len+(n+1))*z.length≤C:=by rw [hC];exact (Nat.le_div_iff_mul_le b2).1 hfit
     have hC0:C≠0:=by
      have:1*1≤(len+(n+1))*z.length:=Nat.mul_le_mul (by omega) b2
      omega
     have hb:=hb.resolve_right hC0
     have hspid:=hspC hC0
     obtain⟨c,e₀,fz,c1,c2,c3⟩:=Fz hm hg
     obtain⟨w',g1,g2⟩:=Ld hm hq hg c1 (B:=B) (C:=C) (len:=len) (n:=n+1) (es:=z.length) (old:=old) (new:=new) (b':=b') (by have:=hBC hC0;omega) hfit' hol hnl hone
      (fun j v hj=>by
       have:=hoc j v hj
       simp only [World.cell?,Inj.at,hb,c1,hspid] at this
       rw [hB,Nat.add_assoc];simpa using this) hF
     refine⟨_,w',by simp [l6],bU hfit (hnew w rfl) (by
      have:(ι.at id off).add (len*z.length)=⟨(ι q).b,B+len*z.length,none⟩:=by simp [Inj.at,Addr.add,hb,hB,hspid]
      simp only [this];exact g1),?_⟩
     have:=gu rfl g2 hhas b2 (need:=len+(n+1)) hfit' (cap:=((ι id).cap-off) / z.length) (by show _=C / z.length;rw [hC])
     have hbase:ι.at id off=⟨(ι q).b,B,none⟩:=by simp [Inj.at,hb,hB,hspid]
     rw [hbase]
     exact this
    ·obtain⟨capN,rest,r1,r2,r3⟩:=bV (P:=P) (w:=w) (zs:=zs) (e:=e) (es:=z.length) (sLen:=len) (sCap:=((ι id).cap-off) / z.length) (base:=some (ι.at id off)) (x:=x) (n:=n+1) (old:=l8 ι old) hby hz' hfit b1 b3
      (fun w' hw=>Z0 hol (fun j v hj=>by have:=hoc j v hj;simpa [World.cell?,hw] using this)) hnew
     have hst:=Fy hm hF hq hg (c:=(l8 ι old++l8 ι new++rest).toArray) (e:=e) (w':={w with heap:=w.heap.push (.cells (l8 ι old++l8 ι new++rest).toArray e),drawn:=w.drawn+1}) ⟨rfl,rfl,rfl,rfl⟩ (capN:=capN)
      (by
       simp only [List.size_toArray,List.length_append,G9,hol,hnl,r2];rw [← Nat.add_mul,← Nat.add_mul];congr 1;omega) (by omega)
      (fun j v hj=>by
       have hj':=(List.getElem?_eq_some_iff.1 hj).1
       rw [List.length_append] at hj'
       rw [List.getElem?_toArray,List.getElem?_append_left (by simpa using hj'),N8,N8,← List.map_append,List.getElem?_map,hj];rfl)
     refine⟨_,_,by simp [l6],r3,?_⟩
     exact gu rfl hst hhas b2 (need:=len+(n+1)) (Nat.mul_le_mul_right _ (by omega)) (cap:=capN) (by show capN=capN*z.length / z.length;rw [Nat.mul_div_cancel _ b2])
   rcases IU h with⟨rs,k,rows,hg,h⟩ | ⟨p,hg,h⟩
   ·obtain⟨cc,e₀,fz₀,c1,c2,c3⟩:=Fz hm hg
    rcases BN h with⟨hf,h9⟩ | ⟨_,h⟩
    ·
     clear h
     have hf1:rs=z.length∧off=0∧len≤k∧n=0∧new.length=z.length∧0<len:=by
      cases p1:Nat.beq rs z.length<;>rw [p1] at hf<;>simp only [H9,J8] at hf<;>try (cases hf;done)
      cases p2:Nat.beq off 0<;>rw [p2] at hf<;>simp only [H9,J8] at hf<;>try (cases hf;done)
      cases p3:Nat.ble len k<;>rw [p3] at hf<;>simp only [H9,J8] at hf<;>try (cases hf;done)
      cases p4:Nat.beq (n+1) 1<;>rw [p4] at hf<;>simp only [H9,J8] at hf<;>try (cases hf;done)
      cases p5:Nat.beq (len' new) z.length<;>rw [p5] at hf<;>simp only [H9,J8] at hf<;>try (cases hf;done)
      have p4:=Nat.eq_of_beq_eq_true p4
      have p5:=Nat.eq_of_beq_eq_true p5
      rw [C8] at p5
      exact⟨Nat.eq_of_beq_eq_true p1,Nat.eq_of_beq_eq_true p2,Nat.le_of_ble_eq_true p3,by omega,p5,Eq.mp Nat.blt_eq hf⟩
     obtain⟨rfl,rfl,hk,rfl,hnl,hlp⟩:=hf1
     cases h9
     obtain⟨l,l1,l2,l3,l4⟩:=Fw hm hg len hk
     exact core id z.length k rows hlim hg _ _ l _ rfl (.inl rfl) rfl (fun _=>by omega) (fun _=>hm.spot id _ hg rfl) l1 (by omega) l2 l3 (IQ hm hg hk hlp l1 l4 hnl l2 hltn) rfl
    ·obtain⟨old,ho,h⟩:=r9 h
     rw [L9] at h
     obtain⟨rl,hr,hout⟩:=qh h
     obtain⟨o1,o2,o3⟩:=ku hm hg _ _ _ ho
     have hlt:ltL (m.nm ι) (old++new):=R5.2 fun v hv=>(List.mem_append.1 hv).elim (E8 o2) (E8 hltn)
     have hlen:=(au _ _ _ _ hr).1
     rw [List.length_append,o1,Nat.add_mul] at hlen
     exact core id rs k rows hlim hg _ _ old _ rfl (.inl rfl) rfl (fun _=>by omega) (fun _=>hm.spot id _ hg rfl) o1 (by omega) o2 o3 (mg hr hlt) hout
   ·obtain⟨rs,k,rows,hgp,h⟩:=Q6 h
    obtain⟨q4,h⟩:=p9 h
    have hlimp:=Nat.le_of_ble_eq_true q4
    obtain⟨q5,h⟩:=p9 h
    obtain rfl:=Nat.eq_of_beq_eq_true q5
    obtain⟨rl,hr,hout⟩:=qh h
    obtain⟨t1,t2⟩:=hm.blk id _ hg
    have hlen:=(au _ _ _ _ hr).1
    refine core p rs k rows hlimp hgp _ _ [] (.cells z.length (n+1) (T.ofList rl)) rfl ?_ rfl ?_ ?_ (by simp) hlen trivial (fun j v hj=>by simp at hj) ?_ ?_
    ·rcases t2 with t2 | t2
     ·exact .inr (by omega)
     ·exact .inl t2.1
    ·intro hne
     rcases t2 with t2 | t2
     ·omega
     ·omega
    ·intro hne
     rcases t2 with t2 | t2
     ·omega
     ·exact t2.2.2 (hm.spot p _ hgp rfl)
    ·rw [List.nil_append,Nat.zero_add];exact mg hr hltn
    ·rw [hout,Nat.zero_add];rfl
def ae0 (d:TypeDesc):Bool:=match d with | .int _=>true | _=>false
theorem Le (d:TypeDesc):ae0 d=Fx d:=by cases d<;>rfl
theorem yj (s:St P ι (m.nm ι) slots done ls env a.tmps)(hm:RM P G ι m w.heap){c:Call}{t u e:TypeId}{d:TypeDesc}{x y:Operand}{x' y':Opd}{es by':Nat}{z:List j3}(hc:c.callee=.builtin .append)
  (hts:c.argTypes.toList=[t,u]) (has:c.args.toList=[x,y]) (hu:P.underlying t=some (.slice e)) (hd:P.underlying u=some d) (hes:aS P e=some es) (hz:En P e=some z) (hby:Z5 P e=some by')
  (hx:J7 P slots done x=some x') (hy:J7 P slots done y=some y') {cf:y8} {outs:List VM} (hv:trE (.app es (Fx d) z by' x' y') cf ls env m=some outs):
  ∀o:Oper,o.op=.call c→Does P a.eval o w (O5 P G ι m w outs):=by
 intro o ho
 have hts:c.argTypes=#[t,u]:=by rw [← hts,Array.toArray_toList]
 have has:c.args=#[x,y]:=by rw [← has,Array.toArray_toList]
 obtain⟨e1,g1⟩:=l9 s hx
 obtain⟨e2,g2⟩:=l9 s hy
 obtain⟨hz',hsz⟩:=fZ hz
 have hesz:es=z.length:=by rw [hes] at hsz;exact Option.some.inj hsz
 have fin:∀(n:Nat) (new:List j3),TG P w (Fx d) by' n (l6 ι (trO y' ls env))→ltL (m.nm ι) new→(n=0→new=[])→
   (∀w':World,w'.heap=w.heap→(if (!Fx d)=true then Builtin.firstCells es n (l6 ι (trO y' ls env)) else if n*es=0 then pure #[] else do pure (Builtin.zeroCells (← zeroValue e).cells n):Sem (Array Value)).run P w'=.ok (l8 ι new).toArray w')→
   CS m es by' n new (trO x' ls env)=some outs→Does P a.eval o w (O5 P G ι m w outs):=by
  intro n new hn hlt hn0 hnew h
  obtain⟨base,sLen,sCap,v,w',q1,q2,q3⟩:=Aj hm hz hes hby hlt hn0 hnew g1 h
  refine E5 (v:=v) (w':=w') ?_ q3
  rw [← rD (T:=o.type) hu hes hd hby hn] at q2
  simp [execOp,ho,resolve,hc,has,hts,invoke,builtin,e1,e2,q1,q2]
 cases hi:Fx d with
 | true=>
  rw [hi] at hv
  obtain⟨k,n,h1,hv⟩:=aj hv
  obtain⟨h2,hv⟩:=p9 hv
  obtain⟨h3,hv⟩:=p9 hv
  have h2:n*by'≤281474976710656:=Nat.le_of_ble_eq_true h2
  have h3:n<9223372036854775808:=Eq.mp Nat.blt_eq h3
  have h1:trO y' ls env=.int k n:=h1
  refine fin n (I4 z n) (.inr ⟨hi,⟨k,by rw [h1];rfl⟩,h3,h2⟩) (by obtain⟨_,_,_,hz3⟩:=Q5 (P:=P) (w:=w) hz' ι;exact jK (hz3 _) n) (fun h0=>by rw [h0];rfl) (fun w' _=>?_) hv
  obtain⟨zv,hz1,hz2,hz3⟩:=Q5 (P:=P) (w:=w') hz' ι
  simp only [hi,Bool.not_true,Bool.false_eq_true,if_false]
  split
  ·rename_i h0
   have:I4 z n=[]:=List.length_eq_zero_iff.1 (by rw [R4,← hesz];exact h0)
   simp [this,l8]
  ·simp [hz1,hz2,oW]
 | false=>
  rw [hi] at hv
  obtain⟨n,h1,hv⟩:=r9 hv
  obtain⟨new,h2,hv⟩:=r9 hv
  refine fin n new (.inl ⟨hi,kL h1 w⟩) (aL hm h2).2 (fun h0=>?_) (fun w' hw=>?_) hv
  ·subst h0
   have h0:∀i off,I7 m i off 0=some []:=fun i off=>rfl
   generalize trO y' ls env=v at h2
   cases v<;>simp only [cK,reduceCtorEq] at h2<;>simp_all [bytesOf]
  ·simp only [hi,Bool.not_false,if_true]
   exact (aL (w:=w') (by rw [hw];exact hm) h2).1
end
end Go.AM
