/- A part of an evaluator for the model, proved sound: what it answers holds of the model; it speaks of every program, no condition. -/
import Derived.Test.YtfnlnpllpfhhnaaGreatDoorYA1
import Derived.Laws.NewFold
import Derived.CallsIn
import Derived.RangeFuncLeaves
import Derived.RangeFuncRecord
import Derived.RangeFuncNested
import Derived.LoopNIn
set_option linter.unusedSimpArgs false
set_option linter.unusedVariables false
namespace Go.AM
open Go
noncomputable section
section
variable {P:Program}{G:Mem}{ι:Inj}{m:Mem}{w:World}
theorem kU {β:Type}{b:Option Blk}{k:Nat→Nat→T (List j5)→Option β}{r:β}(h:aO b k=some r):∃rs n rows,b=some (.cells rs n rows)∧k rs n rows=some r:=by
 match b,h with
 | some (.cells rs n rows),h=>exact⟨rs,n,rows,rfl,h⟩
theorem wo {β:Type}{b:Option Blk}{k:List (j5×j5)→Option β}{r:β}(h:vEs b k=some r):∃es,b=some (.map es)∧k es=some r:=by
 match b,h with
 | some (.map es),h=>exact⟨es,rfl,h⟩
theorem EC (hm:RM P G ι m w.heap){id rs k:Nat}{rows:T (List j5)}(hg:m.get id=some (.cells rs k rows)){i j:Nat}(hi:i<k)(hj:j<rs){row:List j5}
  (hr:rows.get i=some row) {v:j5} (hv:row[j]?=some v):w.cell? (ι.at id (i*rs+j))=some (H6 ι v)∧v.lt (m.nm ι):=by
 obtain⟨c,e,fz,h1,h2,h3,h4⟩:=hm.blk id _ hg
 obtain⟨row',g1,g2,g3,g4⟩:=h4 i hi
 rw [hr] at g1;cases g1
 have:=g4 j hj
 rw [hv] at this
 refine⟨?_,P9 g3 (avG hv)⟩
 simp only [World.cell?,Inj.at,h1,hm.spot id _ hg rfl]
 simpa using this
theorem Ie {rs n off:Nat}{rows:T (List j5)}{v:j5}(h:cell1 rs n rows off=some v):
  off / rs<n∧∃row,rows.get (off / rs)=some row∧row[off%rs]?=some v:=by
 obtain⟨h1,h2⟩:=L6 h
 obtain⟨row,h3,h4⟩:=J6 h2
 rw [jv] at h4
 exact⟨Eq.mp avM h1,row,h3,h4⟩
theorem wu (hm:RM P G ι m w.heap){id rs k off:Nat}{rows:T (List j5)}(hg:m.get id=some (.cells rs k rows)){v:j5}(h:cell1 rs k rows off=some v):
  w.cell? (ι.at id off)=some (H6 ι v)∧v.lt (m.nm ι):=by
 obtain⟨h1,row,h2,h3⟩:=Ie h
 obtain⟨c,e,fz,_,_,_,h4⟩:=hm.blk id _ hg
 obtain⟨row',g1,g2,_,_⟩:=h4 _ h1
 rw [h2] at g1;cases g1
 have hlt:off%rs<rs:=axb (S9.1 h3).1 g2
 have:=EC hm hg h1 hlt h2 h3
 rwa [show off / rs*rs+off%rs=off from by rw [awx];exact aw7 off rs] at this
def lH (ι:Inj)(w:World)(id off:Nat)(l:List j5):Prop:=∀j v,l[j]?=some v→w.cell? (ι.at id (off+j))=some (H6 ι v)
theorem Cx (hm:RM P G ι m w.heap){id rs n off k:Nat}{rows:T (List j5)}(hg:m.get id=some (.cells rs n rows)){l:List j5}(h:mO rs n rows off k=some l):
  l.length=k∧ltL (m.nm ι) l∧lH ι w id off l:=by
 obtain⟨h1,h2⟩:=L6 h
 obtain⟨row,h3,h4⟩:=J6 h2
 have h1:off / rs<n:=Eq.mp avM h1
 obtain⟨c,e,fz,_,_,_,hb⟩:=hm.blk id _ hg
 obtain⟨row',g1,g2,g3,_⟩:=hb _ h1
 have h3:rows.get (off / rs)=some row:=h3
 rw [h3] at g1;cases g1
 have key:l=(row.drop (off%rs)).take k∧(off%rs+k≤rs∨k=0):=by
  have hmod:Nat.mod off rs=off%rs:=rfl
  rw [hmod] at h4
  rw [uy] at h4
  split at h4
  ·rename_i hz
   rw [uy] at h4
   split at h4
   ·rename_i hk
    have e:row=l:=avA h4
    rw [hz,hk,← e]
    refine⟨?_,by omega⟩
    rw [awh,← g2,List.take_length]
   ·obtain⟨e,hl⟩:=jd _ _ _ h4
    rw [hz]
    exact⟨by rw [awh];exact e,by omega⟩
  ·obtain⟨e,hl⟩:=jd _ _ _ h4
   simp only [eO,awT] at hl e
   exact⟨e,by omega⟩
 obtain⟨rfl,hk⟩:=key
 refine⟨by simp;omega,cZ.2 fun v hv=>P9 g3 (aw4 (awu hv)),fun j v hv=>?_⟩
 have hj:j<k:=by
  have:=(S9.1 hv).1;simp at this;omega
 rw [awJ,if_pos hj,axH] at hv
 have:=(EC hm hg h1 (show off%rs+j<rs by omega) h3 hv).1
 rwa [show off / rs*rs+(off%rs+j)=off+j from by have:=aw7 off rs;rw [awx] at this;omega] at this
theorem Au (rs n:Nat)(rows:T (List j5))(off:Nat):M5 rs n rows 0 off=some []:=rfl
theorem Av (rs n:Nat)(rows:T (List j5))(k off:Nat):M5 rs n rows (k+1) off=ob (cell1 rs n rows off) fun v=>ob (M5 rs n rows k (off+1)) fun l=>some (v::l):=rfl
theorem oW (hm:RM P G ι m w.heap){id rs n:Nat}{rows:T (List j5)}(hg:m.get id=some (.cells rs n rows)):
  ∀(k off:Nat) (l:List j5),M5 rs n rows k off=some l→l.length=k∧ltL (m.nm ι) l∧lH ι w id off l:=by
 intro k
 induction k with
 | zero=>intro off l h;rw [Au] at h;cases h;exact⟨rfl,trivial,fun j v hv=>by simp at hv⟩
 | succ k ih=>
  intro off l h
  rw [Av] at h
  obtain⟨v,h1,h⟩:=J6 h
  obtain⟨r,h2,h⟩:=J6 h
  cases h
  obtain⟨g1,g2⟩:=wu hm hg h1
  obtain⟨g3,g4,g5⟩:=ih _ _ h2
  refine⟨by simp [g3],⟨g2,g4⟩,fun j u hu=>?_⟩
  cases j with
  | zero=>simp at hu;subst hu;exact g1
  | succ j=>rw [show off+(j+1)=off+1+j from by omega];exact g5 j u (by simpa using hu)
theorem iE (hm:RM P G ι m w.heap){id off k:Nat}{l:List j5}(h:R4 m id off k=some l):
  l.length=k∧ltL (m.nm ι) l∧lH ι w id off l:=by
 cases k with
 | zero=>cases h;exact⟨rfl,trivial,fun j v hv=>by simp at hv⟩
 | succ k=>
  have h:aO (m.get id) (fun rs n rows=>M5 rs n rows (k+1) off)=some l:=h
  obtain⟨rs,n,rows,h1,h2⟩:=kU h
  exact oW hm h1 _ _ _ h2
theorem ED {ad:Addr}{v:Value}(h:w.cell? ad=some v):(load ad).run P w=.ok v w:=by simp [h]
theorem sI {id off:Nat}:∀(l:List j5) (i:Nat) (acc:Array Value),(∀j v,l[j]?=some v→w.cell? (ι.at id (off+(i+j)))=some (H6 ι v))→
  (loadCellsFrom (ι.at id off) i l.length acc).run P w=.ok (acc++(H8 ι l).toArray) w:=by
 intro l
 induction l with
 | nil=>intro i acc _;simp [loadCellsFrom,H8]
 | cons v l ih=>
  intro i acc h
  have h0:w.cell? (ι.at id (off+i))=some (H6 ι v):=h 0 v rfl
  simp only [awp,loadCellsFrom,avy,Inj.mW]
  rw [ED h0,avs,ih (i+1) _ (fun j u hu=>by rw [show i+1+j=i+(j+1) from by omega];exact h (j+1) u (by simpa using hu))]
  simp [H8]
theorem lI {id off:Nat}{l:List j5}(h:lH ι w id off l):(loadCells (ι.at id off) l.length).run P w=.ok (H8 ι l).toArray w:=by
 have:=sI (P:=P) (ι:=ι) (w:=w) (id:=id) (off:=off) l 0 #[] (fun j v hv=>by simpa using h j v hv)
 simpa [loadCells] using this
theorem iF {id off len cap es n:Nat}{l:List j5}(hl:l.length=n*es)(h:lH ι w id off l):
  (Builtin.firstCells es n (.slice (some (ι.at id off)) len cap)).run P w=.ok (H8 ι l).toArray w:=by
 simp only [Builtin.firstCells]
 rw [← hl]
 exact lI h
end
section
variable {P:Program}{G:Mem}{ι:Inj}{m:Mem}{w:World}{slots:List Nat}{done:List (Option Nat)}{ls:List j5}{env:T j5}{a:Act}
theorem qM {t:TypeId}{sz:Option Nat}(ht:partT P t=some sz)(hm:RM P G ι m w.heap){id off:Nat}{v:j5}
  (hv:aO (m.get id) (fun rs n rows=>match sz with | none=>cell1 rs n rows off | some k=>ob (mO rs n rows off k) fun l=>some (.agg l))=some v):
  (loadVar t (ι.at id off)).run P w=.ok (H6 ι v) w∧v.lt (m.nm ι):=by
 obtain⟨rs,n,rows,hg,h⟩:=kU hv
 rcases zq ht with⟨rfl,ha,k,hk⟩ | ⟨k,rfl,ha,hk⟩
 ·obtain⟨h1,h2⟩:=wu hm hg h
  exact⟨by simp [loadVar,mU ha,h1],h2⟩
 ·obtain⟨l,h1,h2⟩:=J6 h
  cases h2
  obtain⟨h3,h4,h5⟩:=Cx hm hg h1
  refine⟨?_,h4⟩
  have:=lI (P:=P) h5
  rw [h3] at this
  simp [loadVar,mU ha,run_sizeOf hk,this,H6]
theorem dS {t:TypeId}(h:P.underlying t=some .bool∨(∃k,P.underlying t=some (.int k))∨P.underlying t=some .string)(e:Bool)(d:Nat)(v:Value)(w:World):
  (Instr.checkKey e (d+1) t v).run P w=.ok () w:=by
 rcases h with h | ⟨k,h⟩ | h<;>simp [Instr.checkKey,run_underlying h]
def ni (e:Bool)(d:Nat)(X:Array Value):List Field→Sem Unit
 | []=>pure ()
 | f::l=>do
  if f.name≠ "_" then Instr.checkKey e d f.type (← part f.type X f.offset)
  ni e d X l
theorem Ig (e:Bool)(d:Nat)(X:Array Value)(l:List Field):
  (forIn l PUnit.unit fun f _=>do
    if f.name≠ "_" then Instr.checkKey e d f.type (← part f.type X f.offset)
    pure (ForInStep.yield PUnit.unit):Sem PUnit)=ni e d X l:=by
 induction l with
 | nil=>simp [ni]
 | cons f l ih=>
  rw [axC]
  simp only [ni]
  rw [← ih]
  by_cases hf:f.name= "_"
  ·simp [hf]
  ·simp [hf]
theorem wz {t:TypeId}{fs:Array Field}(h:P.underlying t=some (.struct fs))(e:Bool)(d:Nat)(X:Array Value)(w:World):
  (Instr.checkKey e (d+1) t (.agg X)).run P w=(ni e d X fs.toList).run P w:=by
 simp only [Instr.checkKey,avy,run_underlying h,avs]
 rw [← axI,← Ig]
 generalize (forIn fs.toList PUnit.unit _:Sem PUnit)=r
 simp
 cases r.run P w<;>rfl
theorem Ih:∀(d:Nat) (t:TypeId) (ks:List PK),fQ P d t=some ks→∃agg,Ei P t=some agg∧jM P t=some ks.length∧(agg=false→ks.length=1)∧
  ∀D,d≤D→∀(l:List j5),ks.length≤l.length→∀(e:Bool) w,(Instr.checkKey e D t (mkV ι agg l)).run P w=.ok () w:=by
 intro d
 induction d with
 | zero=>intro t ks h;simp [fQ] at h
 | succ d ih=>
  intro t ks h
  obtain⟨agg,ha,hsz,h1,_⟩:=Ct (P:=P) (ι:=ι) (d+1) t ks h
  refine⟨agg,ha,hsz,h1,fun D hD l hl e w=>?_⟩
  obtain⟨D,rfl⟩:∃D',D=D'+1:=⟨D-1,by omega⟩
  simp only [fQ] at h
  cases hu:P.underlying t with
  | none=>simp [hu] at h
  | some u=>
   rw [hu] at h
   cases u<;>try (simp at h;done)
   ·exact dS (.inl hu) e D _ w
   ·exact dS (.inr (.inl ⟨_,hu⟩)) e D _ w
   ·exact dS (.inr (.inr hu)) e D _ w
   ·rename_i fs
    rw [lF hu] at ha;cases ha
    simp only at h
    cases hf:mQ (fQ P d) fs.toList 0 with
    | none=>simp [hf] at h
    | some ks'=>
     simp only [hf] at h
     split at h
     ·rename_i hz
      cases h
      simp only [mkV,if_true]
      rw [wz hu]
      have key:∀(fl:List Field) (off:Nat) (ks₁:List PK),off+ks₁.length≤l.length→mQ (fQ P d) fl off=some ks₁→
        (ni e D (H8 ι l).toArray fl).run P w=.ok () w:=by
       intro fl
       induction fl with
       | nil=>intro off ks₁ _ _;simp [ni]
       | cons f fl ihl=>
        intro off ks₁ hlen hfl
        simp only [mQ] at hfl
        split at hfl
        ·rename_i hn
         cases hk:fQ P d f.type with
         | none=>simp [hk] at hfl
         | some kf=>
          simp only [hk] at hfl
          cases hrest:mQ (fQ P d) fl (off+kf.length) with
          | none=>simp [hrest] at hfl
          | some kr=>
           simp only [hrest,U0] at hfl;subst hfl
           simp only [awk] at hlen
           obtain⟨agg,ha,hsz,h1,hE⟩:=ih f.type kf hk
           simp only [ni,if_pos hn.1,avy]
           rw [hn.2,qK ha hsz _ _ (fun hagg=>⟨by have:=h1 hagg;omega,h1 hagg⟩),avs,
            hE D (by omega) _ (by simp;omega) e w,avs]
           exact ihl (off+kf.length) kr (by omega) hrest
        ·cases hfl
      exact key fs.toList 0 _ (by omega) hf
     ·cases h
end
section
variable {P:Program}{G:Mem}{ι:Inj}
theorem Cy {t:TypeId}{k:EqK}(h:Gd P t=some k):eqT P false t=some k∧((∃j,k=.prim j)∨∃ks,k=.flat ks):=by
 simp only [Gd] at h
 split at h
 ·cases h;exact⟨by assumption,.inl ⟨_,rfl⟩⟩
 ·cases h;exact⟨by assumption,.inr ⟨_,rfl⟩⟩
 ·cases h
theorem K4 (f:EqF)(k:j5)(i:Nat):findKey f k [] i=some none:=rfl
theorem J8 (f:EqF)(k:j5)(e:j5×j5)(es:List (j5×j5))(i:Nat):
  findKey f k (e::es) i=ob (f k e.1) fun b=>bi b (some (some (i,e.2))) (findKey f k es (i+1)):=rfl
def uX (ι:Inj)(r:Option (Nat×j5)):Option (Nat×Value):=r.map fun p=>(p.1,H6 ι p.2)
theorem qN {f:EqF}{d:TypeDesc}(hs:∀x y r,f x y=some r→Instr.sameNow d (H6 ι x) (H6 ι y)=some r)(k:j5):
  ∀(es:List (j5×j5)) (i j:Nat) (r:Option (Nat×j5)),findKey f k es i=some r→Instr.findNow d (H6 ι k) (M7 ι es j) i=some (uX ι r)
 | [],i,j,r,h=>by rw [K4] at h;cases h;rfl
 | e::es,i,j,r,h=>by
  rw [J8] at h
  obtain⟨b,h1,h2⟩:=J6 h
  simp only [M7,Instr.findNow,hs _ _ _ h1]
  cases b with
  | true=>cases h2;rfl
  | false=>exact qN hs k es (i+1) (j+1) r h2
theorem mH {f:EqF}{t:TypeId}(hs:∀x y r,f x y=some r→∀w,(Op.equal t (H6 ι x) (H6 ι y)).run P w=.ok r w)(k:j5)(w:World):
  ∀(es:List (j5×j5)) (i j:Nat) (r:Option (Nat×j5)),findKey f k es i=some r→(Instr.findAsking t (H6 ι k) (M7 ι es j) i).run P w=.ok (uX ι r) w
 | [],i,j,r,h=>by rw [K4] at h;cases h;simp [M7,Instr.findAsking,uX]
 | e::es,i,j,r,h=>by
  rw [J8] at h
  obtain⟨b,h1,h2⟩:=J6 h
  simp only [M7,Instr.findAsking,avy,hs _ _ _ h1 w,avs]
  cases b with
  | true=>cases h2;simp [uX]
  | false=>simpa using mH hs k w es (i+1) (j+1) r h2
theorem uz {f:EqF}{n:Nat}{k:j5}{es:List (j5×j5)}{r:Option (Nat×j5)}(h:dn f n k es=some r):
  k.cells.length=n∧(∃y b,f k y=some b)∧findKey f k es 0=some r:=by
 obtain⟨h0,h⟩:=L6 h
 have h0:=avt h0
 rw [Q5] at h0
 refine⟨h0,?_⟩
 cases es with
 | nil=>
  obtain⟨b,h1,h2⟩:=J6 (show ob (f k k) (fun _=>some none)=some r from h)
  exact⟨⟨_,_,h1⟩,by rw [K4];exact h2⟩
 | cons e es=>
  have h:findKey f k (e::es) 0=some r:=h
  refine⟨?_,h⟩
  rw [J8] at h
  obtain⟨b,h1,_⟩:=J6 h
  exact⟨_,_,h1⟩
theorem wB {kk:EqK}{t:TypeId}(hk:Gd P t=some kk):
  (kk=.prim .b∧P.underlying t=some .bool)∨(∃k,kk=.prim .i∧P.underlying t=some (.int k))∨(kk=.prim .s∧P.underlying t=some .string)∨
  ∃fs ks,kk=.flat ks∧P.underlying t=some (.struct fs)∧fQ P 10 t=some ks:=by
 obtain⟨h1,h2⟩:=Cy hk
 simp only [eqT] at h1
 cases hu:P.underlying t with
 | none=>simp [hu] at h1
 | some u=>
  rw [hu] at h1
  cases u<;>try (simp at h1;done)
  ·simp only [U0] at h1;subst h1;simp
  ·simp only [U0] at h1;subst h1;simp
  ·simp only [U0] at h1;subst h1;simp
  ·simp only [U0] at h1;subst h1;rcases h2 with⟨_,h2⟩ | ⟨_,h2⟩<;>cases h2
  ·simp only [U0] at h1;subst h1;rcases h2 with⟨_,h2⟩ | ⟨_,h2⟩<;>cases h2
  ·simp only [U0] at h1;subst h1;rcases h2 with⟨_,h2⟩ | ⟨_,h2⟩<;>cases h2
  ·rename_i fs
   simp only at h1
   cases hf:fQ P 10 t with
   | none=>simp [hf] at h1
   | some ks=>
    simp only [hf] at h1
    split at h1
    ·cases h1
     exact .inr (.inr (.inr ⟨fs,ks,rfl,rfl,rfl⟩))
    ·cases h1
  ·simp only [U0] at h1;subst h1;rcases h2 with⟨_,h2⟩ | ⟨_,h2⟩<;>cases h2
theorem Ka {kk:EqK}{t:TypeId}(hk:Gd P t=some kk){k y:j5}{b:Bool}(hn:k.cells.length=NA kk)(h:BK kk k y=some b)(e:Bool)(w:World):
  (Instr.checkKey e 10000 t (H6 ι k)).run P w=.ok () w:=by
 rcases wB hk with⟨rfl,hu⟩ | ⟨_,rfl,hu⟩ | ⟨rfl,hu⟩ | ⟨fs,ks,rfl,hu,hf⟩
 ·exact dS (.inl hu) e _ _ w
 ·exact dS (.inr (.inl ⟨_,hu⟩)) e _ _ w
 ·exact dS (.inr (.inr hu)) e _ _ w
 ·obtain⟨l,rfl,_⟩:=fV h
  obtain⟨agg,ha,_,_,hc⟩:=Ih (P:=P) (ι:=ι) 10 t ks hf
  rw [lF hu] at ha;cases ha
  have:=hc 10000 (by decide) l (Nat.le_of_eq hn.symm) e w
  simpa [mkV,H6] using this
theorem Kc {kk:EqK}{d:TypeDesc}(h:(kk=.prim .b∧d=.bool)∨(∃k,kk=.prim .i∧d=.int k)∨(kk=.prim .s∧d=.string))(x y:j5)(r:Bool)(he:BK kk x y=some r):
  Instr.sameNow d (H6 ι x) (H6 ι y)=some r:=by
 rcases h with⟨rfl,rfl⟩ | ⟨k,rfl,rfl⟩ | ⟨rfl,rfl⟩
 ·obtain⟨a,b,rfl,rfl,rfl⟩:=gU he
  simp [H6,Instr.sameNow]
 ·obtain⟨k,a,b,rfl,rfl,rfl⟩:=nW he
  simp [H6,Instr.sameNow]
 ·obtain⟨a,b,rfl,rfl,rfl⟩:=nX he
  simp [H6,Instr.sameNow,lG]
theorem qO {kk:EqK}{t:TypeId}(hk:Gd P t=some kk){k:j5}{es:List (j5×j5)}{r:Option (Nat×j5)}(h:findKey (BK kk) k es 0=some r)(w:World):
  (Instr.findKey t (H6 ι k) (M7 ι es 0)).run P w=.ok (uX ι r) w:=by
 have prim:∀d,P.underlying t=some d→((kk=.prim .b∧d=.bool)∨(∃k,kk=.prim .i∧d=.int k)∨(kk=.prim .s∧d=.string))→
   (Instr.findKey t (H6 ι k) (M7 ι es 0)).run P w=.ok (uX ι r) w:=by
  intro d hu hd
  simp [Instr.findKey,run_underlying hu,qN (Kc hd) k es 0 0 r h]
 rcases wB hk with⟨rfl,hu⟩ | ⟨_,rfl,hu⟩ | ⟨rfl,hu⟩ | ⟨fs,ks,rfl,hu,hf⟩
 ·exact prim _ hu (.inl ⟨rfl,rfl⟩)
 ·exact prim _ hu (.inr (.inl ⟨_,rfl,rfl⟩))
 ·exact prim _ hu (.inr (.inr ⟨rfl,rfl⟩))
 ·have ha:=mH (P:=P) (ι:=ι) (t:=t) (fun x y r he w=>vZ (Cy hk).1 he w) k w es 0 0 r h
  cases es with
  | nil=>rw [K4] at h;cases h;simp [Instr.findKey,run_underlying hu,M7,Instr.findNow,uX]
  | cons e es=>
   simp only [Instr.findKey,avy,run_underlying hu,avs]
   simp only [M7,Instr.findNow,Instr.sameNow]
   exact ha
theorem sJ {f:EqF}{k:j5}:∀{es:List (j5×j5)} {i:Nat} {p:Nat×j5},findKey f k es i=some (some p)→
  ∃j e,p.1=i+j∧es[j]?=some e∧e.2=p.2∧f k e.1=some true
 | [],i,p,h=>by rw [K4] at h;cases h
 | e::es,i,p,h=>by
  rw [J8] at h
  obtain⟨b,h1,h2⟩:=J6 h
  cases b with
  | true=>cases h2;exact⟨0,e,rfl,rfl,rfl,h1⟩
  | false=>
   obtain⟨j,e',h3,h4,h5⟩:=sJ h2
   exact⟨j+1,e',by omega,by simpa using h4,h5⟩
end
section
variable {P:Program}{G:Mem}{slots:List Nat}{done:List (Option Nat)}
inductive wC (P:Program)(slots:List Nat)(done:List (Option Nat)):Op→ROp→Prop
 | load {t x sz x'}:partT P t=some sz→bK P slots done x=some x'→wC P slots done (.load t x) (.load sz x')
 | look {t kt e kk z ok x k x' k'}:P.underlying t=some (.map kt e)→Gd P kt=some kk→zeroV P e=some z→bK P slots done x=some x'→bK P slots done k=some k'→
   wC P slots done (.lookup t x k ok) (.look kk z ok x' k')
 | lenM {c t kt e x x'}:c.callee=.builtin .len→c.argTypes.toList=[t]→c.args.toList=[x]→P.underlying t=some (.map kt e)→bK P slots done x=some x'→
   wC P slots done (.call c) (.lenM x')
 | bytesStr {a b e x x'}:P.underlying a=some (.slice e)→P.underlying b=some .string→P.underlying e=some (.int .u8)→bK P slots done x=some x'→
   wC P slots done (.convert a b x) (.bytesStr x')
 | entry {x x'}:bK P slots done x=some x'→wC P slots done (.entry x) (.entry x')
set_option maxHeartbeats 1000000 in
theorem qP {op:Op}{ro:ROp}(h:cOp P slots done op=some (.r ro)):wC P slots done op ro:=by
 cases op with
 | load t x=>
  obtain⟨sz,h1,h⟩:=bind_eq h
  obtain⟨x',h2,h⟩:=bind_eq h
  cases h;exact .load h1 h2
 | lookup t x k ok=>
  obtain⟨u,hu,h⟩:=bind_eq h
  split at h
  ·obtain⟨kk,h1,h⟩:=bind_eq h
   obtain⟨z,h2,h⟩:=bind_eq h
   obtain⟨x',h3,h⟩:=bind_eq h
   obtain⟨k',h4,h⟩:=bind_eq h
   cases h;exact .look hu h1 h2 h3 h4
  ·cases h
 | entry x=>
  obtain⟨x',h2,h⟩:=bind_eq h
  cases h;exact .entry h2
 | convert a b x=>
  obtain⟨u,hu,h⟩:=bind_eq h
  obtain⟨v,hv,h⟩:=bind_eq h
  split at h
  ·obtain⟨_,_,h⟩:=bind_eq h;cases h
  ·obtain⟨_,_,h⟩:=bind_eq h
   split at h
   ·obtain⟨_,_,h⟩:=bind_eq h;cases h
   ·cases h
  ·obtain⟨w,hw,h⟩:=bind_eq h
   split at h
   ·obtain⟨x',hx,h⟩:=bind_eq h;cases h;exact .bytesStr hu hv hw hx
   ·cases h
  ·cases h
 | call c=>
  simp only [cOp] at h
  split at h
  ·rename_i b hb
   simp only [qE] at h
   split at h
   ·rename_i h1 h2
    obtain⟨u,hu,h⟩:=bind_eq h
    split at h
    ·obtain⟨_,_,h⟩:=bind_eq h;cases h
    ·obtain⟨_,_,h⟩:=bind_eq h;cases h
    ·cases h
    ·obtain⟨x',hx,h⟩:=bind_eq h;cases h;exact .lenM hb h1 h2 hu hx
    ·cases h
   all_goals (repeat' (first | (cases h;done) | (obtain⟨_,_,h⟩:=bind_eq h) | split at h))
  ·obtain⟨_,_,h⟩:=bind_eq h
   split at h
   ·obtain⟨_,_,h⟩:=bind_eq h;cases h
   ·cases h
  ·obtain⟨_,_,h⟩:=bind_eq h
   obtain⟨_,_,h⟩:=bind_eq h;cases h
  ·cases h
 | build t parts=>
  simp only [cOp,vQ] at h
  repeat' (first | (cases h;done) | split at h)
 | slice t x lo hi mx=>
  cases mx with
  | some m=>simp only [cOp] at h;cases h
  | none=>
   simp only [cOp] at h
   repeat' (first | (cases h;done) | (obtain⟨_,_,h⟩:=bind_eq h) | split at h)
 | next it str=>
  cases str with
  | true=>simp only [cOp] at h;cases h
  | false=>simp only [cOp] at h;obtain⟨_,_,h⟩:=bind_eq h;cases h
 | _=>
  simp only [cOp] at h
  repeat' (first | (cases h;done) | (obtain⟨_,_,h⟩:=bind_eq h) | split at h)
inductive oZ (P:Program)(slots:List Nat)(done:List (Option Nat)):Op→LOp→Prop
 | alloc {t z}:sD P t=some z→oZ P slots done (.alloc t) (.alloc z)
 | box {t x x'}:bK P slots done x=some x'→oZ P slots done (.box t x) (.box x')
 | buildSlice {t len parts e es ps z}:P.underlying t=some (.slice e)→jM P e=some es→uj P slots done (fun i=>some (i*es,es)) parts.toList=some ps→len*es≤16777216→
   sD P e=some z→oZ P slots done (.buildSlice t len parts) (.buildSlice es len z ps)
 | mkMap {t}:oZ P slots done (.makeMap t none) .mkMap
 | mkMapN {t k n kt e}:P.underlying t=some (.map kt e)→oZ P slots done (.makeMap t (some (.const (.int k n)))) .mkMap
 | mkSlice {t l c e es by' z l' c'}:P.underlying t=some (.slice e)→jM P e=some es→iD P e=some by'→Qb P e=some z→bK P slots done l=some l'→bK P slots done c=some c'→
   oZ P slots done (.makeSlice t l c) (.mkSlice es by' z l' c')
 | strBytes {a b e x x'}:P.underlying a=some .string→P.underlying b=some (.slice e)→P.underlying e=some (.int .u8)→bK P slots done x=some x'→
   oZ P slots done (.convert a b x) (.strBytes x')
 | sl {t x lo hi e es x' lo' hi'}:P.underlying t=some (.slice e)→jM P e=some es→bK P slots done x=some x'→cOpt P slots done lo=some lo'→cOpt P slots done hi=some hi'→
   oZ P slots done (.slice t x lo hi none) (.sl es x' lo' hi')
set_option maxHeartbeats 1000000 in
theorem vw {op:Op}{lo:LOp}(h:cOp P slots done op=some (.a lo)):oZ P slots done op lo:=by
 cases op with
 | alloc t=>
  obtain⟨z,h1,h⟩:=bind_eq h
  cases h;exact .alloc h1
 | box t x=>
  obtain⟨z,h1,h⟩:=bind_eq h
  cases h;exact .box h1
 | buildSlice t len parts=>
  obtain⟨u,hu,h⟩:=bind_eq h
  split at h
  ·obtain⟨es,h1,h⟩:=bind_eq h
   obtain⟨ps,h2,h⟩:=bind_eq h
   split at h
   ·rename_i hle
    obtain⟨z,h3,h⟩:=bind_eq h
    cases h;exact .buildSlice hu h1 h2 hle h3
   ·cases h
  ·cases h
 | makeMap t r=>
  simp only [cOp] at h
  split at h
  ·cases h;exact .mkMap
  ·split at h
   ·rename_i hu;cases h;exact .mkMapN hu
   ·cases h
  ·cases h
 | makeSlice t l c=>
  obtain⟨u,hu,h⟩:=bind_eq h
  split at h
  ·obtain⟨_,h1,h⟩:=bind_eq h
   obtain⟨_,h2,h⟩:=bind_eq h
   obtain⟨_,h3,h⟩:=bind_eq h
   obtain⟨_,h4,h⟩:=bind_eq h
   obtain⟨_,h5,h⟩:=bind_eq h
   cases h;exact .mkSlice hu h1 h2 h3 h4 h5
  ·cases h
 | convert a b x=>
  obtain⟨u,hu,h⟩:=bind_eq h
  obtain⟨v,hv,h⟩:=bind_eq h
  split at h
  ·obtain⟨_,_,h⟩:=bind_eq h;cases h
  ·obtain⟨w,hw,h⟩:=bind_eq h
   split at h
   ·obtain⟨_,hx,h⟩:=bind_eq h;cases h;exact .strBytes hu hv hw hx
   ·cases h
  ·obtain⟨w,hw,h⟩:=bind_eq h
   split at h
   ·obtain⟨x',hx,h⟩:=bind_eq h;cases h
   ·cases h
  ·cases h
 | slice t x lo hi mx=>
  cases mx with
  | some m=>simp only [cOp] at h;cases h
  | none=>
   simp only [cOp] at h
   obtain⟨u,hu,h⟩:=bind_eq h
   split at h
   ·obtain⟨_,_,h⟩:=bind_eq h
    obtain⟨_,_,h⟩:=bind_eq h
    obtain⟨_,_,h⟩:=bind_eq h;cases h
   ·obtain⟨_,h1,h⟩:=bind_eq h
    obtain⟨_,h2,h⟩:=bind_eq h
    obtain⟨_,h3,h⟩:=bind_eq h
    obtain⟨_,h4,h⟩:=bind_eq h
    cases h;exact .sl hu h1 h2 h3 h4
   ·obtain⟨_,_,h⟩:=bind_eq h
    obtain⟨_,_,h⟩:=bind_eq h
    obtain⟨_,_,h⟩:=bind_eq h
    obtain⟨_,_,h⟩:=bind_eq h;cases h
   ·cases h
 | call c=>
  simp only [cOp] at h
  split at h
  ·simp only [qE] at h
   split at h
   all_goals (repeat' (first | (cases h;done) | (obtain⟨_,_,h⟩:=bind_eq h) | split at h))
  ·obtain⟨_,_,h⟩:=bind_eq h
   split at h
   ·obtain⟨_,_,h⟩:=bind_eq h;cases h
   ·cases h
  ·obtain⟨_,_,h⟩:=bind_eq h
   obtain⟨_,_,h⟩:=bind_eq h;cases h
  ·cases h
 | build t parts=>
  simp only [cOp,vQ] at h
  repeat' (first | (cases h;done) | split at h)
 | next it str=>
  cases str with
  | true=>simp only [cOp] at h;cases h
  | false=>simp only [cOp] at h;obtain⟨_,_,h⟩:=bind_eq h;cases h
 | _=>
  simp only [cOp] at h
  repeat' (first | (cases h;done) | (obtain⟨_,_,h⟩:=bind_eq h) | split at h)
inductive qQ (P:Program)(slots:List Nat)(done:List (Option Nat)):Op→EOp→Prop
 | store {t a x k a' x'}:jM P t=some k→bK P slots done a=some a'→bK P slots done x=some x'→qQ P slots done (.store t a x) (.store k a' x')
 | mapUpdate {t m k x kt e kk m' k' x'}:P.underlying t=some (.map kt e)→Gd P kt=some kk→bK P slots done m=some m'→bK P slots done k=some k'→bK P slots done x=some x'→
   qQ P slots done (.mapUpdate t m k x) (.mapSet kk m' k' x')
 | insert {t m k x kt e kk m' k' x'}:P.underlying t=some (.map kt e)→Gd P kt=some kk→bK P slots done m=some m'→bK P slots done k=some k'→bK P slots done x=some x'→
   qQ P slots done (.insert t m k x) (.mapSet kk m' k' x')
 | range {t x k e x'}:P.underlying t=some (.map k e)→bK P slots done x=some x'→qQ P slots done (.range t x) (.range x')
 | next {x x'}:bK P slots done x=some x'→qQ P slots done (.next x false) (.next x')
 | app {c t u s x e es z by' s' x' d}:P.underlying u=some d→c.callee=.builtin .append→c.argTypes.toList=[t,u]→c.args.toList=[s,x]→P.underlying t=some (.slice e)→
   jM P e=some es→Qb P e=some z→iD P e=some by'→bK P slots done s=some s'→bK P slots done x=some x'→
   qQ P slots done (.call c) (.app es (match d with | .int _=>true | _=>false) z by' s' x')
 | copy {c t u d s e es d' s'}:c.callee=.builtin .copy→c.argTypes.toList=[t,u]→c.args.toList=[d,s]→P.underlying t=some (.slice e)→
   jM P e=some es→bK P slots done d=some d'→bK P slots done s=some s'→qQ P slots done (.call c) (.copy es d' s')
 | clear {c t x e z x'}:c.callee=.builtin .clear→c.argTypes.toList=[t]→c.args.toList=[x]→P.underlying t=some (.slice e)→
   sD P e=some z→bK P slots done x=some x'→qQ P slots done (.call c) (.clear z x')
 | call {c f fn as}:c.callee=.value (.func f)→P.funcs[f]?=some fn→fn.body.isSome=true→fn.name≠ "runtime.NumGoroutine"→kS P slots done c.args.toList=some as→
   qQ P slots done (.call c) (.call f as)
 | panic {x x'}:bK P slots done x=some x'→qQ P slots done (.panic x) (.panic x')
 | defer {c f f' as}:c.callee=.value f→bK P slots done f=some f'→kS P slots done c.args.toList=some as→qQ P slots done (.defer c) (.defer f' as)
 | recover {c}:c.callee=.builtin .recover→qQ P slots done (.call c) .recover
 | callv {c f f' as}:c.callee=.value f→bK P slots done f=some f'→kS P slots done c.args.toList=some as→
   qQ P slots done (.call c) (.callv f' as)
set_option maxHeartbeats 1000000 in
theorem wD {op:Op}{eo:EOp}(h:cOp P slots done op=some (.e eo)):qQ P slots done op eo:=by
 cases op with
 | store t a x=>
  obtain⟨_,h1,h⟩:=bind_eq h
  obtain⟨_,h2,h⟩:=bind_eq h
  obtain⟨_,h3,h⟩:=bind_eq h
  cases h;exact .store h1 h2 h3
 | mapUpdate t m k x=>
  obtain⟨u,hu,h⟩:=bind_eq h
  split at h
  ·obtain⟨_,h1,h⟩:=bind_eq h
   obtain⟨_,h2,h⟩:=bind_eq h
   obtain⟨_,h3,h⟩:=bind_eq h
   obtain⟨_,h4,h⟩:=bind_eq h
   cases h;exact .mapUpdate hu h1 h2 h3 h4
  ·cases h
 | insert t m k x=>
  obtain⟨u,hu,h⟩:=bind_eq h
  split at h
  ·obtain⟨_,h1,h⟩:=bind_eq h
   obtain⟨_,h2,h⟩:=bind_eq h
   obtain⟨_,h3,h⟩:=bind_eq h
   obtain⟨_,h4,h⟩:=bind_eq h
   cases h;exact .insert hu h1 h2 h3 h4
  ·cases h
 | range t x=>
  obtain⟨u,hu,h⟩:=bind_eq h
  split at h
  ·obtain⟨_,h1,h⟩:=bind_eq h
   cases h;exact .range hu h1
  ·cases h
 | next it str=>
  cases str with
  | true=>simp only [cOp] at h;cases h
  | false=>simp only [cOp] at h;obtain⟨_,h1,h⟩:=bind_eq h;cases h;exact .next h1
 | panic x=>
  obtain⟨_,h1,h⟩:=bind_eq h
  cases h;exact .panic h1
 | defer c=>
  simp only [cOp] at h
  split at h
  ·obtain⟨_,h1,h⟩:=bind_eq h
   obtain⟨_,h2,h⟩:=bind_eq h
   cases h;exact .defer (by assumption) h1 h2
  ·cases h
 | convert a b x=>
  obtain⟨u,hu,h⟩:=bind_eq h
  obtain⟨v,hv,h⟩:=bind_eq h
  repeat' (first | (cases h;done) | (obtain⟨_,_,h⟩:=bind_eq h) | split at h)
 | slice t x lo hi mx=>
  cases mx with
  | some m=>simp only [cOp] at h;cases h
  | none=>
   simp only [cOp] at h
   repeat' (first | (cases h;done) | (obtain⟨_,_,h⟩:=bind_eq h) | split at h)
 | call c=>
  simp only [cOp] at h
  split at h
  ·rename_i b hb
   simp only [qE] at h
   split at h
   ·repeat' (first | (cases h;done) | (obtain⟨_,_,h⟩:=bind_eq h) | split at h)
   ·repeat' (first | (cases h;done) | (obtain⟨_,_,h⟩:=bind_eq h) | split at h)
   ·rename_i h1 h2
    obtain⟨u,hu,h⟩:=bind_eq h
    split at h
    ·obtain⟨_,hd,h⟩:=bind_eq h
     obtain⟨_,h3,h⟩:=bind_eq h
     obtain⟨_,h4,h⟩:=bind_eq h
     obtain⟨_,h5,h⟩:=bind_eq h
     obtain⟨_,h6,h⟩:=bind_eq h
     obtain⟨_,h7,h⟩:=bind_eq h
     cases h
     exact .app hd hb h1 h2 hu h3 h4 h5 h6 h7
    ·cases h
   ·rename_i h1 h2
    obtain⟨u,hu,h⟩:=bind_eq h
    split at h
    ·obtain⟨_,h3,h⟩:=bind_eq h
     obtain⟨_,h4,h⟩:=bind_eq h
     obtain⟨_,h5,h⟩:=bind_eq h
     cases h
     exact .copy hb h1 h2 hu h3 h4 h5
    ·cases h
   ·rename_i h1 h2
    obtain⟨u,hu,h⟩:=bind_eq h
    split at h
    ·obtain⟨_,h3,h⟩:=bind_eq h
     obtain⟨_,h4,h⟩:=bind_eq h
     cases h
     exact .clear hb h1 h2 hu h3 h4
    ·cases h
   all_goals (first | (cases h;exact .recover hb;done) | (repeat' (first | (cases h;done) | (obtain⟨_,_,h⟩:=bind_eq h) | split at h)))
  ·rename_i f hf
   obtain⟨fn,h1,h⟩:=bind_eq h
   split at h
   ·rename_i hc
    obtain⟨as,h2,h⟩:=bind_eq h;cases h
    simp only [avv,bne_iff_ne,ne_eq] at hc
    exact .call hf h1 hc.1 hc.2 h2
   ·cases h
  ·rename_i f hf _
   obtain⟨_,h1,h⟩:=bind_eq h
   obtain⟨_,h2,h⟩:=bind_eq h;cases h
   exact .callv (by assumption) h1 h2
  ·cases h
 | build t parts=>
  simp only [cOp,vQ] at h
  repeat' (first | (cases h;done) | split at h)
 | _=>
  simp only [cOp] at h
  repeat' (first | (cases h;done) | (obtain⟨_,_,h⟩:=bind_eq h) | split at h)
end
section
variable {P:Program}{G:Mem}{ι:Inj}{m:Mem}{w:World}{slots:List Nat}{done:List (Option Nat)}{ls:List j5}{env:T j5}{a:Act}
def Ke (P:Program)(ρ:Operand→Value)(op:Op)(v:Value)(w:World):Prop:=
 ∀(o:Oper),o.op=op→(execOp ρ o).run P w=.ok (.value v) w
theorem jg {r:Nat}{o:Obj}(h:w.heap[r]?=some o)(ho:∀c e fz,o≠.cells c e fz):(getObj r).run P w=.ok o w:=by
 simp only [getObj,Sem.run,h]
theorem Gi (hm:RM P G ι m w.heap){id:Nat}{es:List (j5×j5)}(hg:m.get id=some (.map es)):
  (getObj (ι id).b).run P w=.ok (.map (M7 ι es 0).toArray es.length) w∧∀e∈es,e.1.lt (m.nm ι)∧e.2.lt (m.nm ι):=by
 obtain⟨h1,h2⟩:=hm.blk id _ hg
 exact⟨jg h1 (by intro _ _ _ e;cases e),h2⟩
def zx (ι:Inj)(ok:Bool)(z:j5)(r:Option (Nat×j5)):Value:=match r with
 | some p=>if ok then .tuple #[H6 ι p.2,.bool true] else H6 ι p.2
 | none=>if ok then .tuple #[H6 ι z,.bool false] else H6 ι z
theorem EG {ok:Bool}{z v:j5}{r:Option (Nat×j5)}(h:found ok z r=some v){n:Nm}(hz:z.lt n)(hr:∀p,r=some p→p.2.lt n):
  v.lt n∧H6 ι v=zx ι ok z r:=by
 cases r with
 | none=>
  have h:some (bi ok (.tuple [z,.bool false]) z)=some v:=h
  cases h
  cases ok<;>simp [bi,j5.lt,ltL,H6,H8,hz,zx]
 | some p=>
  have h:some (bi ok (.tuple [p.2,.bool true]) p.2)=some v:=h
  cases h
  have:=hr p rfl
  cases ok<;>simp [bi,j5.lt,ltL,H6,H8,this,zx]
theorem uD (w:World){t kt e:TypeId}{kk:EqK}{z:j5}(hu:P.underlying t=some (.map kt e))(hk:Gd P kt=some kk)(hz:zeroV P e=some z){ok:Bool}{k v:j5}
  {es:List (j5×j5)} {r:Option (Nat×j5)} {n:Nm} (hes:∀e∈es,e.1.lt n∧e.2.lt n) (hf:dn (BK kk) (NA kk) k es=some r) (hv:found ok z r=some v):
  v.lt n∧∀x,(x=.map none∧es=[])∨(∃b,x=.map (some b)∧∀w',w'=w→(getObj b).run P w'=.ok (.map (M7 ι es 0).toArray es.length) w')→
   (Instr.lookup t x (H6 ι k) ok).run P w=.ok (H6 ι v) w:=by
 obtain⟨h1,⟨y,b,h2⟩,h3⟩:=uz hf
 obtain⟨hz1,hz2⟩:=mV (w:=w) hz ι
 obtain⟨g1,g2⟩:=EG (ι:=ι) hv (hz2 n) (fun p hp=>by
  subst hp
  obtain⟨j,e',_,h5,h6,_⟩:=sJ h3
  rw [← h6];exact (hes e' (avG h5)).2)
 refine⟨g1,fun x hx=>?_⟩
 have hc:=fun b'=>Ka (ι:=ι) hk h1 h2 b' w
 have hfk:=qO (ι:=ι) hk h3 w
 rcases hx with⟨rfl,rfl⟩ | ⟨b,rfl,hb⟩
 ·simp only [Instr.lookup,avy,run_underlying hu,avs,avP,hc]
  rw [show Instr.findKey kt (H6 ι k) []=Instr.findKey kt (H6 ι k) (M7 ι [] 0) from rfl,hfk]
  simp only [avs]
  rw [K4] at h3;cases h3
  simp [uX,hz1,g2,zx]
 ·simp only [Instr.lookup,avy,run_underlying hu,avs,hb w rfl,avP,hc]
  rw [hfk]
  simp only [avs]
  cases r with
  | none=>simp [uX,hz1,g2,zx]
  | some p=>simp [uX,g2,zx]
theorem uE:∀(l:List j5) (s:List UInt8),byteOf l=some s→∀(acc:ByteArray) (w:World),
  (forIn (H8 ι l) acc (fun c (r:ByteArray)=>match c with
   | .int .u8 n=>pure (ForInStep.yield (r.push (UInt8.ofNat n.toNat)))
   | _=>do stuck "bytesToString: byte expected";pure (ForInStep.yield r)):Sem ByteArray).run P w=.ok ⟨acc.data++s.toArray⟩ w
 | [],s,h,acc,w=>by simp [byteOf] at h;subst h;simp [H8]
 | v::l,s,h,acc,w=>by
  cases v<;>try (simp [byteOf] at h;done)
  rename_i k n
  cases k<;>try (simp [byteOf] at h;done)
  cases n with
  | negSucc n=>simp [byteOf] at h
  | ofNat n=>
   simp only [byteOf] at h
   cases hb:byteOf l with
   | none=>simp [hb] at h
   | some s'=>
    simp only [hb,U0] at h;subst h
    simp only [H8,H6,axC,avy,avP,avs]
    rw [uE l s' hb]
    congr 1
    simp [ByteArray.push]
theorem jB {x:Value}{m:Mem}(hm:RM P G ι m w.heap){id off len c:Nat}(hx:x=.slice (some (ι.at id off)) len c){l:List j5}{s:List UInt8}
  (h1:R4 m id off len=some l) (h2:byteOf l=some s):(Conv.bytesToString x).run P w=.ok (H6 ι (.str s)) w:=by
 obtain⟨g1,_,g3⟩:=iE hm h1
 have h:=lI (P:=P) g3
 rw [g1] at h
 subst hx
 have:=uE (P:=P) (ι:=ι) l s h2 ByteArray.empty w
 simp only [Conv.bytesToString,avy,h,avs]
 rw [← axI]
 erw [this]
 simp [H6,avP]
theorem uF (ι:Inj):∀(es:List (j5×j5)) (i j:Nat),(M7 ι es j).find? (fun e=>e.born==j+i)=(es[i]?).map fun e=>{key:=H6 ι e.1,val:=H6 ι e.2,born:=j+i}
 | [],i,j=>by simp [M7]
 | e::es,0,j=>by simp [M7]
 | e::es,i+1,j=>by
  simp only [M7,List.find?_cons]
  rw [show (j==j+(i+1))=false from by simp]
  simp only [awv]
  have:=uF ι es i (j+1)
  rw [show j+1+i=j+(i+1) from by omega] at this
  exact this
theorem Aw {β:Type}{b:Option Blk}{nl:Option β}{k:Nat→Nat→List Nat→Option β}{r:β}(h:Ny b nl k=some r):
  (∃s l,b=some (.iter none s l)∧nl=some r)∨∃mp s l,b=some (.iter (some mp) s l)∧k mp s l=some r:=by
 match b,h with
 | some (.iter none s l),h=>exact .inl ⟨s,l,rfl,h⟩
 | some (.iter (some mp) s l),h=>exact .inr ⟨mp,s,l,rfl,h⟩
theorem nZ (s:St P ι (m.nm ι) slots done ls env a.tmps)(hm:RM P G ι m w.heap){op:Op}{ro:ROp}(h:wC P slots done op ro){v:j5}(hv:trR ro ls env m=some v):
  v.lt (m.nm ι)∧Ke P a.eval op (H6 ι v) w:=by
 cases h with
 | @load t x sz x' h1 h2=>
  obtain⟨e1,_⟩:=I5 s h2
  have key:∀id off,trO x' ls env=.ptr id off→aO (m.get id) (fun rs n rows=>match sz with | none=>cell1 rs n rows off | some k=>ob (mO rs n rows off k) fun l=>some (.agg l))=some v→
    v.lt (m.nm ι)∧Ke P a.eval (.load t x) (H6 ι v) w:=by
   intro id off hx hc
   obtain⟨g1,g2⟩:=qM h1 hm hc
   refine⟨g2,fun o ho=>?_⟩
   simp [execOp,ho,e1,hx,H6,Instr.loadAt,Instr.sureAddr,g1]
  cases sz with
  | none=>obtain⟨id,off,hx,hc⟩:=iQ hv;exact key id off hx hc
  | some k=>obtain⟨id,off,hx,hc⟩:=iQ hv;exact key id off hx hc
 | @look t kt e kk z ok x k x' k' hu hk hz hx hkk=>
  obtain⟨e1,e1'⟩:=I5 s hx
  obtain⟨e2,_⟩:=I5 s hkk
  rcases sF hv with⟨hx,h⟩ | ⟨id,hx,h⟩
  ·obtain⟨r,h3,h4⟩:=J6 h
   obtain⟨g1,g2⟩:=uD (ι:=ι) w hu hk hz (n:=(m.nm ι)) (by simp) h3 h4
   refine⟨g1,fun o ho=>?_⟩
   have:=g2 (.map none) (.inl ⟨rfl,rfl⟩)
   have hx:trO x' ls env=.nilMap:=hx
   simp [execOp,ho,e1,hx,H6,e2,this]
  ·obtain⟨es,h1,h2⟩:=wo h
   obtain⟨r,h3,h4⟩:=J6 h2
   obtain⟨o1,o2⟩:=Gi hm h1
   obtain⟨g1,g2⟩:=uD (ι:=ι) w hu hk hz o2 h3 h4
   refine⟨g1,fun o ho=>?_⟩
   have:=g2 (.map (some (ι id).b)) (.inr ⟨_,rfl,fun w' hw=>by subst hw;exact o1⟩)
   have hx:trO x' ls env=.map id:=hx
   simp [execOp,ho,e1,hx,H6,e2,this]
 | @lenM c t kt e x x' hc hts has hu hx=>
  obtain⟨e1,_⟩:=I5 s hx
  have hts:c.argTypes=#[t]:=by rw [← hts,awf]
  have has:c.args=#[x]:=by rw [← has,awf]
  rcases sF hv with⟨hx,h⟩ | ⟨id,hx,h⟩
  ·cases h
   have hx:trO x' ls env=.nilMap:=hx
   exact⟨by simp [j5.lt],fun o ho=>by simp [execOp,ho,resolve,hc,has,hts,invoke,builtin,Builtin.len_,run_underlying hu,e1,hx,H6,goInt]⟩
  ·obtain⟨es,h1,h2⟩:=wo h
   obtain⟨o1,o2⟩:=Gi hm h1
   cases h2
   have hx:trO x' ls env=.map id:=hx
   exact⟨by simp [j5.lt],fun o ho=>by simp [execOp,ho,resolve,hc,has,hts,invoke,builtin,Builtin.len_,run_underlying hu,e1,hx,H6,goInt,o1]⟩
 | @bytesStr t b e x x' h1 h2 h3 hx=>
  obtain⟨e1,_⟩:=I5 s hx
  rcases uq hv with⟨hx,h⟩ | ⟨id,off,len,cap,hx,h⟩ | ⟨id,off,len,cap,hx,h⟩
  ·cases h
   have hx:trO x' ls env=.nilSlice:=hx
   refine⟨by simp [j5.lt],fun o ho=>?_⟩
   simp [execOp,ho,e1,hx,H6,convert,run_underlying h1,run_underlying h2,run_underlying h3,Conv.bytesToString]
   rfl
  ·obtain⟨l,h4,h⟩:=J6 h
   obtain⟨str,h5,h⟩:=J6 h
   cases h
   have hx:trO x' ls env=.slice id off len cap:=hx
   have:=jB hm (x:=a.eval x) (by rw [e1,hx];rfl) h4 h5
   refine⟨by simp [j5.lt],fun o ho=>?_⟩
   rw [e1,hx] at this
   simp only [H6] at this
   simp [execOp,ho,e1,hx,H6,convert,run_underlying h1,run_underlying h2,run_underlying h3,this]
  ·obtain⟨l,h4,h⟩:=J6 h
   obtain⟨str,h5,h⟩:=J6 h
   cases h
   have hx:trO x' ls env=.sliceU id off len cap:=hx
   have:=jB hm (x:=a.eval x) (by rw [e1,hx];rfl) h4 h5
   refine⟨by simp [j5.lt],fun o ho=>?_⟩
   rw [e1,hx] at this
   simp only [H6] at this
   simp [execOp,ho,e1,hx,H6,convert,run_underlying h1,run_underlying h2,run_underlying h3,this]
 | @entry x x' hx=>
  obtain⟨e1,_⟩:=I5 s hx
  obtain⟨id,off,hx,h⟩:=iQ hv
  have hx:trO x' ls env=.ptr id off:=hx
  obtain⟨h0,h⟩:=L6 h
  obtain rfl:off=0:=avt h0
  rcases Aw h with⟨_,_,_,h⟩ | ⟨mp,since,seen,hit,h⟩
  ·cases h
  ·cases seen with
   | nil=>cases h
   | cons i seen=>
    have h:vEs (m.get mp) (fun es=>bi (Nat.beq (len' es) since) (ob (Ae i es) fun e=>some (.tuple [e.1,e.2])) none)=some v:=h
    obtain⟨es,hes,h⟩:=wo h
    obtain⟨h1,h⟩:=L6 h
    have h1:=avt h1
    rw [Q5] at h1
    obtain⟨e,h2,h⟩:=J6 h
    rw [jv] at h2
    cases h
    obtain⟨b1,b2,sn,st,b3,b4,b5⟩:=hm.blk id _ hit
    have hsp:=hm.spot id _ hit rfl
    obtain⟨c1,c2⟩:=Gi hm hes
    have he:=c2 e (avG h2)
    refine⟨by simp [j5.lt,ltL,he],fun o ho=>?_⟩
    have hst:st=since:=b5 (by simp)
    have hback:sn.back?=some i:=by
     have:=congrArg List.head? b4
     simpa [List.head?_reverse] using this
    have hfind:(M7 ι es 0).toArray.find? (fun e=>e.born==i)=some {key:=H6 ι e.1,val:=H6 ι e.2,born:=i}:=by
     have:=uF ι es i 0
     rw [h2] at this
     simpa using this
    have hit:=jg (P:=P) b3 (by intro _ _ _ e;cases e)
    have hev:a.eval x=.pointer (some ⟨(ι id).b,0,none⟩):=by rw [e1,hx];simp [H6,Inj.at,b1,hsp]
    simp [execOp,ho,hev,Instr.entry,hit,hback,c1,hst,h1,hfind,H6,H8]
end
section
variable {P:Program}{G:Mem}{ι:Inj}{n:Nm}{slots:List Nat}{done:List (Option Nat)}{ls:List j5}{env:T j5}{a:Act}
theorem EH (rs:Nat)(l:List j5)(r:List (List j5))(h:rowsOf rs 0 l=some r):l=[]∧r=[]:=by
 cases l with
 | nil=>cases h;exact⟨rfl,rfl⟩
 | cons=>cases h
theorem EI (rs k:Nat)(l:List j5):rowsOf rs (k+1) l=ob (takeN rs l) fun r=>ob (rowsOf rs k (jk rs l)) fun rest=>some (r::rest):=rfl
theorem eX (rs:Nat):∀(k:Nat) (l:List j5) (r:List (List j5)),rowsOf rs k l=some r→
  l.length=k*rs∧r.length=k∧∀i,i<k→∃row,r[i]?=some row∧row.length=rs∧∀j,j<rs→row[j]?=l[i*rs+j]?:=by
 intro k
 induction k with
 | zero=>intro l r h;obtain⟨rfl,rfl⟩:=EH rs l r h;simp
 | succ k ih=>
  intro l r h
  rw [EI] at h
  obtain⟨x,h1,h⟩:=J6 h
  obtain⟨y,h2,h⟩:=J6 h
  cases h
  obtain⟨rfl,hl⟩:=jd _ _ _ h1
  rw [eO] at h2
  obtain⟨g1,g2,g3⟩:=ih _ _ h2
  rw [awT] at g1
  refine⟨by rw [awq];omega,by simp [g2],fun i hi=>?_⟩
  cases i with
  | zero=>exact⟨_,rfl,by simp;omega,fun j hj=>by simp [hj]⟩
  | succ i=>
   obtain⟨row,e1,e2,e3⟩:=g3 i (by omega)
   refine⟨row,by simpa using e1,e2,fun j hj=>?_⟩
   rw [e3 j hj,axH]
   congr 1
   rw [awq];omega
theorem Gj {h:Array Obj}{l:Loc}{es k:Nat}{cells:List j5}{rl:List (List j5)}(hr:rowsOf es k cells=some rl){c:Array Value}{e:TypeId}{fz:Nat×Nat}
  (ho:h[l.b]?=some (Obj.cells c e fz)) (h0:l.base=0) (hc:l.cap=c.size) (hlt:ltL n cells) (hat:∀(j:Nat) (v:j5),cells[j]?=some v→c[j]?=some (H6 ι v)) (hlen:cells.length≤c.size):
  fT P ι n h l (.cells es k (T.ofList rl)):=by
 obtain⟨h1,h2,h3⟩:=eX _ _ _ _ hr
 refine⟨c,e,fz,ho,by omega,⟨by omega,rl.length,by omega,T.iJ rl⟩,fun i hi=>?_⟩
 obtain⟨row,g1,g2,g3⟩:=h3 i hi
 refine⟨row,by rw [T.aS];exact g1,g2,cZ.2 fun v hv=>?_,fun j hj=>?_⟩
 ·obtain⟨j,hj⟩:=avU hv
  have hj':j<es:=axb (S9.1 hj).1 g2
  rw [g3 j hj'] at hj
  exact P9 hlt (avG hj)
 ·rw [g3 j hj,h0,avS]
  have hb:i*es+j<cells.length:=by
   rw [h1]
   calc i*es+j<i*es+es:=by omega
    _=(i+1)*es:=by rw [awq]
    _≤k*es:=avR _ hi
  rw [U1 hb]
  exact hat _ _ (U1 hb)
theorem NJ {h:Array Obj}{l:Loc}{cs:List j5}{e:TypeId}{fz:Nat×Nat}
  (ho:h[l.b]?=some (.cells (H8 ι cs).toArray e fz)) (h0:l.base=0) (hc:l.cap=cs.length) (hlt:ltL n cs):fT P ι n h l (A9 cs):=by
 refine⟨_,e,fz,ho,by simp;omega,⟨by simp;omega,1,D5 1,.nd .e .e⟩,fun i hi=>?_⟩
 obtain rfl:i=0:=by omega
 refine⟨cs,rfl,(Q5 cs).symm,hlt,fun j hj=>?_⟩
 rw [h0]
 simp [aZ]
theorem Cz {nid:Nat}{l:Loc}{cs:List j5}(hn:¬ n nid)(h:ltL n cs):H8 (ι.upd nid l) cs=H8 ι cs:=
 dJ (n:=n) (fun i hi=>ι.upd_ne l (fun e=>hn (by subst e;exact hi))) cs h
theorem Gl {nid:Nat}{l:Loc}{v:j5}(hn:¬ n nid)(h:v.lt n):H6 (ι.upd nid l) v=H6 ι v:=
 V9 (n:=n) (fun i hi=>ι.upd_ne l (fun e=>hn (by subst e;exact hi))) v h
structure Makes (P:Program)(ι:Inj)(n:Nm)(ρ:Operand→Value)(op:Op)(nid:Nat)(v:j5)(b:Blk)(w:World)(l:Loc)(obj:Obj)(w':World):Prop where
 loc:l.b=w.heap.size
 spot:l.spot=none
 run:∀o:Oper,o.op=op→(execOp ρ o).run P w=.ok (.value (H6 (ι.upd nid l) v)) w'
 grew:Zh w w' obj
 live:iV b=false
 free:∀c e fz,obj=.cells c e fz→∀k,k<c.size→¬ (fz.1≤k∧k<fz.2)
 blk:∀n':Nm,n.le n'→n' nid→n'.cap nid=l.cap→fT P (ι.upd nid l) n' (w.heap.push obj) l b∧v.lt n'
inductive oh (P:Program)(ι:Inj)(n:Nm)(ρ:Operand→Value)(op:Op)(nid:Nat)(w:World):j5×Option Blk→Prop
 | none {v}:v.lt n→Gives P ρ op (H6 ι v)→oh P ι n ρ op nid w (v,none)
 | made {v b} (l:Loc) (obj:Obj) (w':World):Makes P ι n ρ op nid v b w l obj w'→oh P ι n ρ op nid w (v,some b)
 | tail {v p} (l:Loc):n p→(l.cap=0∨(l.b=(ι p).b∧l.base+l.cap≤(ι p).base+(ι p).cap∧((ι p).spot=none→l.spot=none)))→Gives P ρ op (H6 (ι.upd nid l) v)→(∀n':Nm,n.le n'→n' nid→n'.cap nid=l.cap→v.lt n')→
   oh P ι n ρ op nid w (v,some (.tail p))
theorem fZ {w:World}{o:Obj}:(w.heap.push o)[w.heap.size]?=some o:=by simp
theorem CB {op:Op}{nid:Nat}{w:World}{cs:List j5}(hn:¬ n nid)(hlt:ltL n cs){e:TypeId}
  (hrun:∀o:Oper,o.op=op→(execOp a.eval o).run P w=.ok (.value (.pointer (some ⟨w.heap.size,0,none⟩))) {w with heap:=w.heap.push (.cells (H8 ι cs).toArray e)}):
  oh P ι n a.eval op nid w (.ptr nid 0,some (A9 cs)):=by
 refine .made ⟨w.heap.size,0,cs.length,none⟩ (.cells (H8 ι cs).toArray e) {w with heap:=w.heap.push (.cells (H8 ι cs).toArray e)} ⟨rfl,rfl,fun o ho=>?_,⟨rfl,rfl,rfl,rfl⟩,rfl,fun c e' fz h k hk=>?_,fun n' hm hnn _=>⟨?_,hnn⟩⟩
 ·rw [hrun o ho];simp [H6,Inj.at]
 ·cases h;simp
 ·rw [← Cz (l:=⟨w.heap.size,0,cs.length,none⟩) hn hlt]
  exact NJ fZ rfl rfl (dR hm _ hlt)
theorem fD (e:TypeId)(cs:Array Value)(w:World):(newRow e cs).run P w=.ok ⟨w.heap.size,0,none⟩ {w with heap:=w.heap.push (.cells cs e)}:=by
 simp [newRow,newObj,Sem.run]
theorem nk (z:List j5)(k:Nat):U5 z (k+1)=z++U5 z k:=by show jl z (U5 z k)=_;rw [ak]
theorem uG (z:List j5):U5 z 0=[]:=rfl
theorem cK (z:List j5):∀k,(U5 z k).length=k*z.length
 | 0=>by simp [uG]
 | k+1=>by rw [nk,awk,cK z k,awq];omega
theorem om {z:List j5}(h:ltL n z):∀k,ltL n (U5 z k)
 | 0=>trivial
 | k+1=>by
  rw [nk,cZ]
  intro v hv
  rcases avN.1 hv with hv | hv
  ·exact P9 h hv
  ·exact P9 (om h k) hv
theorem pV (z:List j5):∀(k i:Nat),i<k*z.length→(U5 z k)[i]?=z[i%z.length]?
 | 0,i,h=>by simp at h
 | k+1,i,h=>by
  rw [nk]
  by_cases hi:i<z.length
  ·rw [avY hi,awz hi]
  ·have hi:z.length≤i:=aw2 hi
   rw [awm hi,pV z k _ (by rw [awq] at h;omega),← Nat.mod_eq_sub_mod hi]
theorem Ay (z:List j5)(k:Nat):(Array.range (k*z.length)).map (fun i=>(H8 ι z).toArray[i%(H8 ι z).toArray.size]!)=(H8 ι (U5 z k)).toArray:=by
 apply Array.ext
 ·simp [cK]
 ·intro i h1 h2
  have h3:i<k*z.length:=by simpa using h1
  have hz:0<z.length:=axJ fun e=>by rw [e] at h3;simp at h3
  have hm:i%z.length<z.length:=awr _ hz
  have h4:=pV z k i h3
  rw [Array.getElem_map,Array.getElem_range]
  have h5:(H8 ι (U5 z k))[i]?=some (H8 ι z)[i%z.length]!:=by
   rw [aZ,h4,U1 hm]
   simp [bH,hm]
  have h6:(H8 ι (U5 z k)).toArray[i]?=some ((H8 ι z).toArray[i%(H8 ι z).toArray.size]!):=by
   simpa using h5
  rw [avX h2] at h6
  exact (avA h6).symm
theorem NK {op:Op}{nid:Nat}{w:World}{cells:List j5}(hn:¬ n nid)(hlt:ltL n cells){e:TypeId}{es k len:Nat}{rl:List (List j5)}(hr:rowsOf es k cells=some rl)
  (hrun:∀o:Oper,o.op=op→(execOp a.eval o).run P w=.ok (.value (.slice (some ⟨w.heap.size,0,none⟩) len k)) {w with heap:=w.heap.push (.cells (H8 ι cells).toArray e)}):
  oh P ι n a.eval op nid w (.slice nid 0 len k,some (.cells es k (T.ofList rl))):=by
 refine .made ⟨w.heap.size,0,cells.length,none⟩ (.cells (H8 ι cells).toArray e) {w with heap:=w.heap.push (.cells (H8 ι cells).toArray e)} ⟨rfl,rfl,fun o ho=>?_,⟨rfl,rfl,rfl,rfl⟩,rfl,fun c e' fz h k hk=>?_,fun n' hm hnn _=>⟨?_,hnn⟩⟩
 ·rw [hrun o ho];simp [H6,Inj.at]
 ·cases h;simp
 ·rw [← Cz (l:=⟨w.heap.size,0,cells.length,none⟩) hn hlt]
  exact Gj hr fZ rfl (by simp) (dR hm _ hlt) (fun j v hj=>by simp [aZ,hj]) (by simp)
theorem wE {t:TypeId}{z:List j5}(h:Qb P t=some z):sD P t=some z∧jM P t=some z.length:=by
 simp only [Qb] at h
 split at h
 ·split at h
  ·cases h;rename_i h1 h2 h3;exact⟨h2,by rw [h1,h3]⟩
  ·cases h
 ·cases h
theorem run_askRoom (k:Nat)(w:World):(askRoom k).run P w=.ok () w:=by
 unfold askRoom
 split<;>simp [mark,Sem.run]
theorem sK (e:TypeId)(c:Array Value)(hp:Array Obj)(w:World):
  (markStringish ⟨hp.size,0,none⟩).run P {w with heap:=hp.push (.cells c e)}=.ok () {w with heap:=hp.push (.cells c e (c.size,c.size+1))}:=by
 simp only [markStringish,avy,run_shape,World.shape?,avs]
 have hm:∀(f:Obj→Obj),(hp.push (.cells c e)).modify hp.size f=hp.push (f (.cells c e)):=by
  intro f
  apply Array.ext
  ·simp
  ·intro i h1 h2
   rw [Array.getElem_modify]
   simp only [Array.size_push,Array.size_modify] at h1 h2
   by_cases h:hp.size=i
   ·subst h;simp
   ·have:i<hp.size:=by omega
    simp [h,Array.getElem_push_lt this]
 simp [World.freeze,hm]
theorem oo (s:St P ι n slots done ls env a.tmps)(hcp:∀i,n i→n.cap i=(ι i).cap){nid:Nat}(hn:¬ n nid){op:Op}{lo:LOp}(h:oZ P slots done op lo){r:j5×Option Blk}(hv:trL lo ls env nid=some r)(w:World):
  oh P ι n a.eval op nid w r:=by
 cases h with
 | @alloc t z hz=>
  cases hv
  obtain⟨v,h1,h2,h3⟩:=dK (w:=w) hz ι
  exact CB (e:=t) hn (h3 n) fun o ho=>by simp [execOp,ho,Instr.alloc,h1,newVar,fD,h2]
 | @box t x x' hx=>
  cases hv
  obtain⟨e1,e2⟩:=I5 s hx
  exact CB (e:=t) hn (vk e2) fun o ho=>by simp [execOp,ho,Instr.box,e1,newVar,fD,kT]
 | @mkMap t=>
  cases hv
  refine .made ⟨w.heap.size,0,0,none⟩ (.map #[] 0) {w with heap:=w.heap.push (.map #[] 0)} ⟨rfl,rfl,fun o ho=>?_,⟨rfl,rfl,rfl,rfl⟩,rfl,(fun c e' fz h=>by cases h),fun n' hm hnn _=>⟨⟨?_,by simp⟩,hnn⟩⟩
  ·simp [execOp,ho,Instr.makeMap,H6,newObj,Sem.run]
  ·simp [M7]
 | @mkMapN t k m kt e hu=>
  cases hv
  refine .made ⟨w.heap.size,0,0,none⟩ (.map #[] 0) {w with heap:=w.heap.push (.map #[] 0)} ⟨rfl,rfl,fun o ho=>?_,⟨rfl,rfl,rfl,rfl⟩,rfl,(fun c e' fz h=>by cases h),fun n' hm hnn _=>⟨⟨?_,by simp⟩,hnn⟩⟩
  ·simp [execOp,ho,Instr.makeMap,H6,newObj,Sem.run,run_underlying hu,Act.eval,asInt,asIntOf]
  ·simp [M7]
 | @buildSlice t len parts e es ps z hu hes hps hle hz=>
  obtain⟨cells,h1,hv⟩:=J6 hv
  obtain⟨rl,h2,hv⟩:=J6 hv
  cases hv
  obtain⟨v,hz1,hz2,hz3⟩:=dK (P:=P) (w:=w) hz ι
  obtain⟨g1,g2,g3⟩:=wm s _ parts.toList ps hps _ cells (om (hz3 n) len) h1
  obtain⟨r1,_,_⟩:=eX _ _ _ _ h2
  rw [cK] at g3
  have harr:(parts.map fun p=>(p.1,a.eval p.2)).toList=parts.toList.map fun p=>(p.1,a.eval p.2):=by simp
  refine NK (e:=e) hn g2 h2 fun o ho=>?_
  have hnl:¬ len*es>2^24:=by have:(2:Nat)^24=16777216:=rfl
                             omega
  simp only [execOp,ho,Instr.buildSlice,avy,run_underlying hu,avs,run_sizeOf hes,if_neg hnl,avP]
  have key:∀Z:Array Value,(len*es=0∨Z=(H8 ι z).toArray)→(Array.range (len*es)).map (fun i=>Z[i%Z.size]!)=(H8 ι (U5 z len)).toArray:=by
   intro Z hZ
   by_cases h0:len*es=0
   ·have:U5 z len=[]:=axD (by rw [cK];omega)
    rw [this,h0];simp [H8]
   ·rcases hZ with h | rfl
    ·exact absurd h h0
    ·have hm:len*z.length=len*es:=by omega
     have hp:0<len:=axJ fun e=>h0 (by rw [e,awF])
     have hzl:z.length=es:=Nat.eq_of_mul_eq_mul_left hp hm
     rw [← hzl];exact Ay z len
  by_cases h0:len*es=0
  ·rw [if_pos h0]
   simp only [avy,avP,avs,harr,key #[] (.inl h0),g1]
   simp [fD]
  ·rw [if_neg h0]
   simp only [avy,hz1,avP,avs,harr,hz2,key _ (.inr rfl),g1]
   simp [fD]
 | @mkSlice t l c e es by' z l' c' hu hes hby hz hl hc=>
  obtain⟨hz0,hzs⟩:=wE hz
  rw [hes] at hzs;cases hzs
  obtain⟨i,len,h1,hv⟩:=eU hv
  obtain⟨j,cap,h2,hv⟩:=eU hv
  obtain⟨g1,hv⟩:=L6 hv
  obtain⟨g2,hv⟩:=L6 hv
  obtain⟨g3,hv⟩:=L6 hv
  cases hv
  have g1:len≤cap:=avC g1
  have g2:by'*cap≤281474976710656:=avC g2
  have g3:cap<9223372036854775808:=Eq.mp avM g3
  have h1:trO l' ls env=.int i (len:Int):=h1
  have h2:trO c' ls env=.int j (cap:Int):=h2
  obtain⟨e1,_⟩:=I5 s hl
  obtain⟨e2,_⟩:=I5 s hc
  obtain⟨info,hi1,hi2⟩:=qI (w:=w) hby
  obtain⟨v,hz1,hz2,hz3⟩:=dK (P:=P) (w:=w) hz0 ι
  have hlen:=cK z cap
  have hrun:∀o:Oper,o.op=.makeSlice t l c→(execOp a.eval o).run P w=.ok (.value (.slice (some ⟨w.heap.size,0,none⟩) len cap)) {w with heap:=w.heap.push (.cells (H8 ι (U5 z cap)).toArray e)}:=by
   intro o ho
   have w1:IntKind.i64.wrap (len:Int)=len:=vV _ ⟨by omega,by omega⟩
   have w2:IntKind.i64.wrap (cap:Int)=cap:=vV _ ⟨by omega,by omega⟩
   have hbig:¬ ((by':Int)*(cap:Int)>2^48):=by
    have:((by'*cap:Nat):Int)=(by':Int)*(cap:Int):=by simp
    rw [← this]
    have h48:(2:Int)^48=281474976710656:=rfl
    rw [h48];omega
   simp only [execOp,ho,Instr.makeSlice,avy,run_underlying hu,avs,e1,e2,h1,h2,H6,asInt,asIntOf,avP,hi1,hi2,w1,w2]
   rw [if_neg (by simp only [awO,decide_eq_true_eq,not_or];exact⟨⟨⟨by omega,hbig⟩,by omega⟩,by omega⟩)]
   simp only [avy,run_askRoom,avs,run_sizeOf hes,axR]
   by_cases h0:cap*z.length=0
   ·have hnil:U5 z cap=[]:=axD (by rw [hlen];exact h0)
    have hr0:∀f:Nat→Value,(Array.range 0).map f=#[]:=by intro f;simp
    simp only [avy,avP,avs,h0,hnil,if_true,hr0]
    simp [fD,H8]
   ·have hk:=Ay (ι:=ι) z cap
    simp only [if_neg h0,avy,avP,avs,hz1,hz2,hk]
    simp [fD]
  refine .made ⟨w.heap.size,0,(U5 z cap).length,none⟩ (.cells (H8 ι (U5 z cap)).toArray e) {w with heap:=w.heap.push (.cells (H8 ι (U5 z cap)).toArray e)} ⟨rfl,rfl,fun o ho=>?_,⟨rfl,rfl,rfl,rfl⟩,rfl,fun c e' fz h k hk=>?_,fun n' hm hnn _=>⟨?_,hnn⟩⟩
  ·rw [hrun o ho];simp [H6,Inj.at]
  ·cases h;simp
  ·refine⟨_,_,_,fZ,by simp,⟨by simp [hlen],cap,D5 _,by simpa using T.Qe z cap .e 0 .e⟩,fun i hi=>⟨z,?_,rfl,hz3 _,fun j hj=>?_⟩⟩
   ·rw [T.JN _ _ _ _ T.Ok.e];simp [hi]
   ·have hb:i*z.length+j<cap*z.length:=by
     calc i*z.length+j<i*z.length+z.length:=by omega
      _=(i+1)*z.length:=by rw [awq]
      _≤cap*z.length:=avR _ hi
    rw [avS,awC,aZ,pV _ _ _ hb]
    rw [show (i*z.length+j)%z.length=j from by rw [awx,ax6,awz hj]]
    rw [U1 hj]
    simp [Gl (l:=⟨w.heap.size,0,(U5 z cap).length,none⟩) hn (P9 (hz3 n) (awj hj))]
 | @strBytes t u e x x' h1 h2 h3 hx=>
  obtain⟨str,h4,hv⟩:=mX hv
  obtain⟨rl,h5,hv⟩:=J6 hv
  cases hv
  have h4:trO x' ls env=.str str:=h4
  obtain⟨e1,_⟩:=I5 s hx
  have hbl:∀l:List UInt8,bytesOf l=l.map fun b=>j5.int .u8 b.toNat:=by
   intro l
   induction l with
   | nil=>rfl
   | cons b l ih=>simp [bytesOf,ih]
  rw [Q5] at *
  generalize hcap:str.length+w.tape w.drawn (.appendCap str.length 0 e)%(2^63-str.length)=cap
  have hle:str.length≤cap:=by omega
  let cells:Array Value:=(H8 ι (bytesOf str)).toArray++Array.replicate (cap-str.length) (.int .u8 0)
  have hsz:cells.size=cap:=by simp [cells,hbl];omega
  have hlt:ltL n (bytesOf str):=by
   rw [hbl,cZ];intro v hv
   obtain⟨b,_,rfl⟩:=awy.1 hv
   simp [j5.lt]
  have hrun:∀o:Oper,o.op=.convert t u x→(execOp a.eval o).run P w =
    .ok (.value (.slice (some ⟨w.heap.size,0,none⟩) str.length cap)) {w with heap:=w.heap.push (.cells cells e (cap,cap+1)),drawn:=w.drawn+1}:=by
   intro o ho
   simp only [execOp,ho,avy,convert,run_underlying h1,run_underlying h2,run_underlying h3,avs,e1,h4,H6,Conv.stringToBytes]
   rw [run_choose]
   simp only [Question.forced,awg,if_false,avs,Question.cut,nU,hcap]
   have hc:(⟨str.toArray⟩:ByteArray).data.map (fun b=>Value.int .u8 b.toNat)++Array.replicate (cap-str.length) (.int .u8 0)=cells:=by
    simp only [cells,hbl,bH,List.map_map]
    congr 1
    simp [H6,Function.comp_def]
   have hc:str.toArray.map (fun b=>Value.int .u8 b.toNat)++Array.replicate (cap-str.length) (.int .u8 0)=cells:=hc
   rw [hc,fD]
   simp only [avs]
   rw [sK e cells w.heap {w with drawn:=w.drawn+1}]
   simp [hsz]
  refine .made ⟨w.heap.size,0,cap,none⟩ (.cells cells e (cap,cap+1)) {w with heap:=w.heap.push (.cells cells e (cap,cap+1)),drawn:=w.drawn+1} ⟨rfl,rfl,fun o ho=>?_,⟨rfl,rfl,rfl,rfl⟩,rfl,fun c e' fz h k hk=>?_,fun n' hm hnn hcp=>⟨?_,⟨hnn,D5 1,by rw [hcp];show 0+str.length*1≤cap;omega⟩⟩⟩
  ·rw [hrun o ho];simp [H6,Inj.at]
  ·cases h;rw [hsz] at hk;simp;omega
  ·refine Gj h5 fZ rfl hsz.symm (dR hm _ hlt) (fun j v hj=>?_) (by rw [hsz,hbl];simpa using hle)
   have hjl:j<(bytesOf str).length:=(S9.1 hj).1
   have hv:=P9 hlt (avG hj)
   rw [Gl (l:=⟨w.heap.size,0,cap,none⟩) hn hv]
   simp only [cells]
   rw [axN (by simpa using hjl)]
   simp [aZ,hj]
 | @sl t x lo hi e es x' lo' hi' hu hes hx hlo hhi=>
  obtain⟨e1,e2⟩:=I5 s hx
  have hv:fP (su lo') 0 ls env (fun l=>Option.rec (R9 nid es (trO x' ls env) l none) (fun h=>oQ (h ls env) fun h=>R9 nid es (trO x' ls env) l (some h)) (su hi'))=some r:=hv
  generalize hX:trO x' ls env=X at *
  have hb:∀d,(∀l,R9 nid es X l none=R9 nid es X l (some d))→
    ∃l h,R9 nid es X l (some h)=some r∧∀cap w,l≤h→h≤cap→(Instr.sliceBounds true d cap (lo.map a.eval) (hi.map a.eval) none).run P w=.ok (l,h,cap) w:=by
   intro d hd
   have h':fP (su lo') 0 ls env (fun l=>fP (su hi') d ls env fun h=>R9 nid es X l (some h))=some r:=by
    rw [← hv];congr 1;funext l
    cases hhi':su hi' with
    | none=>simp only [fP];exact (hd l).symm
    | some f=>rfl
   obtain⟨l,h,g1,_,_,g2⟩:=ng s hlo hhi h'
   exact⟨l,h,g1,fun cap w p q=>g2 true d cap w rfl p q⟩
  have hslice:∀(ad:Option Addr) (len cap l h:Nat) (w:World),H6 ι X=.slice ad len cap→(Instr.sliceBounds true len cap (lo.map a.eval) (hi.map a.eval) none).run P w=.ok (l,h,cap) w→
    ∀o:Oper,o.op=.slice t x lo hi none→(execOp a.eval o).run P w=.ok (.value (.slice (if cap=l then ad else ad.map (·.add (l*es))) (h-l) (cap-l))) w:=by
   intro ad len cap l h w hc hbd o ho
   simp [execOp,ho,Instr.sliceAt,run_underlying hu,Instr.slice,e1,hc,hbd,run_sizeOf hes]
  cases X with
  | nilSlice=>
   obtain⟨l,h,g1,g2⟩:=hb 0 (fun l=>by simp [R9,vSl,awU])
   have g1:bi (Nat.beq l 0) (bi (Nat.beq h 0) (some (j5.nilSlice,none)) none) none=some r:=g1
   obtain⟨q1,g1⟩:=L6 g1
   obtain⟨q2,g1⟩:=L6 g1
   obtain rfl:=avt q1
   obtain rfl:=avt q2
   cases g1
   refine .none (by simp [j5.lt]) fun o ho w=>?_
   rw [hslice none 0 0 0 0 w rfl (g2 0 w (D5 _) (D5 _)) o ho]
   rfl
  | slice id off len cap=>
   obtain⟨l,h,g1,g2⟩:=hb len (fun l=>rfl)
   have g1:R9.known es l id off cap h=some r:=g1
   simp only [R9.known] at g1
   obtain⟨q1,g1⟩:=L6 g1
   obtain⟨q2,g1⟩:=L6 g1
   have q1:=avC q1
   have q2:=avC q2
   cases g1
   refine .none e2 fun o ho w=>?_
   rw [hslice _ len cap l h w rfl (g2 cap w q1 q2) o ho]
   simp only [H6,uy,awn,Inj.mW]
   by_cases hc:cap=l
   ·rw [if_pos hc,if_pos hc.symm];rfl
   ·rw [if_neg hc,if_neg (fun e=>hc e.symm)];rfl
  | sliceU id off len es'=>
   obtain⟨l,h,g1,g2⟩:=hb len (fun l=>rfl)
   have g1:R9.unk nid es l id off len es' h=some r:=g1
   simp only [R9.unk] at g1
   obtain⟨q1,p1⟩:=L6 g1
   obtain⟨q2,p2⟩:=L6 p1
   obtain⟨q3,p3⟩:=L6 p2
   clear g1 p1 p2
   have q1:=avC q1
   have q2:=avC q2
   obtain rfl:=avt q3
   obtain⟨hid,hes1,hcap⟩:=e2
   have hcap:off+len*es≤(n.cap id):=hcap
   rw [hcp id hid] at hcap
   have hlen:len≤((ι id).cap-off) / es:=(aw0 hes1).2 (by omega)
   have hX:H6 ι (.sliceU id off len es)=.slice (some (ι.at id off)) len (((ι id).cap-off) / es):=by simp [H6]
   have hrun:=fun w=>hslice _ _ _ l h w hX (g2 _ w q1 (avz q2 hlen))
   have hdiv:∀k,k*es≤(ι id).cap-off→((ι id).cap-(off+k*es)) / es=((ι id).cap-off) / es-k:=by
    intro k hk
    rw [← Nat.sub_sub,awx k es,Nat.sub_mul_div]
   cases hlt:Nat.blt l len with
   | true=>
    have g1:some (j5.sliceU id (off+l*es) (h-l) es,none)=some r:=by rw [hlt] at p3;exact p3
    have hll:l<len:=Eq.mp avM hlt
    cases g1
    have hle:h*es≤len*es:=avR _ q2
    have hsum:l*es+(h-l)*es=h*es:=by rw [← awS];congr 1;omega
    refine .none ⟨hid,hes1,by rw [hcp id hid];omega⟩ fun o ho w=>?_
    rw [hrun w o ho,if_neg (by omega)]
    simp only [H6,awn,Inj.mW]
    rw [hdiv l (by have:l*es≤len*es:=avR _ (by omega)
                   omega)]
   | false=>
    have hge:len≤l:=by
     rcases awL l len with hh | hh
     ·rw [(Eq.mpr avM hh:Nat.blt l len=true)] at hlt;cases hlt
     ·exact hh
    have g1:bi (Nat.beq l 0) (some (j5.sliceU id off (h-l) es,none)) (some (.sliceU nid 0 0 es,some (.tail id)))=some r:=by rw [hlt] at p3;exact p3
    rw [uy] at g1
    split at g1
    ·rename_i h0
     subst h0
     cases g1
     obtain rfl:len=0:=by omega
     obtain rfl:h=0:=by omega
     refine .none ⟨hid,hes1,by rw [hcp id hid];omega⟩ fun o ho w=>?_
     rw [hrun w o ho]
     simp only [H6,awn,Inj.mW,awF,awl,Nat.sub_zero,ite_self]
    ·cases g1
     obtain rfl:l=len:=by omega
     obtain rfl:h=l:=by omega
     by_cases hc:((ι id).cap-off) / es=h
     ·refine .tail ⟨(ι id).b,(ι id).base+off,0,if off=0 then (ι id).spot else none⟩ hid (.inl rfl) (fun o ho w=>?_) fun n' hm hnn hcp=>⟨hnn,hes1,by rw [hcp];simp⟩
      rw [hrun w o ho,if_pos hc,hc]
      simp [H6,Inj.at]
     ·refine .tail ⟨(ι id).b,(ι id).base+(off+h*es),(ι id).cap-(off+h*es),if off+h*es=0 then (ι id).spot else none⟩ hid (.inr ⟨rfl,by show (ι id).base+(off+h*es)+((ι id).cap-(off+h*es))≤(ι id).base+(ι id).cap;omega,fun hh=>by show (if off+h*es=0 then (ι id).spot else none)=none;rw [hh];simp⟩) (fun o ho w=>?_) fun n' hm hnn hcp=>⟨hnn,hes1,by rw [hcp];simp⟩
      rw [hrun w o ho,if_neg hc,← hdiv h (by omega)]
      have key:=Inj.mW ι id off (h*es)
      simp only [H6,awn,key]
      simp [Inj.at]
  | _=>obtain⟨l,h,g1,_⟩:=hb 0 (fun l=>rfl);cases g1
end
theorem Mem.nu {m:Mem}(h:T.Ok m.t m.next){id:Nat}{b b':Blk}(hg:m.get id=some b)(hb':iV b'=false)(i:Nat)(hi:m.has i):(m.set id b').has i:=by
 obtain⟨x,h1,h2⟩:=hi
 by_cases he:i=id
 ·subst he;exact⟨b',by rw [Mem.ay h (Mem.M8 h hg),if_pos rfl],hb'⟩
 ·exact⟨x,by rw [Mem.ay h (Mem.M8 h hg),if_neg he];exact h1,h2⟩
theorem getElem?_set_ne (a:Array Obj)(i j:Nat)(o:Obj)(h:i≠j):(a.setIfInBounds i o)[j]?=a[j]?:=avH h
structure Put (w w':World)(b:Nat)(o:Obj):Prop where
 heap:w'.heap=w.heap.setIfInBounds b o
 os:w'.os=w.os
 out:w'.output=w.output
 tape:w'.tape=w.tape
theorem Step.set {P:Program}{G:Mem}{ι:Inj}{m:Mem}{w w':World}(h:RM P G ι m w.heap){id:Nat}{b b':Blk}(hid:m.lim≤id)(hg:m.get id=some b)(hl:aV b=true)
  (hb':iV b'=false) {o:Obj} (hw:Put w w' (ι id).b o)
  (hblk:fT P ι ((m.set id b').nm ι) (w.heap.setIfInBounds (ι id).b o) (ι id) b')
  (hf:∀c e fz,o=.cells c e fz→∀k,k<c.size→¬ (fz.1≤k∧k<fz.2)):
  Step P G ι m w ι (m.set id b') w':=by
 have hlt:=Mem.M8 h.ok hg
 have hget:=Mem.ay h.ok hlt b'
 have hhas:=fun i hi=>Mem.nu h.ok hg hb' i hi
 have hown:=h.own id b hid hg hl
 have hbnd:(ι id).b<w.heap.size:=dx (h.blk id b hg) hl
 refine⟨⟨h.ok.put id b' hlt,?_,?_,h.glim,h.limn,h.gle,fun i hi=>by rw [hget,if_neg (by have:=h.glim;omega)];exact h.base i hi,fun i hi=>hhas i (h.ghas i hi),h.glob,fun i x hx hlx=>by
   rw [hget] at hx
   split at hx
   ·rename_i e;subst e;exact h.spot i b hg hl
   ·exact h.spot i x hx hlx,h.JU fun b₁ hb₁ ho=>by
   rw [hw.heap,getElem?_set_ne]
   intro e
   exact ho ⟨id,b,hid,hg,hl,e⟩⟩,fun _ _=>rfl,hhas,D5 _,rfl,?_,by rw [hw.heap];simp,?_,?_,hw.os,hw.out,hw.tape⟩
 ·intro i x hx
  rw [hget] at hx
  rw [hw.heap]
  split at hx
  ·rename_i e;subst e;cases hx;exact hblk
  ·rename_i e
   exact (h.blk i x hx).mono (n:=m.nm ι) (fun _ _=>rfl) (Mem.bU hhas fun _ _=>rfl) (fun hlx=>getElem?_set_ne _ _ _ _ (fun e'=>hown.alone i x e hx hlx e'.symm))
 ·intro i x hi hx hlx
  rw [hget] at hx
  have key:∀j y,m.get j=some y→aV y=true→j≠i→∀(z:Blk),m.get i=some z→aV z=true→(ι j).b≠(ι i).b:=fun j y hy hly hji z hz hlz=>(h.own i z hi hz hlz).alone j y hji hy hly
  have hi':∃z,m.get i=some z∧aV z=true:=by
   split at hx
   ·rename_i e;subst e;exact⟨b,hg,hl⟩
   ·exact⟨x,hx,hlx⟩
  obtain⟨z,hz,hlz⟩:=hi'
  refine⟨fun j y hj hy hly=>?_,fun c e fz hc=>?_⟩
  ·rw [hget] at hy
   split at hy
   ·rename_i ej;subst ej;exact key j b hg hl hj z hz hlz
   ·exact key j y hy hly hj z hz hlz
  ·by_cases he:i=id
   ·subst he
    rw [hw.heap,avI hbnd] at hc
    exact hf c e fz (avA hc)
   ·rw [hw.heap,getElem?_set_ne _ _ _ _ (fun e'=>hown.alone i z he hz hlz e'.symm)] at hc
    exact (h.own i z hi hz hlz).free c e fz hc
 ·intro i hi
  rw [hget,if_neg (by omega)]
 ·intro b₁ hb₁ ho
  rw [hw.heap,getElem?_set_ne]
  intro e
  exact ho ⟨id,b,hid,hg,hl,e⟩
 ·rintro b₁ ⟨i,x,hi,hx,hlx,rfl⟩
  rw [hget] at hx
  split at hx
  ·rename_i e;subst e;exact .inl ⟨i,b,hid,hg,hl,rfl⟩
  ·exact .inl ⟨i,x,hi,hx,hlx,rfl⟩
theorem Step.kill {P:Program}{G:Mem}{ι:Inj}{m:Mem}{w:World}(h:RM P G ι m w.heap){id:Nat}{b:Blk}(hid:m.lim≤id)(hg:m.get id=some b):
  Step P G ι m w ι (m.set id .dead) w:=by
 have hlt:=Mem.M8 h.ok hg
 have hget:=Mem.ay h.ok hlt .dead
 have hhas:=fun i hi=>Mem.nu (b':=.dead) h.ok hg rfl i hi
 have hne:∀i x,(m.set id .dead).get i=some x→aV x=true→m.get i=some x:=fun i x hx hlx=>by
  rw [hget] at hx
  split at hx
  ·cases hx;cases hlx
  ·exact hx
 refine⟨⟨h.ok.put id .dead hlt,?_,?_,h.glim,h.limn,h.gle,fun i hi=>by rw [hget,if_neg (by have:=h.glim;omega)];exact h.base i hi,fun i hi=>hhas i (h.ghas i hi),h.glob,fun i x hx hlx=>h.spot i x (hne i x hx hlx) hlx,h.gsz⟩,fun _ _=>rfl,hhas,D5 _,rfl,?_,D5 _,fun _ _ _=>rfl,?_,rfl,rfl,rfl⟩
 ·intro i x hx
  rw [hget] at hx
  split at hx
  ·cases hx;trivial
  ·exact (h.blk i x hx).mono (n:=m.nm ι) (fun _ _=>rfl) (Mem.bU hhas fun _ _=>rfl) (fun _=>rfl)
 ·intro i x hi hx hlx
  have ho:=h.own i x hi (hne i x hx hlx) hlx
  exact⟨fun j y hj hy hly=>ho.alone j y hj (hne j y hy hly) hly,ho.free⟩
 ·intro i hi
  rw [hget,if_neg (by omega)]
 ·rintro b₁ ⟨i,x,hi,hx,hlx,rfl⟩
  exact .inl ⟨i,x,hi,hne i x hx hlx,hlx,rfl⟩
section
variable {P:Program}{G:Mem}{ι:Inj}{m:Mem}{w:World}{slots:List Nat}{done:List (Option Nat)}{ls:List j5}{env:T j5}{a:Act}
def gu (P:Program)(G:Mem)(ι:Inj)(m:Mem)(w:World)(outs:List VM)(v:Value)(w':World):Prop:=
 ∃r∈outs,∃ι',Step P G ι m w ι' r.m w'∧r.v.lt (r.m.nm ι')∧v=H6 ι' r.v
def Does (P:Program)(ρ:Operand→Value)(o:Oper)(w:World)(R:Value→World→Prop):Prop:=
 match (execOp ρ o).run P w with
 | .ok (.value v) w'=>R v w'
 | .ok .skip w'=>R undef w'
 | .ok (.enter f args) w'=>CallsIn Fence.wide 0 P f args w' fun e w''=>∃v,e=.returned v∧R v w''
 | .ok (.round l f tmps assign body) w'=>RoundIn Fence.wide 0 P l f tmps assign body w' fun e w''=>∃v,e=.returned v∧R v w''
 | _=>False
theorem Y9 {ρ:Operand→Value}{o:Oper}{R:Value→World→Prop}{v:Value}{w':World}(h:(execOp ρ o).run P w=.ok (.value v) w')(hR:R v w'):Does P ρ o w R:=by
 unfold Does;rw [h];exact hR
theorem CF {ρ:Operand→Value}{o:Oper}{R:Value→World→Prop}{w':World}(h:(execOp ρ o).run P w=.ok .skip w')(hR:R undef w'):Does P ρ o w R:=by
 unfold Does;rw [h];exact hR
theorem pX:∀{l:List j5},O7 l=true→∀v∈l,J5 v=true
 | [],_,v,hv=>by cases hv
 | x::l,h,v,hv=>by
  have h:bi (J5 x) (O7 l) false=true:=h
  cases hx:J5 x with
  | false=>rw [hx] at h;cases h
  | true=>
   rw [hx] at h
   rcases avL.1 hv with rfl | hv
   ·exact hx
   ·exact pX h v hv
theorem CG {v:j5}(h:J5 v=true):(∀l,H6 ι v≠.agg l)∧∀l,H6 ι v≠.tuple l:=by
 cases v<;>simp_all [J5,H6]
theorem run_store {ad:Addr}{v x:Value}{w:World}(hc:w.cell? ad=some x)(hf:w.frozen? ad=false)(h1:∀l,v≠.agg l)(h2:∀l,v≠.tuple l):
  (store ad v).run P w=.ok () (w.setCell ad v):=by
 cases v<;>first | exact absurd rfl (h1 _) | exact absurd rfl (h2 _) | simp [store,Sem.run,hc,hf]
def over (c:Array Value)(o:Nat):List Value→Array Value
 | []=>c
 | v::l=>over (c.setIfInBounds o v) (o+1) l
@[simp] theorem Zj (l:List Value):∀(c:Array Value) (o:Nat),(over c o l).size=c.size:=by
 induction l with
 | nil=>intro c o;rfl
 | cons v l ih=>intro c o;rw [over,ih];simp
theorem Az (l:List Value):∀(c:Array Value) (o:Nat),o+l.length≤c.size→∀i,(over c o l)[i]?=if i<o then c[i]? else if i<o+l.length then l[i-o]? else c[i]?:=by
 induction l with
 | nil=>intro c o h i;simp [over];omega
 | cons v l ih=>
  intro c o h i
  simp only [awp] at h ⊢
  rw [over,ih _ _ (by simp;omega)]
  by_cases h1:i<o
  ·rw [if_pos h1,if_pos (by omega),avH (by omega)]
  ·by_cases h2:i=o
   ·subst h2
    rw [if_pos (by omega),if_neg h1,if_pos (by omega),avI (by omega)];simp
   ·rw [if_neg (by omega),if_neg h1]
    by_cases h3:i<o+1+l.length
    ·rw [if_pos h3,if_pos (by omega),show i-o=(i-(o+1))+1 from by omega];simp
    ·rw [if_neg h3,if_neg (by omega),avH (by omega)]
theorem pz {b:Nat}{e:TypeId}{fz:Nat×Nat}:∀(vs:List Value) (c:Array Value) (base i:Nat) (w:World),w.heap[b]?=some (.cells c e fz)→
  base+i+vs.length≤c.size→(∀k,k<c.size→¬ (fz.1≤k∧k<fz.2))→(∀v∈vs,(∀l,v≠.agg l)∧∀l,v≠.tuple l)→
  (storeCells ⟨b,base,none⟩ vs i).run P w=.ok () {w with heap:=w.heap.setIfInBounds b (.cells (over c (base+i) vs) e fz)}:=by
 intro vs
 induction vs with
 | nil=>
  intro c base i w hb hl hf hv
  have:w.heap.setIfInBounds b (.cells c e fz)=w.heap:=by
   apply awK
   intro j
   by_cases hj:b=j
   ·subst hj;rw [avI (avx.1 hb).1,hb]
   ·rw [avH hj]
  simp [storeCells,over,this]
 | cons v vs ih=>
  intro c base i w hb hl hf hv
  simp only [awp] at hl
  have hin:base+i<c.size:=by omega
  have h1:=hv v (by simp)
  have hc:w.cell? ⟨b,base+i,none⟩=some c[base+i]:=by simp [World.cell?,hb,hin]
  have hfr:w.frozen? ⟨b,base+i,none⟩=false:=by
   have:=hf (base+i) hin
   simp only [World.frozen?,hb,Bool.and_eq_false_iff,decide_eq_false_iff_not]
   omega
  simp only [storeCells,avy]
  rw [show (⟨b,base,none⟩:Addr).add i=⟨b,base+i,none⟩ from by simp [Addr.add],run_store hc hfr h1.1 h1.2,avs]
  have hset:w.setCell ⟨b,base+i,none⟩ v={w with heap:=w.heap.setIfInBounds b (.cells (c.setIfInBounds (base+i) v) e fz)}:=by
   simp only [World.setCell]
   congr 1
   apply awK
   intro j
   rw [Array.getElem?_modify]
   by_cases hj:b=j
   ·subst hj;rw [if_pos rfl,hb,avI (avx.1 hb).1];simp
   ·rw [if_neg hj,avH hj]
  rw [hset,ih (c.setIfInBounds (base+i) v) base (i+1) _ (by simp [avI (avx.1 hb).1]) (by simp;omega) (by simpa using hf) (fun x hx=>hv x (by simp [hx]))]
  congr 2
  simp [over,avw]
theorem AA {rs n off:Nat}{rows rows':T (List j5)}{vs:List j5}(h:aX rs n rows off vs=some rows'):
  off / rs<n∧∃row,rows.get (off / rs)=some row∧off%rs+vs.length≤rs∧rows'=rows.put (off / rs) (mM (off%rs) vs row):=by
 obtain⟨h1,h⟩:=L6 h
 obtain⟨row,h2,h⟩:=J6 h
 obtain⟨h3,h⟩:=L6 h
 have h3:=avC h3
 rw [Q5] at h3
 cases h
 exact⟨Eq.mp avM h1,row,h2,h3,rfl⟩
theorem uH {n:Nm}{h h':Array Obj}{l:Loc}{rs k off:Nat}{rows rows':T (List j5)}{vs:List j5}(hb:fT P ι n h l (.cells rs k rows))(hw:aX rs k rows off vs=some rows')
  (hvs:ltL n vs) {c:Array Value} {e:TypeId} {fz:Nat×Nat} (hc:h[l.b]?=some (.cells c e fz)) (hc':h'[l.b]?=some (.cells (over c (l.base+off) (H8 ι vs)) e fz)):
  fT P ι n h' l (.cells rs k rows')∧l.base+off+vs.length≤c.size:=by
 obtain⟨c₀,e₀,fz₀,h1,h2,⟨h3,N,hN,hok⟩,h4⟩:=hb
 rw [hc] at h1;cases h1
 obtain⟨w1,row,w2,w3,rfl⟩:=AA hw
 obtain⟨row',g1,g2,g3,g4⟩:=h4 _ w1
 rw [w2] at g1;cases g1
 have hdm:off / rs*rs+off%rs=off:=by rw [awx];exact aw7 off rs
 have hrow:off / rs*rs+rs≤k*rs:=by
  calc off / rs*rs+rs=(off / rs+1)*rs:=by rw [awq]
   _≤k*rs:=avR _ w1
 have hfit:l.base+off+vs.length≤c.size:=by omega
 refine⟨⟨_,e,fz,hc',by simpa using h2,⟨h3,N,hN,hok.put _ _ (by omega)⟩,fun i hi=>?_⟩,hfit⟩
 by_cases hi0:i=off / rs
 ·subst hi0
  refine⟨_,T.aQ hok _ _ (by omega),by rw [uo _ _ _ (by omega)];exact g2,?_,fun j hj=>?_⟩
  ·rw [jR _ _ _ (by omega),cZ]
   intro v hv
   rcases avN.1 hv with hv | hv
   ·exact P9 g3 (awu hv)
   ·rcases avN.1 hv with hv | hv
    ·exact P9 hvs hv
    ·exact P9 g3 (aw4 hv)
  ·have hg4:=g4 j hj
   rw [Az _ _ _ (by simp;omega),JO _ _ _ (by omega)]
   simp only [aD]
   by_cases c1:j<off%rs
   ·rw [if_pos (by omega),if_neg (by omega)];exact hg4
   ·by_cases c2:j<off%rs+vs.length
    ·rw [if_neg (by omega),if_pos (by omega),if_pos (by omega),aZ]
     congr 2;omega
    ·rw [if_neg (by omega),if_neg (by omega),if_neg (by omega)];exact hg4
 ·obtain⟨row',q1,q2,q3,q4⟩:=h4 i hi
  refine⟨row',by rw [T.bL hok _ _ _ (by omega) (fun e=>hi0 e.symm)];exact q1,q2,q3,fun j hj=>?_⟩
  rw [Az _ _ _ (by simp;omega),← q4 j hj]
  simp only [aD]
  rcases awL i (off / rs) with hlt | hge
  ·have:i*rs+rs≤off / rs*rs:=by
    calc i*rs+rs=(i+1)*rs:=by rw [awq]
     _≤off / rs*rs:=avR _ hlt
   rw [if_pos (by omega)]
  ·have:off / rs*rs+rs≤i*rs:=by
    calc off / rs*rs+rs=(off / rs+1)*rs:=by rw [awq]
     _≤i*rs:=avR _ (by omega)
   rw [if_neg (by omega),if_neg (by omega)]
theorem AB (rs n:Nat)(rows:T (List j5))(off:Nat):fJ rs n [] rows off=some rows:=rfl
theorem xR (rs n:Nat)(v:j5)(vs:List j5)(rows:T (List j5))(off:Nat):
  fJ rs n (v::vs) rows off=ob (aX rs n rows off [v]) fun rows'=>fJ rs n vs rows' (off+1):=rfl
theorem kD {h:Array Obj}{b:Nat}{x o:Obj}(hb:h[b]?=some x):(h.setIfInBounds b o)[b]?=some o:=
 avI (avx.1 hb).1
theorem set_set (h:Array Obj)(b:Nat)(x y:Obj):(h.setIfInBounds b x).setIfInBounds b y=h.setIfInBounds b y:=by
 apply awK
 intro j
 by_cases hj:b=j
 ·subst hj
  by_cases hb:b<h.size
  ·rw [avI (by simpa using hb),avI hb]
  ·simp [aw2 hb]
 ·rw [avH hj,avH hj,avH hj]
theorem AJ {n:Nm}{l:Loc}{rs k:Nat}{e:TypeId}{fz:Nat×Nat}:∀(vs:List j5) (off:Nat) (rows rows':T (List j5)) (h:Array Obj) (c:Array Value),
  fT P ι n h l (.cells rs k rows)→fJ rs k vs rows off=some rows'→ltL n vs→h[l.b]?=some (.cells c e fz)→
  fT P ι n (h.setIfInBounds l.b (.cells (over c (l.base+off) (H8 ι vs)) e fz)) l (.cells rs k rows')∧(vs≠[]→l.base+off+vs.length≤c.size):=by
 intro vs
 induction vs with
 | nil=>
  intro off rows rows' h c hb hw _ hc
  rw [AB] at hw;cases hw
  refine⟨hb.mono (n:=n) (fun _ _=>rfl) (Nm.le_refl n) fun _=>?_,fun h=>absurd rfl h⟩
  rw [kD hc,hc];rfl
 | cons v vs ih=>
  intro off rows rows' h c hb hw hlt hc
  rw [xR] at hw
  obtain⟨r₁,h1,h2⟩:=J6 hw
  obtain⟨b1,f1⟩:=uH (h':=h.setIfInBounds l.b (.cells (over c (l.base+off) (H8 ι [v])) e fz)) hb h1 ⟨hlt.1,trivial⟩ hc (kD hc)
  obtain⟨b2,f2⟩:=ih (off+1) _ _ _ _ b1 h2 hlt.2 (kD hc)
  rw [set_set] at b2
  refine⟨?_,fun _=>?_⟩
  ·simpa [H8,over,avw] using b2
  ·cases vs with
   | nil=>simpa using f1
   | cons u vs=>have:=f2 (by simp);simp at this ⊢;omega
theorem CJ (hm:RM P G ι m w.heap){id rs k off:Nat}{rows rows':T (List j5)}(hid:m.lim≤id)(hg:m.get id=some (.cells rs k rows)){vs:List j5}
  (h1:O7 vs=true) (hlt:ltL (m.nm ι) vs)
  (hb:∀c e fz,w.heap[(ι id).b]?=some (.cells c e fz)→fT P ι (m.nm ι) (w.heap.setIfInBounds (ι id).b (.cells (over c ((ι id).base+off) (H8 ι vs)) e fz)) (ι id) (.cells rs k rows')∧
   (vs≠[]→(ι id).base+off+vs.length≤c.size)):
  ∃w',(storeCells (ι.at id off) (H8 ι vs) 0).run P w=.ok () w'∧Step P G ι m w ι (m.set id (.cells rs k rows')) w':=by
 obtain⟨c,e,fz,hc,_⟩:=hm.blk id _ hg
 obtain⟨hblk,hfit⟩:=hb c e fz hc
 have hfree:=(hm.own id _ hid hg rfl).free c e fz hc
 have hone:∀v∈H8 ι vs,(∀l,v≠.agg l)∧∀l,v≠.tuple l:=by
  intro v hv
  rw [bH] at hv
  obtain⟨u,hu,rfl⟩:=awy.1 hv
  exact CG (pX h1 u hu)
 refine⟨{w with heap:=w.heap.setIfInBounds (ι id).b (.cells (over c ((ι id).base+off) (H8 ι vs)) e fz)},?_,?_⟩
 ·cases vs with
  | nil=>
   have:w.heap.setIfInBounds (ι id).b (.cells c e fz)=w.heap:=by
    apply awK
    intro j
    by_cases hj:(ι id).b=j
    ·subst hj;rw [kD hc,hc]
    ·rw [avH hj]
   simp [H8,storeCells,over,this]
  | cons v vs=>
   have:=hfit (by simp)
   rw [Inj.Es (hm.spot id _ hg rfl)]
   exact pz (H8 ι (v::vs)) c ((ι id).base+off) 0 w hc (by simpa using this) hfree hone
 ·refine Step.set hm hid hg rfl rfl ⟨rfl,rfl,rfl,rfl⟩ ?_ (fun c' e' fz' h=>by cases h;simpa using hfree)
  exact hblk.mono (n:=m.nm ι) (fun _ _=>rfl) (Mem.bU (fun i hi=>Mem.nu hm.ok hg rfl i hi) fun _ _=>rfl) fun _=>rfl
theorem AL (hm:RM P G ι m w.heap){id off:Nat}{vs:List j5}{β:Type}{k:Mem→Option β}{r:β}(hs:storeAt m id off vs k=some r)(hlt:ltL (m.nm ι) vs):
  ∃m' w',k m'=some r∧(storeCells (ι.at id off) (H8 ι vs) 0).run P w=.ok () w'∧Step P G ι m w ι m' w':=by
 obtain⟨h1,hs⟩:=vT hs
 obtain⟨h2,hs⟩:=L6 hs
 obtain⟨rs,n,rows,hg,hs⟩:=kU hs
 obtain⟨rows',hw,hk⟩:=J6 hs
 have hid:m.lim≤id:=by
  rcases awL id m.lim with h | h
  ·rw [(Eq.mpr avM h:Nat.blt id m.lim=true)] at h1;cases h1
  ·exact h
 obtain⟨w',g1,g2⟩:=CJ (off:=off) (rows':=rows') hm hid hg h2 hlt (fun c e fz hc=>by
  obtain⟨p,q⟩:=uH (h':=w.heap.setIfInBounds (ι id).b (.cells (over c ((ι id).base+off) (H8 ι vs)) e fz)) (hm.blk id _ hg) hw hlt hc (kD hc)
  exact⟨p,fun _=>q⟩)
 exact⟨_,w',hk,g1,g2⟩
theorem jC (hm:RM P G ι m w.heap){id off:Nat}{vs:List j5}{β:Type}{k:Mem→Option β}{r:β}(hs:iH m id off vs k=some r)(hlt:ltL (m.nm ι) vs):
  ∃m' w',k m'=some r∧(storeCells (ι.at id off) (H8 ι vs) 0).run P w=.ok () w'∧Step P G ι m w ι m' w':=by
 cases vs with
 | nil=>exact⟨m,w,hs,by simp [H8,storeCells],Step.refl hm⟩
 | cons v vs=>
  have hs:bi (Nat.blt id m.lim) none (bi (O7 (v::vs)) (aO (m.get id) fun rs n rows=>ob (fJ rs n (v::vs) rows off) fun rows'=>k (m.set id (.cells rs n rows'))) none)=some r:=hs
  obtain⟨h1,hs⟩:=vT hs
  obtain⟨h2,hs⟩:=L6 hs
  obtain⟨rs,n,rows,hg,hs⟩:=kU hs
  obtain⟨rows',hw,hk⟩:=J6 hs
  have hid:m.lim≤id:=by
   rcases awL id m.lim with h | h
   ·rw [(Eq.mpr avM h:Nat.blt id m.lim=true)] at h1;cases h1
   ·exact h
  obtain⟨w',g1,g2⟩:=CJ (off:=off) (rows':=rows') hm hid hg h2 hlt (fun c e fz hc=>AJ (v::vs) off rows rows' _ c (hm.blk id _ hg) hw hlt hc)
  exact⟨_,w',hk,g1,g2⟩
theorem ny {a b:Nat}(h:Nat.blt a b=false):b≤a:=by
 rcases awL a b with g | g
 ·rw [(Eq.mpr avM g:Nat.blt a b=true)] at h;cases h
 ·exact g
theorem EJ (s:St P ι (m.nm ι) slots done ls env a.tmps)(hm:RM P G ι m w.heap){t:TypeId}{x y:Operand}{k:Nat}{x' y':Opd}(hk:jM P t=some k)
  (hx:bK P slots done x=some x') (hy:bK P slots done y=some y') {cf:K8} {outs:List VM} (hv:trE (.store k x' y') cf ls env m=some outs):
  ∀o:Oper,o.op=.store t x y→Does P a.eval o w (gu P G ι m w outs):=by
 intro o ho
 obtain⟨id,off,h1,h⟩:=iQ hv
 have h1:trO x' ls env=.ptr id off:=h1
 obtain⟨h2,h⟩:=L6 h
 have h2:(trO y' ls env).cells.length=k:=by rw [← Q5];exact avt h2
 obtain⟨e1,_⟩:=I5 s hx
 obtain⟨e2,e2'⟩:=I5 s hy
 obtain⟨m',w',hk',hrun,hstep⟩:=AL hm h (vk e2')
 cases hk'
 refine CF (w':=w') ?_ ⟨_,W9.2 rfl,ι,hstep,trivial,rfl⟩
 have hsz:(H6 ι (trO y' ls env)).cells.size=k:=by rw [kT];simp [h2]
 have hc:(H6 ι (trO y' ls env)).cells.toList=H8 ι (trO y' ls env).cells:=by rw [kT]
 simp [execOp,ho,Instr.storeAt,e1,e2,h1,H6,Instr.sureAddr,storeVar,run_sizeOf hk,hsz,hc,hrun]
end
section
variable {P:Program}{G:Mem}{ι:Inj}{m:Mem}{w:World}{slots:List Nat}{done:List (Option Nat)}{ls:List j5}{env:T j5}{a:Act}
theorem zy {r:Nat}{o x:Obj}(h:w.heap[r]?=some x)(hx:∀c e fz,x≠.cells c e fz):(setObj r o).run P w=.ok () {w with heap:=w.heap.setIfInBounds r o}:=by
 simp only [setObj,Sem.run,h]
theorem iW {kk:PK}{x y:j5}(h:PN kk x y=some true)(n:Nat):Instr.sameBits n (H6 ι x) (H6 ι y)=true:=by
 cases kk with
 | i=>obtain⟨k,p,q,rfl,rfl,hr⟩:=nW (show cO x y=some true from h);simp [H6,Instr.sameBits];simpa using hr.symm
 | b=>obtain⟨p,q,rfl,rfl,hr⟩:=gU (show tY x y=some true from h);simp [H6,Instr.sameBits];simpa using hr.symm
 | s=>obtain⟨p,q,rfl,rfl,hr⟩:=nX (show eqStr x y=some true from h);simp [H6,Instr.sameBits,lG];simpa using hr.symm
theorem qR:∀(ks:List PK) (x y:List j5),dG ks x y=some true→x.length=ks.length→y.length=ks.length→∀n,
  ((H8 ι x).zip (H8 ι y)).all (fun (p:Value×Value)=>Instr.sameBits n p.1 p.2)=true
 | [],x,y,_,h1,h2,n=>by
  cases x<;>simp_all [H8]
 | k::ks,x,y,h,h1,h2,n=>by
  cases x with
  | nil=>simp at h1
  | cons a x=>
   cases y with
   | nil=>simp at h2
   | cons b y=>
    rw [gV] at h
    obtain⟨r,h3,h4⟩:=J6 h
    cases r with
    | false=>cases h4
    | true=>
     have ih:=qR ks x y h4 (by simpa using h1) (by simpa using h2) n
     simp only [H8,List.zip_cons_cons,List.all_cons,iW h3 n,awQ]
     exact ih
theorem CK {kk:EqK}{t:TypeId}(hk:Gd P t=some kk){x y:j5}(h:BK kk x y=some true)(hx:x.cells.length=NA kk)(hy:y.cells.length=NA kk):
  Instr.sameBits 10000 (H6 ι y) (H6 ι x)=true:=by
 have sym:∀kk x y,PN kk x y=some true→PN kk y x=some true:=by
  intro kk x y h
  cases kk with
  | i=>obtain⟨k,p,q,rfl,rfl,hr⟩:=nW (show cO x y=some true from h)
       have:p=q:=by simpa using hr.symm
       subst this;exact h
  | b=>obtain⟨p,q,rfl,rfl,hr⟩:=gU (show tY x y=some true from h)
       have:p=q:=by simpa using hr.symm
       subst this;exact h
  | s=>obtain⟨p,q,rfl,rfl,hr⟩:=nX (show eqStr x y=some true from h)
       have:p=q:=by simpa using hr.symm
       subst this;exact h
 rcases wB hk with⟨rfl,_⟩ | ⟨_,rfl,_⟩ | ⟨rfl,_⟩ | ⟨fs,ks,rfl,_,_⟩
 ·exact iW (kk:=.b) (sym .b x y h) _
 ·exact iW (kk:=.i) (sym .i x y h) _
 ·exact iW (kk:=.s) (sym .s x y h) _
 ·obtain⟨l,rfl,h1⟩:=fV h
  obtain⟨l',rfl,h2⟩:=fV h1
  have hx:l.length=ks.length:=hx
  have hy:l'.length=ks.length:=hy
  have symL:∀(ks:List PK) (x y:List j5),dG ks x y=some true→dG ks y x=some true:=by
   intro ks
   induction ks with
   | nil=>intro x y h;exact jf y x
   | cons k ks ih=>
    intro x y h
    cases x with
    | nil=>cases h
    | cons u x=>
     cases y with
     | nil=>cases h
     | cons v y=>
      rw [gV] at h ⊢
      obtain⟨r,h3,h4⟩:=J6 h
      cases r with
      | false=>cases h4
      | true=>rw [sym k u v h3];exact ih x y h4
  have:=qR (ι:=ι) ks l' l (symL ks l l' h2) hy hx 9999
  simp only [H6,Instr.sameBits,awR,aD,hx,hy,beq_self_eq_true,awQ]
  exact this
theorem pE (ι:Inj)(e:j5×j5):∀(es:List (j5×j5)) (j:Nat),M7 ι (es ++ [e]) j=M7 ι es j ++ [{key:=H6 ι e.1,val:=H6 ι e.2,born:=j+es.length}]
 | [],j=>by simp [M7]
 | x::es,j=>by simp [M7,pE ι e es,avw,Nat.add_comm 1]
theorem Ii (k v:j5)(i:Nat):jO [] k v i=[]:=rfl
theorem pY (e:j5×j5)(es:List (j5×j5))(k v:j5):jO (e::es) k v 0=(k,v)::es:=rfl
theorem qc (e:j5×j5)(es:List (j5×j5))(k v:j5)(i:Nat):jO (e::es) k v (i+1)=e::jO es k v i:=rfl
theorem qU (k v:j5):∀(es:List (j5×j5)) (i:Nat),(jO es k v i).length=es.length
 | [],i=>rfl
 | e::es,0=>by simp [pY]
 | e::es,i+1=>by simp [qc,qU k v es]
theorem zA {k v:j5}:∀{es:List (j5×j5)} {i:Nat} {x:j5×j5},x∈jO es k v i→x=(k,v)∨x∈es
 | [],i,x,h=>by cases h
 | e::es,0,x,h=>by
  rw [pY] at h
  rcases avL.1 h with h | h
  ·exact .inl h
  ·exact .inr (awc _ h)
 | e::es,i+1,x,h=>by
  rw [qc] at h
  rcases avL.1 h with h | h
  ·exact .inr (by rw [h];exact axK)
  ·rcases zA h with h | h
   ·exact .inl h
   ·exact .inr (awc _ h)
theorem pF (ι:Inj)(k v:j5):∀(es:List (j5×j5)) (i j:Nat),
  (M7 ι es j).modify i (fun e=>{e with key:=H6 ι k,val:=H6 ι v})=M7 ι (jO es k v i) j
 | [],i,j=>by simp [M7,Ii]
 | e::es,0,j=>by simp [M7,pY]
 | e::es,i+1,j=>by simp [M7,qc,pF ι k v es]
theorem wF (hm:RM P G ι m w.heap){t kt e:TypeId}{kk:EqK}(hu:P.underlying t=some (.map kt e))(hk:Gd P kt=some kk){id:Nat}{k x:j5}{es:List (j5×j5)}
  (hid:m.lim≤id) (hg:m.get id=some (.map es)) {r:Option (Nat×j5)} (hf:dn (BK kk) (NA kk) k es=some r) (hkl:k.lt (m.nm ι)) (hxl:x.lt (m.nm ι)) {outs:List VM}
  (hr:Option.rec (one .undef (m.set id (.map (jl es [(k,x)])))) (fun p=>ob (Ae p.1 es) fun e=>
   bi (Nat.beq (len' e.1.cells) (NA kk)) (one .undef (m.set id (.map (jO es k x p.1)))) none) r=some outs):
  ∃w',(Instr.mapUpdate t (.map (some (ι id).b)) (H6 ι k) (H6 ι x)).run P w=.ok () w'∧gu P G ι m w outs undef w':=by
 obtain⟨h1,⟨y,b,h2⟩,h3⟩:=uz hf
 obtain⟨hobj,hlt⟩:=hm.blk id _ hg
 have hget:=jg (P:=P) hobj (by intro _ _ _ e;cases e)
 have hput:=fun o=>zy (P:=P) (o:=o) hobj (by intro _ _ _ e;cases e)
 have hfk:=qO (ι:=ι) hk h3 w
 have hck:=Ka (ι:=ι) hk h1 h2 false w
 cases r with
 | none=>
  cases hr
  refine⟨{w with heap:=w.heap.setIfInBounds (ι id).b (.map (M7 ι (es ++ [(k,x)]) 0).toArray (es ++ [(k,x)]).length)},?_,_,W9.2 rfl,ι,Step.set hm hid hg rfl rfl (o:=.map (M7 ι (es ++ [(k,x)]) 0).toArray (es ++ [(k,x)]).length) ⟨rfl,rfl,rfl,rfl⟩ ?_ (by intro _ _ _ h;cases h),trivial,rfl⟩
  ·simp only [Instr.mapUpdate,avy,run_underlying hu,hget,avs,hck,hfk,uX,axa,hput]
   simp [pE]
  ·rw [ak]
   refine⟨kD hobj,fun e he=>?_⟩
   have hle:=Mem.bU (ι:=ι) (ι':=ι) (fun i hi=>Mem.nu (b':=.map (es ++ [(k,x)])) hm.ok hg rfl i hi) fun _ _=>rfl
   rcases avN.1 he with he | he
   ·exact⟨j5.Z8 hle _ (hlt e he).1,j5.Z8 hle _ (hlt e he).2⟩
   ·rw [W9.1 he]
    exact⟨j5.Z8 hle _ hkl,j5.Z8 hle _ hxl⟩
 | some p=>
  obtain⟨e,h4,hr⟩:=J6 hr
  obtain⟨h5,hr⟩:=L6 hr
  cases hr
  rw [jv] at h4
  have h5:e.1.cells.length=NA kk:=by rw [← Q5];exact avt h5
  obtain⟨j,e',g1,g2,_,g3⟩:=sJ h3
  rw [avS] at g1
  rw [g1,g2] at h4;cases h4
  have hsame:=CK (ι:=ι) hk g3 h1 h5
  refine⟨{w with heap:=w.heap.setIfInBounds (ι id).b (.map (M7 ι (jO es k x p.1) 0).toArray es.length)},?_,_,W9.2 rfl,ι,Step.set hm hid hg rfl rfl (o:=.map (M7 ι (jO es k x p.1) 0).toArray es.length) ⟨rfl,rfl,rfl,rfl⟩ ?_ (by intro _ _ _ h;cases h),trivial,rfl⟩
  ·have hkey:(((M7 ι es 0).toArray[p.1]?).map (·.key)).getD (H6 ι k)=H6 ι e.1:=by
    simp [jy,g1,g2]
   simp only [Instr.mapUpdate,avy,run_underlying hu,hget,avs,hck,hfk,uX,awn,hkey,Instr.keyThatStays,hsame,if_true,avP,hput]
   rw [List.modify_toArray,pF]
  ·refine⟨by rw [qU];exact kD hobj,fun e he=>?_⟩
   have hle:=Mem.bU (ι:=ι) (ι':=ι) (fun i hi=>Mem.nu (b':=.map (jO es k x p.1)) hm.ok hg rfl i hi) fun _ _=>rfl
   rcases zA he with he | he
   ·rw [he];exact⟨j5.Z8 hle _ hkl,j5.Z8 hle _ hxl⟩
   ·exact⟨j5.Z8 hle _ (hlt e he).1,j5.Z8 hle _ (hlt e he).2⟩
theorem uI (s:St P ι (m.nm ι) slots done ls env a.tmps)(hm:RM P G ι m w.heap){t kt e:TypeId}{kk:EqK}(hu:P.underlying t=some (.map kt e))(hk:Gd P kt=some kk)
  {x k y:Operand} {x' k' y':Opd} (hx:bK P slots done x=some x') (hkk:bK P slots done k=some k') (hy:bK P slots done y=some y')
  {cf:K8} {outs:List VM} (hv:trE (.mapSet kk x' k' y') cf ls env m=some outs):
  ∀o:Oper,(o.op=.mapUpdate t x k y∨o.op=.insert t x k y)→Does P a.eval o w (gu P G ι m w outs):=by
 intro o ho
 rcases sF hv with⟨_,h⟩ | ⟨id,h1,h⟩
 ·cases h
 obtain⟨h2,h⟩:=vT h
 obtain⟨es,hg,h⟩:=wo h
 obtain⟨r,hf,hr⟩:=J6 h
 have h1:trO x' ls env=.map id:=h1
 obtain⟨e1,_⟩:=I5 s hx
 obtain⟨e2,e2'⟩:=I5 s hkk
 obtain⟨e3,e3'⟩:=I5 s hy
 obtain⟨w',g1,g2⟩:=wF hm hu hk (ny h2) hg hf e2' e3' hr
 refine CF (w':=w') ?_ g2
 rcases ho with ho | ho<;>simp [execOp,ho,e1,e2,e3,h1,H6,g1]
theorem Gm (hm:RM P G ι m w.heap)(mp:Option Nat)(since:Nat)(hmp:∀x,mp=some x→m.has x):
  gu P G ι m w [⟨.ptr m.next 0,m.new (.iter mp since [])⟩] (.pointer (some ⟨w.heap.size,0,none⟩)) {w with heap:=w.heap.push (.mapIter (mp.map fun x=>(ι x).b) since #[] since)}:=by
 have hl:=Laid.new hm.ok hm.limn (.iter mp since []) rfl
 refine⟨_,W9.2 rfl,ι.upd m.next ⟨w.heap.size,0,0,none⟩,Step.lay (w':={w with heap:=w.heap.push (.mapIter (mp.map fun x=>(ι x).b) since #[] since)}) hm hl (o:=.mapIter (mp.map fun x=>(ι x).b) since #[] since) ⟨rfl,rfl,rfl,rfl⟩ rfl rfl ?_ (by intro _ _ _ h;cases h),hl.self,by simp [H6,Inj.at]⟩
 refine⟨rfl,fun x hx=>hl.has x (hmp x hx),#[],since,?_,rfl,fun _=>rfl⟩
 show (w.heap.push _)[w.heap.size]?=_
 rw [fZ]
 cases mp with
 | none=>rfl
 | some x=>simp [ι.upd_ne ⟨w.heap.size,0,0,none⟩ (fun e=>hl.free (e▸hmp x rfl):x≠m.next)]
theorem EK (s:St P ι (m.nm ι) slots done ls env a.tmps)(hm:RM P G ι m w.heap){t k e:TypeId}(hu:P.underlying t=some (.map k e))
  {x:Operand} {x':Opd} (hx:bK P slots done x=some x') {cf:K8} {outs:List VM} (hv:trE (.range x') cf ls env m=some outs):
  ∀o:Oper,o.op=.range t x→Does P a.eval o w (gu P G ι m w outs):=by
 intro o ho
 obtain⟨e1,e1'⟩:=I5 s hx
 rcases sF hv with⟨h1,h⟩ | ⟨id,h1,h⟩
 ·cases h
  have h1:trO x' ls env=.nilMap:=h1
  refine Y9 (v:=.pointer (some ⟨w.heap.size,0,none⟩)) ?_ (Gm hm none 0 (by simp))
  simp [execOp,ho,Instr.range,run_underlying hu,e1,h1,H6]
 ·obtain⟨es,hg,h⟩:=wo h
  cases h
  have h1:trO x' ls env=.map id:=h1
  obtain⟨o1,o2⟩:=Gi hm hg
  rw [Q5]
  refine Y9 (v:=.pointer (some ⟨w.heap.size,0,none⟩)) ?_ (Gm hm (some id) es.length (by intro x hx;cases hx;exact⟨_,hg,rfl⟩))
  simp [execOp,ho,Instr.range,run_underlying hu,e1,h1,H6,o1]
theorem EL (n:Nat):∀l:List Nat,YZ n l=l.contains n
 | []=>rfl
 | x::l=>by
  show bi (Nat.beq x n) true (YZ n l)=_
  rw [EL n l,uy,List.contains_cons]
  by_cases h:x=n
  ·subst h;simp
  ·rw [if_neg h,beq_eq_false_iff_ne.2 (fun e=>h e.symm),aw5]
theorem sM (m:Mem)(id mp since:Nat)(seen:List Nat)(e:j5×j5)(es:List (j5×j5))(i:Nat):
  nexts m id mp since seen (e::es) i=bi (YZ i seen) (nexts m id mp since seen es (i+1))
   (⟨.tuple [.bool true,e.1,e.2],m.set id (.iter (some mp) since (i::seen))⟩::nexts m id mp since seen es (i+1)):=rfl
theorem wG {m:Mem}{id mp since:Nat}{seen:List Nat}:∀{es:List (j5×j5)} {i j:Nat} {e:j5×j5},es[j]?=some e→seen.contains (i+j)=false→
  (⟨.tuple [.bool true,e.1,e.2],m.set id (.iter (some mp) since ((i+j)::seen))⟩:VM)∈nexts m id mp since seen es i
 | [],i,j,e,h,_=>by simp at h
 | x::es,i,0,e,h,hs=>by
  simp at h;subst h
  rw [sM,EL,show seen.contains i=false from hs]
  exact axK
 | x::es,i,j+1,e,h,hs=>by
  rw [sM]
  have:=wG (es:=es) (i:=i+1) (j:=j) (m:=m) (id:=id) (mp:=mp) (since:=since) (by simpa using h) (by rw [show i+1+j=i+(j+1) from by omega];exact hs)
  rw [show i+1+j=i+(j+1) from by omega] at this
  cases YZ i seen with
  | true=>exact this
  | false=>exact awc _ this
theorem zB {m:Mem}{id mp since:Nat}{seen:List Nat}:∀{es:List (j5×j5)} {i:Nat},(∀j,j<es.length→seen.contains (i+j)=true)→nexts m id mp since seen es i=[]
 | [],i,h=>rfl
 | e::es,i,h=>by
  rw [sM,EL,show seen.contains i=true from h 0 (by simp)]
  exact zB fun j hj=>by rw [show i+1+j=i+(j+1) from by omega];exact h (j+1) (by simpa using hj)
theorem xS (n:Nat)(hn:0<n)(w:World):∃k w',(choose (.mapNext n)).run P w=.ok k w'∧k<n∧(w'=w∨w'={w with drawn:=w.drawn+1}):=by
 rw [run_choose]
 by_cases h:n≤1
 ·exact⟨0,w,by simp [Question.forced,h],hn,.inl rfl⟩
 ·exact⟨_,_,by simp only [Question.forced,h,decide_false,awg,if_false];rfl,awr _ hn,.inr rfl⟩
theorem NM (hm:RM P G ι m w.heap){id mp since:Nat}{seen:List Nat}{es:List (j5×j5)}(hid:m.lim≤id)(hit:m.get id=some (.iter (some mp) since seen))
  (hes:m.get mp=some (.map es)) (hlen:es.length=since) (t:TypeId):
  ∃v w',(Instr.next (.pointer (some ⟨(ι id).b,0,none⟩)) false t).run P w=.ok v w'∧gu P G ι m w (JG m (nexts m id mp since seen es 0)) v w':=by
 obtain⟨b1,b2,sn,st,b3,b4,b5⟩:=hm.blk id _ hit
 obtain⟨c1,c2⟩:=hm.blk mp _ hes
 have hst:st=since:=b5 (by simp)
 subst hst;subst hlen
 have hgi:=jg (P:=P) b3 (by intro _ _ _ e;cases e)
 have hgm:=jg (P:=P) c1 (by intro _ _ _ e;cases e)
 generalize hL:M7 ι es 0=L at *
 have hborn:∀x∈L,x.born<es.length:=by
  intro x hx
  obtain⟨j,hj⟩:=avU hx
  rw [← hL,jy] at hj
  cases he:es[j]? with
  | none=>simp [he] at hj
  | some e=>simp [he] at hj;rw [← hj];simpa using (S9.1 he).1
 have hall:(!sn.isEmpty && !L.toArray.isEmpty&&L.toArray.all (fun e=>decide (e.born≥es.length)))=false:=by
  cases L with
  | nil=>simp
  | cons x L=>have:=hborn x (by simp);simp;intro _ h;omega
 have hold:∀l:List MapEntry,(∀x∈l,x∈L)→l.filter (fun e=>decide (e.born<es.length))=l:=fun l hl=>axF.2 fun x hx=>by simpa using hborn x (hl x hx)
 have hnew:∀l:List MapEntry,(∀x∈l,x∈L)→l.filter (fun e=>decide (e.born≥es.length))=[]:=fun l hl=>axr.2 fun x hx=>by have:=hborn x (hl x hx);simp;omega
 have hleft:=fun x (hx:x∈L.filter (fun e=>!sn.contains e.born))=>(awY.1 hx).1
 simp only [Instr.next,avy,hgi,avs,awn,hgm]
 rw [if_neg (by rw [hall];simp)]
 simp only [List.filter_toArray,hold _ hleft,hnew _ hleft]
 generalize hlf:L.filter (fun e=>!sn.contains e.born)=left at *
 generalize hc:((if left.toArray.isEmpty=true then #[none] else #[])++Array.map some (left.toArray ++ [].toArray):Array (Option MapEntry))=cands
 have hc':cands=(if left=[] then #[none] else (left.map some).toArray):=by
  rw [← hc];cases left<;>simp
 have hpos:0<cands.size:=by rw [hc'];split<;>simp_all;exact axJ (by simp;assumption)
 obtain⟨k,w1,hk1,hk2,hk3⟩:=xS (P:=P) cands.size hpos w
 simp only [avy,hk1,avs]
 have hheap:w1.heap=w.heap:=by rcases hk3 with rfl | rfl<;>rfl
 have hw1:w1.os=w.os∧w1.output=w.output∧w1.tape=w.tape:=by rcases hk3 with rfl | rfl<;>exact⟨rfl,rfl,rfl⟩
 have hin:∀x,x∈sn.toList↔x∈seen:=fun x=>by rw [← b4];simp
 by_cases hl0:left=[]
 ·rw [if_pos hl0] at hc'
  have hk0:k=0:=by rw [hc'] at hk2;simpa using hk2
  rw [hc',hk0]
  have hnone:nexts m id mp es.length seen es 0=[]:=zB fun j hj=>by
   have hx:(M7 ι es 0)[j]?=some {key:=H6 ι es[j].1,val:=H6 ι es[j].2,born:=0+j}:=by rw [jy];simp [hj]
   have hmem:({key:=H6 ι es[j].1,val:=H6 ι es[j].2,born:=0+j}:MapEntry)∈L:=by rw [← hL];exact avG hx
   rw [hl0] at hlf
   have:=axr.1 hlf _ hmem
   simp at this ⊢
   rw [← hin];simpa using this
  refine⟨.tuple #[.bool false],w1,by simp,⟨.tuple [.bool false],m⟩,by rw [hnone];exact W9.2 rfl,ι,?_,by simp [j5.lt,ltL],by simp [H6,H8]⟩
  rcases hk3 with rfl | rfl
  ·exact Step.refl hm
  ·exact Step.drew hm _
 ·rw [if_neg hl0] at hc'
  have hkl:k<left.length:=by rw [hc'] at hk2;simpa using hk2
  have hget:cands[k]?=some (some left[k]):=by rw [hc'];simp [hkl]
  have hmem:left[k]∈L∧sn.contains left[k].born=false:=by
   have:=awY.1 (show left[k]∈L.filter (fun e=>!sn.contains e.born) from by rw [hlf];exact awj hkl)
   simpa using this
  generalize left[k]=x at *
  obtain⟨j,hj⟩:=avU hmem.1
  rw [← hL,jy] at hj
  cases he:es[j]? with
  | none=>simp [he] at hj
  | some e=>
   simp [he] at hj
   subst hj
   have hnc:seen.contains (0+j)=false:=by
    have h2:=hmem.2
    rw [avO] at h2 ⊢
    intro hc2;apply h2
    simp at hc2 ⊢
    have:=(hin j).2 hc2
    simpa using this
   have hm1:(nexts m id mp es.length seen es 0)≠[]:=List.ne_nil_of_mem (wG he hnc)
   have hor:JG m (nexts m id mp es.length seen es 0)=nexts m id mp es.length seen es 0:=by
    cases h:nexts m id mp es.length seen es 0 with
    | nil=>exact absurd h hm1
    | cons=>rfl
   have hput:=zy (P:=P) (w:=w1) (o:=.mapIter (some (ι mp).b) es.length (sn.push j) es.length) (by rw [hheap];exact b3) (by intro _ _ _ e;cases e)
   refine⟨.tuple #[.bool true,H6 ι e.1,H6 ι e.2],{w1 with heap:=w1.heap.setIfInBounds (ι id).b (.mapIter (some (ι mp).b) es.length (sn.push j) es.length)},?_,_,by rw [hor];exact wG he hnc,ι,Step.set (w':={w1 with heap:=w1.heap.setIfInBounds (ι id).b (.mapIter (some (ι mp).b) es.length (sn.push j) es.length)}) hm hid hit rfl rfl (o:=.mapIter (some (ι mp).b) es.length (sn.push j) es.length) ⟨by rw [hheap],hw1.1,hw1.2.1,hw1.2.2⟩ ?_ (by intro _ _ _ h;cases h),?_,?_⟩
   ·rw [hget]
    simp [hput]
   ·refine⟨b1,fun x hx=>?_,sn.push j,es.length,?_,?_,fun _=>rfl⟩
    ·cases hx;exact Mem.nu hm.ok hit rfl mp ⟨_,hes,rfl⟩
    ·simpa using kD b3
    ·simp [b4]
   ·have hlt:=c2 e (avG he)
    have hle:=Mem.bU (ι:=ι) (ι':=ι) (fun i hi=>Mem.nu (b':=.iter (some mp) es.length ((0+j)::seen)) hm.ok hit rfl i hi) fun _ _=>rfl
    exact⟨trivial,j5.Z8 hle _ hlt.1,j5.Z8 hle _ hlt.2,trivial⟩
   ·simp [H6,H8]
theorem Ij (s:St P ι (m.nm ι) slots done ls env a.tmps)(hm:RM P G ι m w.heap)
  {x:Operand} {x':Opd} (hx:bK P slots done x=some x') {cf:K8} {outs:List VM} (hv:trE (.next x') cf ls env m=some outs):
  ∀o:Oper,o.op=.next x false→Does P a.eval o w (gu P G ι m w outs):=by
 intro o ho
 obtain⟨e1,e1'⟩:=I5 s hx
 obtain⟨id,off,h1,h⟩:=iQ hv
 have h1:trO x' ls env=.ptr id off:=h1
 obtain⟨h0,h⟩:=L6 h
 obtain rfl:off=0:=avt h0
 obtain⟨hid,h⟩:=vT h
 rcases Aw h with⟨sn',l',hit,h⟩ | ⟨mp,since,seen,hit,h⟩
 ·cases h
  obtain⟨b1,b2,sn,st,b3,b4,b5⟩:=hm.blk id _ hit
  have hgi:=jg (P:=P) b3 (by intro _ _ _ e;cases e)
  have hev:a.eval x=.pointer (some ⟨(ι id).b,0,none⟩):=by rw [e1,h1];simp [H6,Inj.at,b1,hm.spot _ _ hit rfl]
  refine Y9 (v:=.tuple #[.bool false]) (w':=w) ?_ ⟨_,W9.2 rfl,ι,Step.refl hm,by simp [j5.lt,ltL],by simp [H6,H8]⟩
  simp [execOp,ho,hev,Instr.next,hgi]
 ·obtain⟨es,hes,h⟩:=wo h
  obtain⟨h2,h⟩:=L6 h
  have h2:es.length=since:=by rw [← Q5];exact avt h2
  cases h
  obtain⟨b1,_⟩:=hm.blk id _ hit
  have hev:a.eval x=.pointer (some ⟨(ι id).b,0,none⟩):=by rw [e1,h1];simp [H6,Inj.at,b1,hm.spot _ _ hit rfl]
  obtain⟨v,w',g1,g2⟩:=NM hm (ny hid) hit hes h2 o.type
  refine Y9 (v:=v) (w':=w') ?_ g2
  simp [execOp,ho,hev,g1]
end
section
variable {P:Program}{G:Mem}{ι:Inj}{m:Mem}{w:World}{slots:List Nat}{done:List (Option Nat)}{ls:List j5}{env:T j5}{a:Act}
theorem zC (l:List UInt8):bytesOf l=l.map fun b=>j5.int .u8 b.toNat:=by
 induction l with
 | nil=>rfl
 | cons b l ih=>simp [bytesOf,ih]
theorem wH {v:j5}{n:Nat}(h:lenOf v=some n)(w:World):(Builtin.lenOf (H6 ι v)).run P w=.ok n w:=by
 cases v<;>simp only [lenOf,U0,reduceCtorEq] at h<;>subst h<;>simp [H6,Builtin.lenOf,nU]
theorem iX (hm:RM P G ι m w.heap){es n:Nat}{v:j5}{l:List j5}(h:ah m es n v=some l):
  (Builtin.firstCells es n (H6 ι v)).run P w=.ok (H8 ι l).toArray w∧ltL (m.nm ι) l:=by
 cases v<;>simp only [ah,U0,reduceCtorEq] at h
 ·subst h
  refine⟨?_,by rw [zC,cZ];intro v hv;obtain⟨b,_,rfl⟩:=awy.1 hv;simp [j5.lt]⟩
  simp only [H6,Builtin.firstCells,avP]
  congr 1
  simp [zC,bH,H6,Function.comp_def,ByteArray.data_extract,aw6]
 ·subst h
  exact⟨by simp [H6,Builtin.firstCells,H8],trivial⟩
 ·obtain⟨g1,g2,g3⟩:=iE hm h
  exact⟨iF g1 g3,g2⟩
 ·obtain⟨g1,g2,g3⟩:=iE hm h
  exact⟨iF g1 g3,g2⟩
theorem Ik (s:St P ι (m.nm ι) slots done ls env a.tmps)(hm:RM P G ι m w.heap){c:Call}{t u e:TypeId}{x y:Operand}{x' y':Opd}{es:Nat}(hc:c.callee=.builtin .copy)
  (hts:c.argTypes.toList=[t,u]) (has:c.args.toList=[x,y]) (hu:P.underlying t=some (.slice e)) (hes:jM P e=some es)
  (hx:bK P slots done x=some x') (hy:bK P slots done y=some y') {cf:K8} {outs:List VM} (hv:trE (.copy es x' y') cf ls env m=some outs):
  ∀o:Oper,o.op=.call c→Does P a.eval o w (gu P G ι m w outs):=by
 intro o ho
 have hts:c.argTypes=#[t,u]:=by rw [← hts,awf]
 have has:c.args=#[x,y]:=by rw [← has,awf]
 obtain⟨e1,_⟩:=I5 s hx
 obtain⟨e2,_⟩:=I5 s hy
 obtain⟨n,h1,hv⟩:=J6 hv
 have hl:=wH (P:=P) (ι:=ι) h1 w
 have go:∀id off len cap,H6 ι (trO x' ls env)=.slice (some (ι.at id off)) len cap→RH.go es m n id off len (trO y' ls env)=some outs→Does P a.eval o w (gu P G ι m w outs):=by
  intro id off len cap h2 h
  obtain⟨cells,h3,h⟩:=J6 h
  obtain⟨g1,g2⟩:=iX hm h3
  obtain⟨m',w',hk,hrun,hstep⟩:=jC hm h g2
  cases hk
  refine Y9 (v:=.int .i64 (Nat.min n len)) (w':=w') ?_ ⟨_,W9.2 rfl,ι,hstep,trivial,rfl⟩
  simp [execOp,ho,resolve,hc,has,hts,invoke,builtin,Builtin.copy_,run_underlying hu,e1,e2,h2,hl,run_sizeOf hes,g1,hrun,goInt]
 rcases uq hv with⟨h2,h⟩ | ⟨id,off,len,cap,h2,h⟩ | ⟨id,off,len,cap,h2,h⟩
 ·cases h
  have h2:trO x' ls env=.nilSlice:=h2
  have hf:∃C,(Builtin.firstCells es 0 (H6 ι (trO y' ls env))).run P w=.ok C w:=by
   have hz:ah m es 0 (trO y' ls env)=some []:=by
    generalize trO y' ls env=v at h1
    have h0:∀i off,R4 m i off 0=some []:=fun i off=>rfl
    cases v<;>simp only [lenOf,reduceCtorEq] at h1<;>simp [ah,bytesOf,h0]
   exact⟨_,(iX hm hz).1⟩
  obtain⟨C,hC⟩:=hf
  refine Y9 (v:=.int .i64 0) (w':=w) ?_ ⟨_,W9.2 rfl,ι,Step.refl hm,trivial,rfl⟩
  simp [execOp,ho,resolve,hc,has,hts,invoke,builtin,Builtin.copy_,run_underlying hu,e1,e2,h2,hl,run_sizeOf hes,H6,goInt,hC]
 ·have h2:trO x' ls env=.slice id off len cap:=h2
  exact go id off len cap (by rw [h2];rfl) h
 ·have h2:trO x' ls env=.sliceU id off len cap:=h2
  exact go id off len (((ι id).cap-off) / cap) (by rw [h2];simp only [H6]) h
theorem uJ (z:List j5)(k:Nat):Builtin.zeroCells (H8 ι z).toArray k=(H8 ι (U5 z k)).toArray:=by
 have:=Ay (ι:=ι) z k
 rw [← this]
 simp [Builtin.zeroCells]
theorem EN (s:St P ι (m.nm ι) slots done ls env a.tmps)(hm:RM P G ι m w.heap){c:Call}{t e:TypeId}{x:Operand}{x':Opd}{z:List j5}(hc:c.callee=.builtin .clear)
  (hts:c.argTypes.toList=[t]) (has:c.args.toList=[x]) (hu:P.underlying t=some (.slice e)) (hz:sD P e=some z)
  (hx:bK P slots done x=some x') {cf:K8} {outs:List VM} (hv:trE (.clear z x') cf ls env m=some outs):
  ∀o:Oper,o.op=.call c→Does P a.eval o w (gu P G ι m w outs):=by
 intro o ho
 have hts:c.argTypes=#[t]:=by rw [← hts,awf]
 have has:c.args=#[x]:=by rw [← has,awf]
 obtain⟨e1,_⟩:=I5 s hx
 obtain⟨zv,hz1,hz2,hz3⟩:=dK (P:=P) (w:=w) hz ι
 have go:∀id off len cap,H6 ι (trO x' ls env)=.slice (some (ι.at id off)) len cap→iH m id off (U5 z len) (fun m'=>one (.tuple []) m')=some outs→Does P a.eval o w (gu P G ι m w outs):=by
  intro id off len cap h2 h
  obtain⟨m',w',hk,hrun,hstep⟩:=jC hm h (om (hz3 _) len)
  cases hk
  refine Y9 (v:=.tuple #[]) (w':=w') ?_ ⟨_,W9.2 rfl,ι,hstep,by simp [j5.lt,ltL],by simp [H6,H8]⟩
  cases len with
  | zero=>
   rw [uG] at hrun
   have:w'=w:=by simp [H8,storeCells] at hrun;exact hrun.symm
   subst this
   simp [execOp,ho,resolve,hc,has,hts,invoke,builtin,Builtin.clear_,run_underlying hu,e1,h2]
  | succ len=>simp [execOp,ho,resolve,hc,has,hts,invoke,builtin,Builtin.clear_,run_underlying hu,e1,h2,hz1,hz2,uJ,hrun]
 rcases uq hv with⟨h2,h⟩ | ⟨id,off,len,cap,h2,h⟩ | ⟨id,off,len,cap,h2,h⟩
 ·cases h
  have h2:trO x' ls env=.nilSlice:=h2
  refine Y9 (v:=.tuple #[]) (w':=w) ?_ ⟨_,W9.2 rfl,ι,Step.refl hm,by simp [j5.lt,ltL],by simp [H6,H8]⟩
  simp [execOp,ho,resolve,hc,has,hts,invoke,builtin,Builtin.clear_,run_underlying hu,e1,h2,H6]
 ·have h2:trO x' ls env=.slice id off len cap:=h2
  exact go id off len cap (by rw [h2];rfl) h
 ·have h2:trO x' ls env=.sliceU id off len cap:=h2
  exact go id off len (((ι id).cap-off) / cap) (by rw [h2];simp only [H6]) h
end
section
variable {P:Program}{G:Mem}{ι:Inj}{m:Mem}{w:World}
theorem Step.afr {G:Mem}(h:RM P G ι m w.heap){id:Nat}{b b':Blk}(hid:m.lim≤id)(hg:m.get id=some b)(hl:aV b=true)(hb':iV b'=false){o:Obj}{w':World}
  (hw:Put w w' (ι id).b o) {l:Loc} (hlb:l.b=(ι id).b) (hls:l.spot=none)
  (hblk:fT P (ι.upd m.next l) ((((m.set id .dead).new b')).nm (ι.upd m.next l)) (w.heap.setIfInBounds (ι id).b o) l b')
  (hf:∀c e fz,o=.cells c e fz→∀k,k<c.size→¬ (fz.1≤k∧k<fz.2)):
  Step P G ι m w (ι.upd m.next l) ((m.set id .dead).new b') w':=by
 have hlt:=Mem.M8 h.ok hg
 have hget₁:=Mem.ay h.ok hlt .dead
 have hok₁:T.Ok (m.set id .dead).t (m.set id .dead).next:=h.ok.put id .dead hlt
 have hget:∀i,((m.set id .dead).new b').get i=if i=m.next then some b' else if i=id then some .dead else m.get i:=fun i=>by
  rw [Mem.T9 hok₁,hget₁];rfl
 have hne:∀i x,m.get i=some x→i≠m.next:=fun i x hx e=>by have:=Mem.M8 h.ok hx;omega
 have hext:∀j,m.has j→ι.upd m.next l j=ι j:=fun j ⟨x,hx,_⟩=>ι.upd_ne l (hne j x hx)
 have hhas:∀i,m.has i→((m.set id .dead).new b').has i:=fun i ⟨x,hx,hv⟩=>by
  by_cases he:i=id
  ·exact⟨.dead,by rw [hget,if_neg (hne i x hx),if_pos he],rfl⟩
  ·exact⟨x,by rw [hget,if_neg (hne i x hx),if_neg he];exact hx,hv⟩
 have hown:=h.own id b hid hg hl
 have hbnd:(ι id).b<w.heap.size:=dx (h.blk id b hg) hl
 have hlive:∀i x,((m.set id .dead).new b').get i=some x→aV x=true→(i=m.next∧x=b')∨(i≠m.next∧i≠id∧m.get i=some x):=fun i x hx hlx=>by
  rw [hget] at hx
  split at hx
  ·cases hx;exact .inl ⟨by assumption,rfl⟩
  ·split at hx
   ·cases hx;cases hlx
   ·exact .inr ⟨by assumption,by assumption,hx⟩
 refine⟨⟨hok₁.push b',?_,?_,h.glim,axS h.limn,h.gle,fun i hi=>by rw [hget,if_neg (by have:=h.glim;have:=h.limn;omega),if_neg (by have:=h.glim;omega)];exact h.base i hi,fun i hi=>hhas i (h.ghas i hi),fun i hi=>by rw [hext i (h.ghas i hi)];exact h.glob i hi,fun i x hx hlx=>by
   rcases hlive i x hx hlx with⟨rfl,_⟩ | ⟨h1,_,h3⟩
   ·rw [ι.V8];exact hls
   ·rw [ι.upd_ne l h1];exact h.spot i x h3 hlx,h.JU fun b₁ hb₁ ho=>by
   rw [hw.heap,getElem?_set_ne]
   intro e
   exact ho ⟨id,b,hid,hg,hl,e⟩⟩,hext,hhas,Nat.le_succ _,rfl,?_,by rw [hw.heap];simp,?_,?_,hw.os,hw.out,hw.tape⟩
 ·intro i x hx
  rw [hget] at hx
  rw [hw.heap]
  split at hx
  ·rename_i e;subst e;cases hx;simpa using hblk
  ·rename_i e
   split at hx
   ·cases hx;trivial
   ·rename_i e2
    rw [ι.upd_ne l e]
    exact (h.blk i x hx).mono (n:=m.nm ι) hext (Mem.bU hhas hext) (fun hlx=>getElem?_set_ne _ _ _ _ (fun e'=>hown.alone i x e2 hx hlx e'.symm))
 ·intro i x hi hx hlx
  have hi:m.lim≤i:=hi
  rcases hlive i x hx hlx with⟨rfl,rfl⟩ | ⟨h1,h2,h3⟩
  ·refine⟨fun j y hj hy hly=>?_,fun c e fz hc=>?_⟩
   ·rcases hlive j y hy hly with⟨h4,_⟩ | ⟨h4,h5,h6⟩
    ·exact absurd h4 hj
    ·rw [ι.upd_ne l h4,ι.V8,hlb];exact hown.alone j y h5 h6 hly
   ·rw [ι.V8,hlb,hw.heap,avI hbnd] at hc
    exact hf c e fz (avA hc)
  ·refine⟨fun j y hj hy hly=>?_,fun c e fz hc=>?_⟩
   ·rw [ι.upd_ne l h1]
    rcases hlive j y hy hly with⟨rfl,_⟩ | ⟨h4,h5,h6⟩
    ·rw [ι.V8,hlb];exact (h.own i x hi h3 hlx).alone id b (fun e=>h2 e.symm) hg hl
    ·rw [ι.upd_ne l h4];exact (h.own i x hi h3 hlx).alone j y hj h6 hly
   ·rw [ι.upd_ne l h1,hw.heap,getElem?_set_ne _ _ _ _ (fun e'=>hown.alone i x h2 h3 hlx e'.symm)] at hc
    exact (h.own i x hi h3 hlx).free c e fz hc
 ·intro i hi
  rw [hget,if_neg (by have:=h.limn;omega),if_neg (by omega)]
 ·intro b₁ _ ho
  rw [hw.heap,getElem?_set_ne]
  intro e
  exact ho ⟨id,b,hid,hg,hl,e⟩
 ·rintro b₁ ⟨i,x,hi,hx,hlx,rfl⟩
  rcases hlive i x hx hlx with⟨rfl,rfl⟩ | ⟨h1,h2,h3⟩
  ·rw [ι.V8,hlb];exact .inl ⟨id,b,hid,hg,hl,rfl⟩
  ·rw [ι.upd_ne l h1];exact .inl ⟨i,x,hi,h3,hlx,rfl⟩
def Fits (P:Program)(ι:Inj)(m:Mem)(es need:Nat)(cells:List j5)(b':Blk):Prop:=
 iV b'=false∧∀(ι':Inj) (n':Nm) (h':Array Obj) (l':Loc) (c':Array Value) (e:TypeId) (fz:Nat×Nat),(m.nm ι).le n'→(∀i,m.has i→ι' i=ι i)→
  h'[l'.b]?=some (.cells c' e fz)→l'.base+l'.cap≤c'.size→need*es≤l'.cap→(∀(j:Nat) (v:j5),cells[j]?=some v→c'[l'.base+j]?=some (H6 ι v))→fT P ι' n' h' l' b'
theorem qV {es need:Nat}{cells:List j5}{rl:List (List j5)}(hr:rowsOf es need cells=some rl)(hlt:ltL (m.nm ι) cells):Fits P ι m es need cells (.cells es need (T.ofList rl)):=by
 refine⟨rfl,fun ι' n' h' l' c' e fz hle hext hc hcap hneed hat=>?_⟩
 obtain⟨h1,h2,h3⟩:=eX _ _ _ _ hr
 refine⟨c',e,fz,hc,hcap,⟨hneed,rl.length,by omega,T.iJ rl⟩,fun i hi=>?_⟩
 obtain⟨row,g1,g2,g3⟩:=h3 i hi
 refine⟨row,by rw [T.aS];exact g1,g2,cZ.2 fun v hv=>?_,fun j hj=>?_⟩
 ·obtain⟨j,hj⟩:=avU hv
  have hj':j<es:=axb (S9.1 hj).1 g2
  rw [g3 j hj'] at hj
  exact j5.Z8 hle _ (P9 hlt (avG hj))
 ·rw [g3 j hj]
  have hb:i*es+j<cells.length:=by
   rw [h1]
   calc i*es+j<i*es+es:=by omega
    _=(i+1)*es:=by rw [awq]
    _≤need*es:=avR _ hi
  have hv:=U1 hb
  rw [hat _ _ hv,hv,awn,V9 (n:=m.nm ι) hext _ (P9 hlt (avG hv))]
theorem Kg (hm:RM P G ι m w.heap){id es k:Nat}{rows:T (List j5)}(hg:m.get id=some (.cells es k rows)):∀len,len≤k→
  ∃l:List j5,l.length=len*es∧ltL (m.nm ι) l∧lH ι w id 0 l∧∀i,i<len→∃row,rows.get i=some row∧row.length=es∧∀j,j<es→l[i*es+j]?=row[j]?:=by
 intro len
 induction len with
 | zero=>intro _;exact⟨[],by simp,trivial,fun j v hv=>by simp at hv,fun i hi=>by omega⟩
 | succ len ih=>
  intro hle
  obtain⟨l,h1,h2,h3,h4⟩:=ih (by omega)
  obtain⟨c,e,fz,_,_,_,hb⟩:=hm.blk id _ hg
  obtain⟨row,g1,g2,g3,_⟩:=hb len (by omega)
  refine⟨l++row,by simp [h1,g2,awq],cZ.2 fun v hv=>?_,fun j v hv=>?_,fun i hi=>?_⟩
  ·rcases avN.1 hv with hv | hv
   ·exact P9 h2 hv
   ·exact P9 g3 hv
  ·by_cases hj:j<l.length
   ·rw [avY hj] at hv;exact h3 j v hv
   ·rw [awm (by omega)] at hv
    have hjr:=(S9.1 hv).1
    have:=(EC hm hg (i:=len) (by omega) (by omega:j-l.length<es) g1 hv).1
    rwa [show len*es+(j-l.length)=0+j from by omega] at this
  ·by_cases hil:i<len
   ·obtain⟨row',q1,q2,q3⟩:=h4 i hil
    refine⟨row',q1,q2,fun j hj=>?_⟩
    have:i*es+j<l.length:=by
     rw [h1]
     calc i*es+j<i*es+es:=by omega
      _=(i+1)*es:=by rw [awq]
      _≤len*es:=avR _ hil
    rw [avY this];exact q3 j hj
   ·obtain rfl:i=len:=by omega
    refine⟨row,g1,g2,fun j hj=>?_⟩
    rw [awm (by omega)]
    congr 1;omega
theorem NN (hm:RM P G ι m w.heap){id es k len:Nat}{rows:T (List j5)}(hg:m.get id=some (.cells es k rows))(hlen:len≤k){l new:List j5}(hl:l.length=len*es)
  (hrows:∀i,i<len→∃row,rows.get i=some row∧row.length=es∧∀j,j<es→l[i*es+j]?=row[j]?) (hnl:new.length=es) (hlt:ltL (m.nm ι) l) (hnew:ltL (m.nm ι) new):
  Fits P ι m es (len+1) (l++new) (.cells es (len+1) (rows.put len new)):=by
 obtain⟨_,_,_,_,_,⟨_,N,hN,hok⟩,_⟩:=hm.blk id _ hg
 refine⟨rfl,fun ι' n' h' l' c' e fz hle hext hc hcap hneed hat=>⟨c',e,fz,hc,hcap,⟨hneed,?_⟩,fun i hi=>?_⟩⟩
 ·rcases awL len N with h | h
  ·exact⟨N,by omega,hok.put _ _ h⟩
  ·obtain rfl:len=N:=by omega
   exact⟨len+1,D5 _,hok.push _⟩
 ·by_cases hil:i=len
  ·subst hil
   refine⟨new,T.aQ hok _ _ (by omega),hnl,dR hle _ hnew,fun j hj=>?_⟩
   have hv:new[j]?=some new[j]:=U1 (by omega)
   have:(l++new)[i*es+j]?=some new[j]:=by
    rw [awm (by omega),← hv];congr 1;omega
   rw [hat _ _ this,hv,awn,V9 (n:=m.nm ι) hext _ (P9 hnew (avG hv))]
  ·obtain⟨row,q1,q2,q3⟩:=hrows i (by omega)
   have hin:∀j,j<es→i*es+j<l.length:=fun j hj=>by
    rw [hl]
    calc i*es+j<i*es+es:=by omega
     _=(i+1)*es:=by rw [awq]
     _≤len*es:=avR _ (by omega)
   refine⟨row,by rw [T.bL hok _ _ _ (by omega) (fun e=>hil e.symm)];exact q1,q2,cZ.2 fun v hv=>?_,fun j hj=>?_⟩
   ·obtain⟨j,hj⟩:=avU hv
    have hj':j<es:=axb (S9.1 hj).1 q2
    rw [← q3 j hj'] at hj
    exact j5.Z8 hle _ (P9 hlt (avG hj))
   ·have hv:l[i*es+j]?=some (l[i*es+j]'(hin j hj)):=U1 (hin j hj)
    have h2:(l++new)[i*es+j]?=some (l[i*es+j]'(hin j hj)):=by rw [avY (hin j hj)];exact hv
    rw [hat _ _ h2,← q3 j hj,hv,awn,V9 (n:=m.nm ι) hext _ (P9 hlt (avG hv))]
end
section
variable {P:Program}{G:Mem}{ι:Inj}{m:Mem}{w:World}{a:Act}
theorem CP (need:Nat):∀(r c:Nat),Builtin.growBy need r c≤max c (need+(need+768) / 4)
 | 0,c=>by simp only [Builtin.growBy];omega
 | r+1,c=>by
  simp only [Builtin.growBy]
  split
  ·omega
  ·have:=CP need r (c+(c+768) / 4);omega
theorem nextslicecap_le (need old:Nat)(h:old<need):Builtin.nextslicecap need old≤2*need+2048:=by
 unfold Builtin.nextslicecap
 split
 ·omega
 ·split
  ·omega
  ·have:=CP need 4 old;omega
def NP:TypeDesc→Bool
 | .int _=>true
 | _=>false
def aqW (P:Program)(w:World)(zs:Bool)(by' n:Nat)(x:Value):Prop:=
 (zs=false∧(Builtin.lenOf x).run P w=.ok n w)∨(zs=true∧(∃k,x=.int k n)∧n<9223372036854775808∧n*by'≤281474976710656)
def lJ (zs:Bool)(e:TypeId)(es sLen sCap:Nat)(base:Option Addr)(x:Value)(n:Nat):Sem Value:=do
 let appended:Sem (Array Value):=
  if !zs then Builtin.firstCells es n x
  else if n*es=0 then pure #[]
  else do pure (Builtin.zeroCells (← zeroValue e).cells n)
 let need:=sLen+n
 if need≤sCap then
  let new ← appended
  if let some a:=base then storeCells (a.add (sLen*es)) new.toList
  pure (.slice base need sCap)
 else
  if (need:Int)>IntKind.i64.max∧(zs∨(← typeInfo e).bytes=0) then runtimePanic (.error "growslice: len out of range")
  if Builtin.nextslicecap need sCap*(← typeInfo e).bytes>2^48 then (if zs then runtimePanic (.error "growslice: len out of range") else do
   if !(← Builtin.mayShare es sLen n base x) then mark .noRoom
   unsupported (.resourceLimit "append: a slice or a string whose bytes no memory bears"))
  let newCap ← choose (.appendCap need sCap e)
  askRoom (newCap*(← typeInfo e).bytes)
  let old ← Builtin.firstCells es sLen (.slice base sLen sCap)
  let new ← appended
  let rest:=Builtin.zeroCells (← zeroValue e).cells (newCap-need)
  pure (.slice (some (← newRow e (old++new++rest))) need newCap)
theorem EO {t u e T:TypeId}{d:TypeDesc}{es by' n sLen sCap:Nat}{base:Option Addr}{x:Value}(hu:P.underlying t=some (.slice e))(hes:jM P e=some es)(hd:P.underlying u=some d)
  (hby:iD P e=some by') (hn:aqW P w (NP d) by' n x):
  (Builtin.append_ #[t,u] T #[.slice base sLen sCap,x]).run P w=(lJ (NP d) e es sLen sCap base x n).run P w:=by
 obtain⟨info,hi1,hi2⟩:=qI (w:=w) hby
 rcases hn with⟨hz,h1⟩ | ⟨hz,⟨k,rfl⟩,h2,h3⟩
 ·cases d with
  | int=>cases hz
  | _=>
   simp only [Builtin.append_,awC,ax2,awv,avy,run_underlying hu,avs,run_sizeOf hes,run_underlying hd,avP,awg,if_false,h1,lJ,NP]
   rfl
 ·cases d with
  | int k'=>
   have w1:IntKind.i64.wrap (n:Int)=n:=vV _ ⟨by omega,by omega⟩
   have hbig:¬ ((n:Int)*(info.bytes:Int)>2^48):=by
    rw [hi2]
    have:((n*by':Nat):Int)=(n:Int)*(by':Int):=by simp
    rw [← this]
    have h48:(2:Int)^48=281474976710656:=rfl
    rw [h48];omega
   have hneg:¬ ((n:Int)<0):=by omega
   simp only [Builtin.append_,awC,ax2,awv,avy,run_underlying hu,avs,run_sizeOf hes,run_underlying hd,avP,if_true,asInt,asIntOf,w1,hneg,if_false,hi1,hbig,axR,lJ,NP]
   rfl
  | _=>cases hz
theorem jT {zs:Bool}{e:TypeId}{es sLen sCap n:Nat}{base:Option Addr}{x:Value}{new:List Value}{w':World}(hfit:sLen+n≤sCap)
  (hnew:(if (!zs)=true then Builtin.firstCells es n x else if n*es=0 then pure #[] else do pure (Builtin.zeroCells (← zeroValue e).cells n):Sem (Array Value)).run P w=.ok new.toArray w)
  (hst:match base with | some ad=>(storeCells (ad.add (sLen*es)) new 0).run P w=.ok () w' | none=>w'=w):
  (lJ zs e es sLen sCap base x n).run P w=.ok (.slice base (sLen+n) sCap) w':=by
 unfold lJ
 simp only [hfit,if_true]
 rw [avy,hnew,avs]
 cases base with
 | none=>subst hst;simp
 | some ad=>simp only [] at hst;simp [hst]
theorem nC {zs:Bool}{e:TypeId}{es by' sLen sCap n:Nat}{base:Option Addr}{x:Value}{z:List j5}{old new:List Value}(hby:iD P e=some by')(hz:sD P e=some z)
  (hnofit:¬ sLen+n≤sCap) (hbig:(2*(sLen+n)+2048)*by'≤281474976710656) (hby1:1≤by')
  (hold:∀w':World,w'.heap=w.heap→(Builtin.firstCells es sLen (.slice base sLen sCap)).run P w'=.ok old.toArray w')
  (hnew:∀w':World,w'.heap=w.heap→(if (!zs)=true then Builtin.firstCells es n x else if n*es=0 then pure #[] else do pure (Builtin.zeroCells (← zeroValue e).cells n):Sem (Array Value)).run P w'=.ok new.toArray w'):
  ∃(capN:Nat) (rest:List Value),sLen+n≤capN∧rest.length=(capN-(sLen+n))*z.length∧
   (lJ zs e es sLen sCap base x n).run P w=.ok (.slice (some ⟨w.heap.size,0,none⟩) (sLen+n) capN)
    {w with heap:=w.heap.push (.cells (old++new++rest).toArray e),drawn:=w.drawn+1}:=by
 obtain⟨info,hi1,hi2⟩:=qI (w:=w) hby
 have hle:(2*(sLen+n)+2048)*1≤(2*(sLen+n)+2048)*by':=axE _ hby1
 have hcapb:=nextslicecap_le (sLen+n) sCap (by omega)
 have hmul:Builtin.nextslicecap (sLen+n) sCap*by'≤(2*(sLen+n)+2048)*by':=avR _ hcapb
 have c1:¬ (((sLen+n:Nat):Int)>IntKind.i64.max):=by
  have:IntKind.i64.max=9223372036854775807:=rfl
  rw [this];omega
 have c2:¬ (Builtin.nextslicecap (sLen+n) sCap*info.bytes>2^48):=by
  rw [hi2]
  have h48:(2:Nat)^48=281474976710656:=rfl
  rw [h48];omega
 obtain⟨zv,hz1,hz2,_⟩:=dK (P:=P) (w:={w with drawn:=w.drawn+1}) hz (fun _=>⟨0,0,0,none⟩)
 refine⟨sLen+n+w.tape w.drawn (.appendCap (sLen+n) sCap e)%(2^63-(sLen+n)),(Builtin.zeroCells zv.cells (sLen+n+w.tape w.drawn (.appendCap (sLen+n) sCap e)%(2^63-(sLen+n))-(sLen+n))).toList,by omega,?_,?_⟩
 ·simp [Builtin.zeroCells,hz2]
 ·unfold lJ
  simp only [hnofit,if_false]
  have hi1':∀w',(typeInfo e).run P w'=.ok info w':=by
   intro w'
   obtain⟨i2,h1,_⟩:=qI (w:=w') hby
   have h3:∀w₁ w₂:World,∀a b,(typeInfo e).run P w₁=.ok a w₁→(typeInfo e).run P w₂=.ok b w₂→a=b:=by
    intro w₁ w₂ a b ha hb
    unfold typeInfo at ha hb
    simp only [avy,run_program,avs] at ha hb
    split at ha<;>split at hb<;>simp_all
   rw [h1,h3 w' w _ _ h1 hi1]
  have hch:∀w':World,(choose (.appendCap (sLen+n) sCap e)).run P w'=.ok (sLen+n+w'.tape w'.drawn (.appendCap (sLen+n) sCap e)%(2^63-(sLen+n))) {w' with drawn:=w'.drawn+1}:=by
   intro w';rw [run_choose];simp [Question.forced,Question.cut]
  simp only [avy,hi1',avs,c1,c2,false_and,if_false,avP,hch,run_askRoom,hold {w with drawn:=w.drawn+1} rfl,hnew {w with drawn:=w.drawn+1} rfl,hz1,fD]
  simp only [ax3,← List.append_toArray,awf]
theorem AO (hm:RM P G ι m w.heap){es need capN:Nat}{cells:List j5}{b':Blk}(hF:Fits P ι m es need cells b'){c:Array Value}{e:TypeId}{w':World}
  (hw:Zh w w' (.cells c e)) (hsz:c.size=capN*es) (hcap:need≤capN) (hat:∀(j:Nat) (v:j5),cells[j]?=some v→c[j]?=some (H6 ι v)):
  Step P G ι m w (ι.upd m.next ⟨w.heap.size,0,capN*es,none⟩) (m.new b') w':=by
 obtain⟨hv,hF⟩:=hF
 have hlaid:=Laid.new hm.ok hm.limn b' hv
 have hext:∀j,m.has j→(ι.upd m.next ⟨w.heap.size,0,capN*es,none⟩) j=ι j:=fun j hj=>ι.upd_ne _ fun h=>hlaid.free (h▸hj)
 refine Step.lay hm hlaid hw rfl rfl ?_ ?_
 ·refine hF _ _ _ _ c e _ (Mem.bU hlaid.has hext) hext fZ ?_ ?_ fun j v hj=>?_
  ·show 0+capN*es≤c.size;omega
  ·exact avR _ hcap
  ·rw [avS];exact hat j v hj
 ·intro c' e' fz h k hk
  cases h;simp
theorem Fits.kill (hm:RM P G ι m w.heap){es need q:Nat}{cells:List j5}{b' bq:Blk}(hF:Fits P ι m es need cells b')(hq:m.lim≤q)(hg:m.get q=some bq):Fits P ι (m.set q .dead) es need cells b':=by
 have hk:=Step.kill hm hq hg
 refine⟨hF.1,fun ι' n' h' l' c' e fz hle hext=>hF.2 ι' n' h' l' c' e fz (Nm.le_trans (Mem.bU hk.has fun _ _=>rfl) hle) fun i hi=>hext i (hk.has i hi)⟩
theorem Kh (hm:RM P G ι m w.heap){es need capN q:Nat}{cells:List j5}{b' bq:Blk}(hF:Fits P ι m es need cells b')(hq:m.lim≤q)(hg:m.get q=some bq){c:Array Value}{e:TypeId}{w':World}
  (hw:Zh w w' (.cells c e)) (hsz:c.size=capN*es) (hcap:need≤capN) (hat:∀(j:Nat) (v:j5),cells[j]?=some v→c[j]?=some (H6 ι v)):
  Step P G ι m w (ι.upd m.next ⟨w.heap.size,0,capN*es,none⟩) ((m.set q .dead).new b') w':=
 (Step.kill hm hq hg).trans (AO (Step.kill hm hq hg).rm (Fits.kill hm hF hq hg) hw hsz hcap hat)
theorem Sb (hm:RM P G ι m w.heap){q rs k:Nat}{rows:T (List j5)}(hq:m.lim≤q)(hg:m.get q=some (.cells rs k rows)){c:Array Value}{e:TypeId}{fz:Nat×Nat}(hc:w.heap[(ι q).b]?=some (.cells c e fz))
  {B C len n es:Nat} {old new:List j5} {b':Blk} (hBC:B+C≤c.size) (hfit:(len+n)*es≤C) (hol:old.length=len*es) (hnl:new.length=n*es) (hone:O7 new=true)
  (hold:∀(j:Nat) (v:j5),old[j]?=some v→c[B+j]?=some (H6 ι v)) (hF:Fits P ι m es (len+n) (old++new) b'):
  ∃w',(storeCells ⟨(ι q).b,B+len*es,none⟩ (H8 ι new) 0).run P w=.ok () w'∧
   Step P G ι m w (ι.upd m.next ⟨(ι q).b,B,C,none⟩) ((m.set q .dead).new b') w':=by
 have hown:=hm.own q _ hq hg rfl
 have hfz:=hown.free c e fz hc
 have hsum:(len+n)*es=len*es+n*es:=awS _ _ _
 have hrun:=pz (P:=P) (H8 ι new) c (B+len*es) 0 w hc (by simp;omega) hfz (fun v hv=>by
  rw [bH] at hv
  obtain⟨u,hu,rfl⟩:=awy.1 hv
  exact CG (pX hone u hu))
 refine⟨_,hrun,?_⟩
 obtain⟨hv,hF⟩:=hF
 have hk:=Step.kill hm hq hg
 have hlaid:=Laid.new hk.rm.ok hk.rm.limn b' hv
 have hext:∀j,m.has j→(ι.upd m.next ⟨(ι q).b,B,C,none⟩) j=ι j:=fun j ⟨y,hy,_⟩=>ι.upd_ne _ fun h=>by have:=Mem.M8 hm.ok hy;omega
 refine Step.afr (o:=.cells (over c (B+len*es+0) (H8 ι new)) e fz) (w':={w with heap:=w.heap.setIfInBounds (ι q).b (.cells (over c (B+len*es+0) (H8 ι new)) e fz)}) hm hq hg rfl hv ⟨rfl,rfl,rfl,rfl⟩ rfl rfl ?_ ?_
 ·refine hF _ _ _ _ _ e fz (Mem.bU (fun i hi=>hlaid.has i (hk.has i hi)) hext) hext (kD hc) ?_ hfit fun j v hj=>?_
  ·simpa using hBC
  ·show (over c (B+len*es+0) (H8 ι new))[B+j]?=some (H6 ι v)
   rw [Az _ _ _ (by simp;omega)]
   by_cases h1:j<old.length
   ·rw [avY h1] at hj
    rw [if_pos (by omega)];exact hold j v hj
   ·rw [awm (by omega)] at hj
    have h2:=(S9.1 hj).1
    rw [if_neg (by omega),if_pos (by simp;omega),aZ,show B+j-(B+len*es+0)=j-old.length from by omega,hj];rfl
 ·intro c' e' fz' h k' hk'
  cases h
  exact hfz k' (by simpa using hk')
theorem qW {w':World}{l:Loc}{m':Mem}(hls:l.spot=none)(hst:Step P G ι m w (ι.upd m.next l) m' w')(hh:m'.has m.next){es need:Nat}(hes:1≤es)(hneed:need*es≤l.cap){cap:Nat}(hcap:cap=l.cap / es):
  gu P G ι m w [⟨.sliceU m.next 0 need es,m'⟩] (.slice (some ⟨l.b,l.base,none⟩) need cap) w':=by
 refine⟨_,W9.2 rfl,_,hst,⟨hh,hes,?_⟩,?_⟩
 ·show 0+need*es≤((ι.upd m.next l) m.next).cap
  rw [Inj.V8];omega
 ·simp [H6,Inj.at,hcap,hls]
theorem EP (h:T.Ok m.t m.next){b:Blk}(hb:iV b=false):(m.new b).has m.next:=⟨b,by rw [Mem.T9 h,if_pos rfl],hb⟩
theorem AP {n bytes es:Nat}(h:big n bytes es=true):(2*n+2048)*bytes≤281474976710656∧1≤es∧1≤bytes:=by
 unfold big at h
 cases h1:Nat.ble (Nat.mul (Nat.add (Nat.mul 2 n) 2048) bytes) 281474976710656 with
 | false=>rw [h1] at h;cases h
 | true=>
  rw [h1] at h
  cases h2:Nat.ble 1 es with
  | false=>rw [h2] at h;cases h
  | true=>
   rw [h2] at h
   exact⟨avC h1,avC h2,avC h⟩
theorem NQ {β:Type}{b:Option Blk}{c:Nat→Nat→T (List j5)→Option β}{k:Nat→Option β}{r:β}(h:BU b c k=some r):
  (∃rs n rows,b=some (.cells rs n rows)∧c rs n rows=some r)∨∃p,b=some (.tail p)∧k p=some r:=by
 unfold BU at h
 split at h
 ·exact .inl ⟨_,_,_,rfl,h⟩
 ·exact .inr ⟨_,rfl,h⟩
 ·cases h
theorem vC {es n:Nat}{cells:List j5}{outs:List VM}(h:grown m es n cells=some outs):∃rl,rowsOf es n cells=some rl∧outs=[⟨.sliceU m.next 0 n es,m.new (.cells es n (T.ofList rl))⟩]:=by
 obtain⟨rl,h1,h⟩:=J6 h
 cases h
 exact⟨rl,h1,rfl⟩
theorem Gn {α:Type}{b:Bool}{x y:Option α}{r:α}(h:bi b x y=some r):(b=true∧x=some r)∨(b=false∧y=some r):=by
 cases b with
 | true=>exact .inl ⟨rfl,h⟩
 | false=>exact .inr ⟨rfl,h⟩
theorem CQ {a b:Nat}(h:Nat.ble a b=false):¬ a≤b:=fun hh=>by rw [avB hh] at h;cases h
end
section
variable {P:Program}{G:Mem}{ι:Inj}{m:Mem}{w:World}{slots:List Nat}{done:List (Option Nat)}{ls:List j5}{env:T j5}{a:Act}
theorem Ki (hm:RM P G ι m w.heap){id rs k:Nat}{rows:T (List j5)}(hg:m.get id=some (.cells rs k rows)):∃c e fz,w.heap[(ι id).b]?=some (.cells c e fz)∧(ι id).base+(ι id).cap≤c.size∧
  ∀j v,w.cell? (ι.at id j)=some v→c[(ι id).base+j]?=some v:=by
 obtain⟨c,e,fz,h1,h2,_⟩:=hm.blk id _ hg
 refine⟨c,e,fz,h1,h2,fun j v hv=>?_⟩
 simpa [World.cell?,Inj.at,h1,hm.spot id _ hg rfl] using hv
theorem ER (hm:RM P G ι m w.heap){e:TypeId}{es by' n:Nat}{z:List j5}(hz:Qb P e=some z)(hes:jM P e=some es)(hby:iD P e=some by')
  {zs:Bool} {x:Value} {new:List j5} (hltn:ltL (m.nm ι) new) (hn0:n=0→new=[])
  (hnew:∀w':World,w'.heap=w.heap→(if (!zs)=true then Builtin.firstCells es n x else if n*es=0 then pure #[] else do pure (Builtin.zeroCells (← zeroValue e).cells n):Sem (Array Value)).run P w'=.ok (H8 ι new).toArray w')
  {sv:j5} (hsv:sv.lt (m.nm ι)) {outs:List VM} (h:pR m es by' n new sv=some outs):
  ∃base sLen sCap v w',H6 ι sv=.slice base sLen sCap∧(lJ zs e es sLen sCap base x n).run P w=.ok v w'∧gu P G ι m w outs v w':=by
 obtain⟨hz',hsz⟩:=wE hz
 obtain rfl:es=z.length:=by rw [hes] at hsz;exact avA hsz
 rcases uq h with⟨rfl,h⟩ | ⟨id,off,len,cap,rfl,h⟩ | ⟨id,off,len,es',rfl,h⟩
 ·
  refine⟨none,0,0,?_⟩
  cases n with
  | zero=>
   have h:one .nilSlice m=some outs:=h
   cases h
   obtain rfl:=hn0 rfl
   exact⟨.slice none 0 0,w,rfl,jT (D5 0) (hnew w rfl) rfl,_,W9.2 rfl,ι,Step.refl hm,trivial,rfl⟩
  | succ n=>
   have h:bi (big (n+1) by' z.length) (grown m z.length (n+1) new) none=some outs:=h
   obtain⟨hb,h⟩:=L6 h
   obtain⟨b1,b2,b3⟩:=AP hb
   obtain⟨rl,hr,rfl⟩:=vC h
   obtain⟨capN,rest,r1,r2,r3⟩:=nC (P:=P) (w:=w) (zs:=zs) (e:=e) (es:=z.length) (sLen:=0) (sCap:=0) (base:=none) (x:=x) (n:=n+1) (old:=[]) hby hz' (by omega) (by simpa using b1) b3
    (fun w' _=>by simp [Builtin.firstCells]) hnew
   have hlen:=(eX _ _ _ _ hr).1
   have hst:=AO hm (qV hr hltn) (c:=([]++H8 ι new++rest).toArray) (e:=e) (w':={w with heap:=w.heap.push (.cells ([]++H8 ι new++rest).toArray e),drawn:=w.drawn+1}) ⟨rfl,rfl,rfl,rfl⟩ (capN:=capN)
    (by simp only [awR,awk,aw8,aD,hlen,r2,avS];rw [← awS];congr 1;omega) (by omega)
    (fun j v hj=>by
     have hj':=(S9.1 hj).1
     simp only [avT,awC]
     rw [avY (by simpa using hj'),aZ,hj];rfl)
   refine⟨_,_,rfl,r3,?_⟩
   have:=qW rfl hst (EP hm.ok rfl) b2 (need:=n+1) (avR _ (by omega)) (cap:=capN) (by show capN=capN*z.length / z.length;rw [axd _ b2])
   simpa using this
 ·
  refine⟨some (ι.at id off),len,cap,?_⟩
  have h:bi (Nat.ble (len+n) cap) (iH m id (off+len*z.length) new fun m'=>one (.slice id off (len+n) cap) m')
   (bi (big (len+n) by' z.length) (ob (R4 m id off (len*z.length)) fun old=>grown m z.length (len+n) (jl old new)) none)=some outs:=h
  rcases Gn h with⟨hf,h⟩ | ⟨hf,h⟩
  ·obtain⟨m',w',hk,hrun,hst⟩:=jC hm h hltn
   cases hk
   exact⟨_,w',rfl,jT (avC hf) (hnew w rfl) (by simp only [Inj.mW];exact hrun),_,W9.2 rfl,ι,hst,hst.has id hsv,by simp [H6]⟩
  ·obtain⟨hb,h⟩:=L6 h
   obtain⟨b1,b2,b3⟩:=AP hb
   obtain⟨old,ho,h⟩:=J6 h
   rw [ak] at h
   obtain⟨rl,hr,rfl⟩:=vC h
   obtain⟨o1,o2,o3⟩:=iE hm ho
   obtain⟨capN,rest,r1,r2,r3⟩:=nC (P:=P) (w:=w) (zs:=zs) (e:=e) (es:=z.length) (sLen:=len) (sCap:=cap) (base:=some (ι.at id off)) (x:=x) (n:=n) (old:=H8 ι old) hby hz' (CQ hf) b1 b3
    (fun w' hw=>iF o1 (fun j v hj=>by have:=o3 j v hj;simpa [World.cell?,hw] using this)) hnew
   have hlt:ltL (m.nm ι) (old++new):=cZ.2 fun v hv=>(avN.1 hv).elim (P9 o2) (P9 hltn)
   have hlen:=(eX _ _ _ _ hr).1
   have hst:=AO hm (qV hr hlt) (c:=(H8 ι old++H8 ι new++rest).toArray) (e:=e) (w':={w with heap:=w.heap.push (.cells (H8 ι old++H8 ι new++rest).toArray e),drawn:=w.drawn+1}) ⟨rfl,rfl,rfl,rfl⟩ (capN:=capN)
    (by
     rw [awk] at hlen
     simp only [awR,awk,aD,hlen,r2];rw [← awS];congr 1;omega) (by omega)
    (fun j v hj=>by
     have hj':=(S9.1 hj).1
     rw [awk] at hj'
     rw [awC,avY (by simpa using hj'),bH,bH,← awN,awe,hj];rfl)
   refine⟨_,_,rfl,r3,?_⟩
   exact qW rfl hst (EP hm.ok rfl) b2 (need:=len+n) (avR _ (by omega)) (cap:=capN) (by show capN=capN*z.length / z.length;rw [axd _ b2])
 ·
  obtain⟨hs1,hs2,hs3⟩:=hsv
  have hs3:off+len*es'≤(ι id).cap:=hs3
  have hlecap:len≤((ι id).cap-off) / es':=(aw0 hs2).2 (by omega)
  refine⟨some (ι.at id off),len,((ι id).cap-off) / es',?_⟩
  cases n with
  | zero=>
   have h:one (.sliceU id off len es') m=some outs:=h
   cases h
   obtain rfl:=hn0 rfl
   refine⟨_,w,rfl,jT (w':=w) hlecap (hnew w rfl) (by simp [H8,storeCells]),_,W9.2 rfl,ι,Step.refl hm,⟨hs1,hs2,hs3⟩,by simp [H6]⟩
  | succ n=>
   have h:bi (Nat.beq z.length es') (bi (big (len+(n+1)) by' z.length) (bi (Nat.ble m.lim id) (bi (O7 new)
    (BU (m.get id)
     (fun rs k rows=>
      bi (bi (Nat.beq rs z.length) (bi (Nat.beq off 0) (bi (Nat.ble len k) (bi (Nat.beq (n+1) 1) (Nat.beq (len' new) z.length) false) false) false) false)
       (one (.sliceU m.next 0 (Nat.succ len) z.length) ((m.set id .dead).new (.cells z.length (Nat.succ len) (rows.put len new))))
       (ob (M5 rs k rows (len*z.length) off) fun old=>grown (m.set id .dead) z.length (len+(n+1)) (jl old new)))
     (fun p=>aO (m.get p) fun _ _ _=>bi (Nat.ble m.lim p) (bi (Nat.beq len 0) (grown (m.set p .dead) z.length (n+1) new) none) none)) none) none) none) none=some outs:=h
   obtain⟨q1,k1⟩:=L6 h
   clear h
   obtain rfl:=avt q1
   obtain⟨q2,k2⟩:=L6 k1
   obtain⟨b1,b2,b3⟩:=AP q2
   obtain⟨q3,k3⟩:=L6 k2
   have hlim:m.lim≤id:=avC q3
   obtain⟨hone,h⟩:=L6 k3
   clear k1 k2 k3
   have core:∀(q rs k:Nat) (rows:T (List j5)),m.lim≤q→m.get q=some (.cells rs k rows)→∀(B C:Nat) (old:List j5) (b':Blk),C=(ι id).cap-off→
     ((ι id).b=(ι q).b∨C=0)→B=(ι id).base+off→(C≠0→B+C≤(ι q).base+(ι q).cap)→(C≠0→(ι id).spot=none)→old.length=len*z.length→new.length=(n+1)*z.length→ltL (m.nm ι) old→lH ι w id off old→
     Fits P ι m z.length (len+(n+1)) (old++new) b'→outs=[⟨.sliceU m.next 0 (len+(n+1)) z.length,(m.set q .dead).new b'⟩]→
     ∃v w',H6 ι (.sliceU id off len z.length)=.slice (some (ι.at id off)) len (((ι id).cap-off) / z.length)∧
      (lJ zs e z.length len (((ι id).cap-off) / z.length) (some (ι.at id off)) x (n+1)).run P w=.ok v w'∧gu P G ι m w outs v w':=by
    intro q rs k rows hq hg B C old b' hC hb hB hBC hspC hol hnl holt hoc hF hout
    subst hout
    have hokk:=(Step.kill hm hq hg).rm
    have hhas:((m.set q .dead).new b').has m.next:=EP (m:=m.set q .dead) hokk.ok hF.1
    by_cases hfit:len+(n+1)≤((ι id).cap-off) / z.length
    ·have hfit':(len+(n+1))*z.length≤C:=by rw [hC];exact (aw0 b2).1 hfit
     have hC0:C≠0:=by
      have:1*1≤(len+(n+1))*z.length:=Nat.mul_le_mul (by omega) b2
      omega
     have hb:=hb.resolve_right hC0
     have hspid:=hspC hC0
     obtain⟨c,e₀,fz,c1,c2,c3⟩:=Ki hm hg
     obtain⟨w',g1,g2⟩:=Sb hm hq hg c1 (B:=B) (C:=C) (len:=len) (n:=n+1) (es:=z.length) (old:=old) (new:=new) (b':=b') (by have:=hBC hC0;omega) hfit' hol hnl hone
      (fun j v hj=>by
       have:=hoc j v hj
       simp only [World.cell?,Inj.at,hb,c1,hspid] at this
       rw [hB,avw];simpa using this) hF
     refine⟨_,w',by simp [H6],jT hfit (hnew w rfl) (by
      have:(ι.at id off).add (len*z.length)=⟨(ι q).b,B+len*z.length,none⟩:=by simp [Inj.at,Addr.add,hb,hB,hspid]
      simp only [this];exact g1),?_⟩
     have:=qW rfl g2 hhas b2 (need:=len+(n+1)) hfit' (cap:=((ι id).cap-off) / z.length) (by show _=C / z.length;rw [hC])
     have hbase:ι.at id off=⟨(ι q).b,B,none⟩:=by simp [Inj.at,hb,hB,hspid]
     rw [hbase]
     exact this
    ·obtain⟨capN,rest,r1,r2,r3⟩:=nC (P:=P) (w:=w) (zs:=zs) (e:=e) (es:=z.length) (sLen:=len) (sCap:=((ι id).cap-off) / z.length) (base:=some (ι.at id off)) (x:=x) (n:=n+1) (old:=H8 ι old) hby hz' hfit b1 b3
      (fun w' hw=>iF hol (fun j v hj=>by have:=hoc j v hj;simpa [World.cell?,hw] using this)) hnew
     have hst:=Kh hm hF hq hg (c:=(H8 ι old++H8 ι new++rest).toArray) (e:=e) (w':={w with heap:=w.heap.push (.cells (H8 ι old++H8 ι new++rest).toArray e),drawn:=w.drawn+1}) ⟨rfl,rfl,rfl,rfl⟩ (capN:=capN)
      (by
       simp only [awR,awk,aD,hol,hnl,r2];rw [← awS,← awS];congr 1;omega) (by omega)
      (fun j v hj=>by
       have hj':=(S9.1 hj).1
       rw [awk] at hj'
       rw [awC,avY (by simpa using hj'),bH,bH,← awN,awe,hj];rfl)
     refine⟨_,_,by simp [H6],r3,?_⟩
     exact qW rfl hst hhas b2 (need:=len+(n+1)) (avR _ (by omega)) (cap:=capN) (by show capN=capN*z.length / z.length;rw [axd _ b2])
   rcases NQ h with⟨rs,k,rows,hg,h⟩ | ⟨p,hg,h⟩
   ·obtain⟨cc,e₀,fz₀,c1,c2,c3⟩:=Ki hm hg
    rcases Gn h with⟨hf,h9⟩ | ⟨_,h⟩
    ·
     clear h
     have hf1:rs=z.length∧off=0∧len≤k∧n=0∧new.length=z.length:=by
      cases p1:Nat.beq rs z.length<;>rw [p1] at hf<;>simp only [aJ,aY] at hf<;>try (cases hf;done)
      cases p2:Nat.beq off 0<;>rw [p2] at hf<;>simp only [aJ,aY] at hf<;>try (cases hf;done)
      cases p3:Nat.ble len k<;>rw [p3] at hf<;>simp only [aJ,aY] at hf<;>try (cases hf;done)
      cases p4:Nat.beq (n+1) 1<;>rw [p4] at hf<;>simp only [aJ,aY] at hf<;>try (cases hf;done)
      have p4:=avt p4
      have hf:=avt hf
      rw [Q5] at hf
      exact⟨avt p1,avt p2,avC p3,by omega,hf⟩
     obtain⟨rfl,rfl,hk,rfl,hnl⟩:=hf1
     cases h9
     obtain⟨l,l1,l2,l3,l4⟩:=Kg hm hg len hk
     exact core id z.length k rows hlim hg _ _ l _ rfl (.inl rfl) rfl (fun _=>by omega) (fun _=>hm.spot id _ hg rfl) l1 (by omega) l2 l3 (NN hm hg hk l1 l4 hnl l2 hltn) rfl
    ·obtain⟨old,ho,h⟩:=J6 h
     rw [ak] at h
     obtain⟨rl,hr,hout⟩:=vC h
     obtain⟨o1,o2,o3⟩:=oW hm hg _ _ _ ho
     have hlt:ltL (m.nm ι) (old++new):=cZ.2 fun v hv=>(avN.1 hv).elim (P9 o2) (P9 hltn)
     have hlen:=(eX _ _ _ _ hr).1
     rw [awk,o1,awS] at hlen
     exact core id rs k rows hlim hg _ _ old _ rfl (.inl rfl) rfl (fun _=>by omega) (fun _=>hm.spot id _ hg rfl) o1 (by omega) o2 o3 (qV hr hlt) hout
   ·obtain⟨rs,k,rows,hgp,h⟩:=kU h
    obtain⟨q4,h⟩:=L6 h
    have hlimp:=avC q4
    obtain⟨q5,h⟩:=L6 h
    obtain rfl:=avt q5
    obtain⟨rl,hr,hout⟩:=vC h
    obtain⟨t1,t2⟩:=hm.blk id _ hg
    have hlen:=(eX _ _ _ _ hr).1
    refine core p rs k rows hlimp hgp _ _ [] (.cells z.length (n+1) (T.ofList rl)) rfl ?_ rfl ?_ ?_ (by simp) hlen trivial (fun j v hj=>by simp at hj) ?_ ?_
    ·rcases t2 with t2 | t2
     ·exact .inr (by omega)
     ·exact .inl t2.1
    ·intro hne
     rcases t2 with t2 | t2
     ·omega
     ·omega
    ·intro hne
     rcases t2 with t2 | t2
     ·omega
     ·exact t2.2.2 (hm.spot p _ hgp rfl)
    ·rw [avT,avS];exact qV hr hltn
    ·rw [hout,avS];rfl
def asc (d:TypeDesc):Bool:=match d with | .int _=>true | _=>false
theorem Sc (d:TypeDesc):asc d=NP d:=by cases d<;>rfl
theorem Kj (s:St P ι (m.nm ι) slots done ls env a.tmps)(hm:RM P G ι m w.heap){c:Call}{t u e:TypeId}{d:TypeDesc}{x y:Operand}{x' y':Opd}{es by':Nat}{z:List j5}(hc:c.callee=.builtin .append)
  (hts:c.argTypes.toList=[t,u]) (has:c.args.toList=[x,y]) (hu:P.underlying t=some (.slice e)) (hd:P.underlying u=some d) (hes:jM P e=some es) (hz:Qb P e=some z) (hby:iD P e=some by')
  (hx:bK P slots done x=some x') (hy:bK P slots done y=some y') {cf:K8} {outs:List VM} (hv:trE (.app es (NP d) z by' x' y') cf ls env m=some outs):
  ∀o:Oper,o.op=.call c→Does P a.eval o w (gu P G ι m w outs):=by
 intro o ho
 have hts:c.argTypes=#[t,u]:=by rw [← hts,awf]
 have has:c.args=#[x,y]:=by rw [← has,awf]
 obtain⟨e1,g1⟩:=I5 s hx
 obtain⟨e2,g2⟩:=I5 s hy
 obtain⟨hz',hsz⟩:=wE hz
 have hesz:es=z.length:=by rw [hes] at hsz;exact avA hsz
 have fin:∀(n:Nat) (new:List j5),aqW P w (NP d) by' n (H6 ι (trO y' ls env))→ltL (m.nm ι) new→(n=0→new=[])→
   (∀w':World,w'.heap=w.heap→(if (!NP d)=true then Builtin.firstCells es n (H6 ι (trO y' ls env)) else if n*es=0 then pure #[] else do pure (Builtin.zeroCells (← zeroValue e).cells n):Sem (Array Value)).run P w'=.ok (H8 ι new).toArray w')→
   pR m es by' n new (trO x' ls env)=some outs→Does P a.eval o w (gu P G ι m w outs):=by
  intro n new hn hlt hn0 hnew h
  obtain⟨base,sLen,sCap,v,w',q1,q2,q3⟩:=ER hm hz hes hby hlt hn0 hnew g1 h
  refine Y9 (v:=v) (w':=w') ?_ q3
  rw [← EO (T:=o.type) hu hes hd hby hn] at q2
  simp [execOp,ho,resolve,hc,has,hts,invoke,builtin,e1,e2,q1,q2]
 cases hi:NP d with
 | true=>
  rw [hi] at hv
  obtain⟨k,n,h1,hv⟩:=eU hv
  obtain⟨h2,hv⟩:=L6 hv
  obtain⟨h3,hv⟩:=L6 hv
  have h2:n*by'≤281474976710656:=avC h2
  have h3:n<9223372036854775808:=Eq.mp avM h3
  have h1:trO y' ls env=.int k n:=h1
  refine fin n (U5 z n) (.inr ⟨hi,⟨k,by rw [h1];rfl⟩,h3,h2⟩) (by obtain⟨_,_,_,hz3⟩:=dK (P:=P) (w:=w) hz' ι;exact om (hz3 _) n) (fun h0=>by rw [h0];rfl) (fun w' _=>?_) hv
  obtain⟨zv,hz1,hz2,hz3⟩:=dK (P:=P) (w:=w') hz' ι
  simp only [hi,axM,awg,if_false]
  split
  ·rename_i h0
   have:U5 z n=[]:=avW.1 (by rw [cK,← hesz];exact h0)
   simp [this,H8]
  ·simp [hz1,hz2,uJ]
 | false=>
  rw [hi] at hv
  obtain⟨n,h1,hv⟩:=J6 hv
  obtain⟨new,h2,hv⟩:=J6 hv
  refine fin n new (.inl ⟨hi,wH h1 w⟩) (iX hm h2).2 (fun h0=>?_) (fun w' hw=>?_) hv
  ·subst h0
   have h0:∀i off,R4 m i off 0=some []:=fun i off=>rfl
   generalize trO y' ls env=v at h2
   cases v<;>simp only [ah,reduceCtorEq] at h2<;>simp_all [bytesOf]
  ·simp only [hi,Bool.not_false,if_true]
   exact (iX (w:=w') (by rw [hw];exact hm) h2).1
end
section
variable {P:Program}{G:Mem}{ι:Inj}{m:Mem}{w:World}{slots:List Nat}{done:List (Option Nat)}{ls:List j5}{env:T j5}{a:Act}
def aek (P:Program)(f:FuncId):Prop:=∃fn,P.funcs[f]?=some fn∧fn.body.isSome=true∧fn.name≠ "runtime.NumGoroutine"
def bI (P:Program)(G:Mem)(ι:Inj)(m:Mem)(w:World)(outs:List VM)(e:Ending)(w':World):Prop:=
 (∃v,e=.returned v∧gu P G ι m w outs v w')∨
  ∃r∈outs,∃x ι',r.v=.pan x∧Step P G ι m w ι' r.m w'∧x.lt (r.m.nm ι')∧e=.panicked [{v:=H6 ι' x,recovered:=false}]
def mJ (P:Program)(ρ:Operand→Value)(o:Oper)(w:World)(R:Ending→World→Prop):Prop:=
 match (execOp ρ o).run P w with
 | .ok (.value v) w'=>R (.returned v) w'
 | .ok .skip w'=>R (.returned undef) w'
 | .ok (.enter f args) w'=>CallsIn Fence.wide 0 P f args w' R
 | .ok (.round l f tmps assign body) w'=>RoundIn Fence.wide 0 P l f tmps assign body w' R
 | .halt (.panic v) w'=>R (.panicked [{v,recovered:=false}]) w'
 | _=>False
theorem bO {ρ:Operand→Value}{o:Oper}{outs:List VM}(h:Does P ρ o w (gu P G ι m w outs)):mJ P ρ o w (bI P G ι m w outs):=by
 unfold Does at h
 unfold mJ
 generalize (execOp ρ o).run P w=res at h
 cases res with
 | halt=>exact h.elim
 | ok x w'=>
  cases x with
  | value v=>exact .inl ⟨_,rfl,h⟩
  | skip=>exact .inl ⟨_,rfl,h⟩
  | enter f args=>exact CallsIn.mono h fun e w'' hh=>.inl hh
  | round l f tmps assign body=>exact RoundIn.mono h fun e w'' hh=>.inl hh
  | _=>exact h.elim
theorem Il {ρ:Operand→Value}{o:Oper}{R:Value→World→Prop}(h:Does P ρ o w R):mJ P ρ o w (fun e w'=>∃v,e=.returned v∧R v w'):=by
 unfold Does at h
 unfold mJ
 generalize (execOp ρ o).run P w=res at h
 cases res with
 | halt=>exact h.elim
 | ok x w'=>
  cases x with
  | value v=>exact⟨_,rfl,h⟩
  | skip=>exact⟨_,rfl,h⟩
  | enter f args=>exact h
  | round l f tmps assign body=>exact h
  | _=>exact h.elim
structure xU (P:Program)(G:Mem)(cf:K8):Prop where
 func:∀{f:FuncId} {args:List j5} {m:Mem} {outs:List VM},cf (.func f) args m=some outs→aek P f∧∀{ι:Inj} {w:World},RM P G ι m w.heap→ltL (m.nm ι) args→
  CallsIn Fence.wide 0 P f (H8 ι args).toArray w (bI P G ι m w outs)
 yield:∀{l:Nat} {args:List j5} {m:Mem} {outs:List VM},cf (.yield l) args m=some outs→∀{ι:Inj} {w:World},RM P G ι m w.heap→ltL (m.nm ι) args→
  ∃L:Loop,w.heap[(ι l).b]?=some (.loop L)∧args.length=L.params.size∧
   RoundIn Fence.wide 0 P (ι l).b L.fn ((L.params.zip (H8 ι args).toArray).foldl (fun t (p,v)=>t.setIfInBounds p v) L.tmps) L.assign L.body w (bI P G ι m w outs)
 other:∀{fn:Fn} {args:List j5} {m:Mem} {outs:List VM},cf fn args m=some outs→(∃f,fn=.func f)∨∃l,fn=.yield l
theorem jU {f:FuncId}(h:aek P f)(args:Array Value)(w:World):(callFunc f args).run P w=.ok (.enter f args) w:=by
 obtain⟨fn,h1,h2,h3⟩:=h
 cases hb:fn.body with
 | none=>rw [hb] at h2;cases h2
 | some c=>simp [callFunc,h1,h3,hb]
theorem iL (ι:Inj)(l r:List j5):H8 ι (l++r)=H8 ι l++H8 ι r:=by simp [bH]
theorem gX {n:Nm}{l r:List j5}(h:ltL n l)(h':ltL n r):ltL n (l++r):=cZ.2 fun v hv=>(avN.1 hv).elim (P9 h) (P9 h')
theorem ES (s:St P ι (m.nm ι) slots done ls env a.tmps){as:Array Operand}{os:List Opd}(h:kS P slots done as.toList=some os):
  as.map a.eval=(H8 ι (evs (mE os) ls env)).toArray∧ltL (m.nm ι) (evs (mE os) ls env):=by
 obtain⟨h1,h2⟩:=je s h
 refine⟨?_,h2⟩
 rw [← h1,← axX,awf]
theorem Im {cf:K8}(hcf:xU P G cf)(s:St P ι (m.nm ι) slots done ls env a.tmps)(hm:RM P G ι m w.heap){c:Call}{f:FuncId}{as:List Opd}(hc:c.callee=.value (.func f))
  (has:kS P slots done c.args.toList=some as) {outs:List VM} (hv:trE (.call f as) cf ls env m=some outs):
  ∀o:Oper,o.op=.call c→mJ P a.eval o w (bI P G ι m w outs):=by
 intro o ho
 obtain⟨e1,e2⟩:=ES s has
 have hv:cf (.func f) (evs (mE as) ls env) m=some outs:=hv
 obtain⟨hf,hcall⟩:=hcf.func hv
 have hrun:(execOp a.eval o).run P w=.ok (.enter f (H8 ι (evs (mE as) ls env)).toArray) w:=by
  simp [execOp,ho,resolve,hc,Act.eval,Deferred.ofValue,invoke,e1,jU hf]
 unfold mJ
 rw [hrun]
 exact hcall hm e2
theorem ET {cf:K8}(hcf:xU P G cf)(s:St P ι (m.nm ι) slots done ls env a.tmps)(hm:RM P G ι m w.heap){c:Call}{f:Operand}{f':Opd}{as:List Opd}(hc:c.callee=.value f)
  (hf':bK P slots done f=some f') (has:kS P slots done c.args.toList=some as) {outs:List VM} (hv:trE (.callv f' as) cf ls env m=some outs):
  ∀o:Oper,o.op=.call c→mJ P a.eval o w (bI P G ι m w outs):=by
 intro o ho
 obtain⟨e1,e2⟩:=ES s has
 obtain⟨e3,e4⟩:=I5 s hf'
 obtain⟨fn,x,y,h1,h⟩:=Eu hv
 have h1:trO f' ls env=.func fn x y:=h1
 rw [h1] at e3 e4
 obtain⟨_,hx,hy⟩:=e4
 cases fn with
 | func g=>
  have h:cf (.func g) (jl x (jl (evs (mE as) ls env) y)) m=some outs:=h
  rw [ak,ak] at h
  obtain⟨hf,hcall⟩:=hcf.func h
  have hrun:(execOp a.eval o).run P w=.ok (.enter g (H8 ι (x++(evs (mE as) ls env++y))).toArray) w:=by
   simp [execOp,ho,resolve,hc,e3,H6,jw,Deferred.ofValue,invoke,e1,jU hf,iL]
  unfold mJ
  rw [hrun]
  exact hcall hm (gX hx (gX e2 hy))
 | yield l=>
  have h:cf (.yield l) (jl x (evs (mE as) ls env)) m=some outs:=h
  rw [ak] at h
  obtain⟨L,g1,g2,g3⟩:=hcf.yield h hm (gX hx e2)
  have hrun:(execOp a.eval o).run P w=.ok (.round (ι l).b L.fn ((L.params.zip (H8 ι (x++evs (mE as) ls env)).toArray).foldl (fun t (p,v)=>t.setIfInBounds p v) L.tmps) L.assign L.body) w:=by
   have hy:=run_yield (P:=P) (args:=(H8 ι (x++evs (mE as) ls env)).toArray) g1 (by simpa using g2)
   rw [iL,← List.append_toArray] at hy ⊢
   simp only [execOp,ho,resolve,hc,e3,H6,jw,Deferred.ofValue,invoke,e1,avy,avP,avs,hy]
  unfold mJ
  rw [hrun]
  exact g3
 | method=>cases h
 | methodOf=>cases h
 | via=>cases h
theorem EU (s:St P ι (m.nm ι) slots done ls env a.tmps)(hm:RM P G ι m w.heap){x:Operand}{x':Opd}(hx:bK P slots done x=some x'){cf:K8}{outs:List VM}(hv:trE (.panic x') cf ls env m=some outs):
  ∀o:Oper,o.op=.panic x→mJ P a.eval o w (bI P G ι m w outs):=by
 intro o ho
 obtain⟨e1,e2⟩:=I5 s hx
 have hv:aed (trO x' ls env) m=some outs:=hv
 generalize trO x' ls env=v at *
 cases v with
 | iface t y=>
  have hv:some [(⟨.pan (.iface t y),m⟩:VM)]=some outs:=hv
  cases hv
  have hrun:(execOp a.eval o).run P w=.halt (.panic (H6 ι (.iface t y))) w:=by
   simp [execOp,ho,e1,H6,Instr.panic,goPanic]
  unfold mJ
  rw [hrun]
  exact .inr ⟨_,W9.2 rfl,_,ι,rfl,Step.refl hm,e2,rfl⟩
 | _=>cases hv
theorem wI {cf:K8}(hcf:xU P G cf)(s:St P ι (m.nm ι) slots done ls env a.tmps)(hm:RM P G ι m w.heap){op:Op}{eo:EOp}(h:cOp P slots done op=some (.e eo)){outs:List VM}(hv:trE eo cf ls env m=some outs):
  ∀o:Oper,o.op=op→mJ P a.eval o w (bI P G ι m w outs):=by
 cases wD h with
 | store h1 h2 h3=>exact fun o ho=>bO (EJ s hm h1 h2 h3 hv o ho)
 | mapUpdate h1 h2 h3 h4 h5=>exact fun o ho=>bO (uI s hm h1 h2 h3 h4 h5 hv o (.inl ho))
 | insert h1 h2 h3 h4 h5=>exact fun o ho=>bO (uI s hm h1 h2 h3 h4 h5 hv o (.inr ho))
 | range h1 h2=>exact fun o ho=>bO (EK s hm h1 h2 hv o ho)
 | next h1=>exact fun o ho=>bO (Ij s hm h1 hv o ho)
 | app h1 h2 h3 h4 h5 h6 h7 h8 h9 h10=>exact fun o ho=>bO (Kj s hm h2 h3 h4 h5 h1 h6 h7 h8 h9 h10 (by rw [← Sc];exact hv) o ho)
 | copy h1 h2 h3 h4 h5 h6 h7=>exact fun o ho=>bO (Ik s hm h1 h2 h3 h4 h5 h6 h7 hv o ho)
 | clear h1 h2 h3 h4 h5 h6=>exact fun o ho=>bO (EN s hm h1 h2 h3 h4 h5 h6 hv o ho)
 | call h1 h2 h3 h4 h5=>exact Im hcf s hm h1 h5 hv
 | callv h1 h2 h3=>exact ET hcf s hm h1 h2 h3 hv
 | panic h1=>exact EU s hm h1 hv
 | defer=>cases hv
 | recover=>cases hv
end
section
variable {f:Opd→Opd}{ls ls':List j5}{env env':T j5}
def Sm (f:Opd→Opd)(ls:List j5)(env:T j5)(ls':List j5)(env':T j5)(x:Opd):Prop:=trO (f x) ls' env'=trO x ls env
theorem nD {l:List Opd}(h:∀x∈l,Sm f ls env ls' env' x):evs (mE (l.map f)) ls' env'=evs (mE l) ls env:=by
 rw [evs_eq',evs_eq']
 rw [List.map_map]
 exact List.map_congr_left h
where
 evs_eq' {l:List Opd} {ls:List j5} {env:T j5}:evs (mE l) ls env=l.map fun x=>trO x ls env:=by
  induction l with
  | nil=>rfl
  | cons x l ih=>show trO x ls env::evs (mE l) ls env=_;rw [ih];rfl
theorem CR {ps:List (Nat×Nat×Opd)}(h:∀x∈ps.map (·.2.2),Sm f ls env ls' env' x)(cs:List j5):
  lay (Hu (ps.map fun p=>(p.1,p.2.1,f p.2.2))) ls' env' cs=lay (Hu ps) ls env cs:=by
 induction ps generalizing cs with
 | nil=>rfl
 | cons p ps ih=>
  have h0:trO (f p.2.2) ls' env'=trO p.2.2 ls env:=h _ (by simp)
  show bi (Nat.beq (len' (trO (f p.2.2) ls' env').cells) p.2.1) (bi (Nat.ble (Nat.add p.1 p.2.1) (len' cs)) (lay (Hu (ps.map fun p=>(p.1,p.2.1,f p.2.2))) ls' env' (mM p.1 (trO (f p.2.2) ls' env').cells cs)) none) none =
   bi (Nat.beq (len' (trO p.2.2 ls env).cells) p.2.1) (bi (Nat.ble (Nat.add p.1 p.2.1) (len' cs)) (lay (Hu ps) ls env (mM p.1 (trO p.2.2 ls env).cells cs)) none) none
  rw [h0,ih (fun x hx=>h x (awc _ hx))]
theorem fE {β:Type}{o:Option Opd}(h:∀x∈o.toList,Sm f ls env ls' env' x)(d:Nat)(k:Nat→Option β):fP (su (o.map f)) d ls' env' k=fP (su o) d ls env k:=by
 cases o with
 | none=>rfl
 | some x=>
  have h0:trO (f x) ls' env'=trO x ls env:=h x (by simp)
  show oQ (trO (f x) ls' env') k=oQ (trO x ls env) k
  rw [h0]
theorem CS {o:POp}(h:∀x∈mK o,Sm f ls env ls' env' x):trP (sw f o) ls' env'=trP o ls env:=by
 have e:∀x∈mK o,trO (f x) ls' env'=trO x ls env:=h
 cases o with
 | build z ps=>show ob (lay (Hu (ps.map fun p=>(p.1,p.2.1,f p.2.2))) ls' env' z) _=ob (lay (Hu ps) ls env z) _;rw [CR h]
 | mkFunc fn a b=>
  show some (j5.func fn (evs (mE (a.map f)) ls' env') (evs (mE (b.map f)) ls' env'))=some (j5.func fn (evs (mE a) ls env) (evs (mE b) ls env))
  rw [nD fun x hx=>h x (awE _ hx),nD fun x hx=>h x (awP _ hx)]
 | slStr x lo hi=>
  have h0:=e x (by simp [mK])
  have h1:∀y∈lo.toList,Sm f ls env ls' env' y:=fun y hy=>h y (awc _ (awE _ hy))
  have h2:∀y∈hi.toList,Sm f ls env ls' env' y:=fun y hy=>h y (awc _ (awP _ hy))
  simp only [sw,trP,mF,h0,fE h1,fE h2]
 | slArr es n x lo hi=>
  have h0:=e x (by simp [mK])
  have h1:∀y∈lo.toList,Sm f ls env ls' env' y:=fun y hy=>h y (awc _ (awE _ hy))
  have h2:∀y∈hi.toList,Sm f ls env ls' env' y:=fun y hy=>h y (awc _ (awP _ hy))
  simp only [sw,trP,PO,h0,fE h1,fE h2]
 | mm mx x xs=>
  show JE mx (evs (mE (xs.map f)) ls' env') (trO (f x) ls' env')=JE mx (evs (mE xs) ls env) (trO x ls env)
  rw [nD fun x hx=>h x (awc _ hx),e x (by simp [mK])]
 | ib op x y=>
  have h0:=e x (by simp [mK])
  have h1:=e y (by simp [mK])
  cases op<;>simp only [sw,trP,pIb,afj,Yn,h0,h1]
 | eq neg k x y=>
  have h0:=e x (by simp [mK])
  have h1:=e y (by simp [mK])
  cases neg<;>simp only [sw,trP,pEq,pNe,h0,h1]
 | fld off size x=>
  have h0:=e x (by simp [mK])
  cases size<;>simp only [sw,trP,JD,RB,h0]
 | iArr es n size x i=>
  have h0:=e x (by simp [mK])
  have h1:=e i (by simp [mK])
  cases size<;>simp only [sw,trP,PS,PU,h0,h1]
 | pick a b c=>simp only [sw,trP,fM,e a (by simp [mK]),e b (by simp [mK]),e c (by simp [mK])]
 | iAddr es x i=>simp only [sw,trP,J9,e x (by simp [mK]),e i (by simp [mK])]
 | iAddrArr es n x i=>simp only [sw,trP,mP,e x (by simp [mK]),e i (by simp [mK])]
 | iStr x i=>simp only [sw,trP,vJ,e x (by simp [mK]),e i (by simp [mK])]
 | mov x=>simp only [sw,trP,fB,e x (by simp [mK])]
 | nilCheck x=>simp only [sw,trP,fO,e x (by simp [mK])]
 | not x=>simp only [sw,trP,JC,e x (by simp [mK])]
 | neg x=>simp only [sw,trP,Yo,e x (by simp [mK])]
 | conv k x=>simp only [sw,trP,uU,e x (by simp [mK])]
 | mkIface t x=>simp only [sw,trP,zk,e x (by simp [mK])]
 | fAddr o x=>simp only [sw,trP,I7,e x (by simp [mK])]
 | ext x i=>simp only [sw,trP,pExt,e x (by simp [mK])]
 | len x=>simp only [sw,trP,Af,e x (by simp [mK])]
 | lenS x=>simp only [sw,trP,Ag,e x (by simp [mK])]
 | cap x=>simp only [sw,trP,YW,e x (by simp [mK])]
 | assert t z ok x=>simp only [sw,trP,pQ,e x (by simp [mK])]
theorem CU {o:ROp}(h:∀x∈Ju o,Sm f ls env ls' env' x)(m:Mem):trR (Nl f o) ls' env' m=trR o ls env m:=by
 have e:∀x∈Ju o,trO (f x) ls' env'=trO x ls env:=h
 cases o with
 | load size x=>cases size<;>simp only [Nl,trR,uf,aL,e x (by simp [Ju])]
 | look k z ok x y=>simp only [Nl,trR,iU,e x (by simp [Ju]),e y (by simp [Ju])]
 | lenM x=>simp only [Nl,trR,YX,e x (by simp [Ju])]
 | bytesStr x=>simp only [Nl,trR,aM,e x (by simp [Ju])]
 | entry x=>simp only [Nl,trR,PV,e x (by simp [Ju])]
theorem CV {o:LOp}(h:∀x∈opsL o,Sm f ls env ls' env' x)(nid:Nat):trL (PX f o) ls' env' nid=trL o ls env nid:=by
 have e:∀x∈opsL o,trO (f x) ls' env'=trO x ls env:=h
 cases o with
 | alloc z=>rfl
 | mkMap=>rfl
 | box x=>simp only [PX,trL,RD,e x (by simp [opsL])]
 | buildSlice es len z ps=>
  show ob (lay (Hu (ps.map fun p=>(p.1,p.2.1,f p.2.2))) ls' env' (U5 z len)) _=ob (lay (Hu ps) ls env (U5 z len)) _
  rw [CR h]
 | mkSlice es b z l c=>simp only [PX,trL,qA,e l (by simp [opsL]),e c (by simp [opsL])]
 | strBytes x=>simp only [PX,trL,BS,e x (by simp [opsL])]
 | sl es x lo hi=>
  have h0:=e x (by simp [opsL])
  have h1:∀y∈lo.toList,Sm f ls env ls' env' y:=fun y hy=>h y (awc _ (awE _ hy))
  cases hi with
  | none=>
   show fP (su (lo.map f)) 0 ls' env' (fun l=>R9 nid es (trO (f x) ls' env') l none)=fP (su lo) 0 ls env (fun l=>R9 nid es (trO x ls env) l none)
   rw [fE h1,h0]
  | some y=>
   have h2:=e y (by simp [opsL])
   show fP (su (lo.map f)) 0 ls' env' (fun l=>oQ (trO (f y) ls' env') fun h=>R9 nid es (trO (f x) ls' env') l (some h))=fP (su lo) 0 ls env (fun l=>oQ (trO y ls env) fun h=>R9 nid es (trO x ls env) l (some h))
   rw [fE h1,h0,h2]
theorem CW {o:EOp}(h:∀x∈opsE o,Sm f ls env ls' env' x)(cf:K8)(m:Mem):trE (Hz f o) cf ls' env' m=trE o cf ls env m:=by
 have e:∀x∈opsE o,trO (f x) ls' env'=trO x ls env:=h
 cases o with
 | store s a x=>simp only [Hz,trE,O5,e a (by simp [opsE]),e x (by simp [opsE])]
 | mapSet k a b c=>simp only [Hz,trE,jo,e a (by simp [opsE]),e b (by simp [opsE]),e c (by simp [opsE])]
 | range x=>simp only [Hz,trE,PW,e x (by simp [opsE])]
 | next x=>simp only [Hz,trE,Za,e x (by simp [opsE])]
 | app es zs z b s x=>cases zs<;>simp only [Hz,trE,lC,RG,e s (by simp [opsE]),e x (by simp [opsE])]
 | copy es d s=>simp only [Hz,trE,RH,e d (by simp [opsE]),e s (by simp [opsE])]
 | clear z x=>simp only [Hz,trE,JI,e x (by simp [opsE])]
 | call g as=>
  show cf (.func g) (evs (mE (as.map f)) ls' env') m=cf (.func g) (evs (mE as) ls env) m
  rw [nD (l:=as) h]
 | callv g as=>simp only [Hz,trE,kN,e g (by simp [opsE]),nD fun x hx=>h x (awc _ hx)]
 | bad=>rfl
 | defer f as=>rfl
 | recover=>rfl
 | panic x=>simp only [Hz,trE,vN,e x (by simp [opsE])]
end
section
variable {P:Program}{G:Mem}{ι:Inj}{n:Nm}{m:Mem}{w:World}{slots:List Nat}{done:List (Option Nat)}{ls:List j5}{env:T j5}{a:Act}
def FR (r:Option Nat):Fence:={Fence.wide with round:=r}
theorem jh:H6 ι .undef=undef:=by simp only [H6];rfl
theorem zD {α β:Type}(f:α→Option (List β))(a:α)(l:List α):Hw f (a::l)=ob (f a) fun x=>ob (Hw f l) fun y=>some (x++y):=rfl
theorem zG {α β:Type}{f:α→Option (List β)}:∀{l:List α} {outs:List β},Hw f l=some outs→∀r∈l,∃os,f r=some os∧∀o∈os,o∈outs
 | [],_,_,r,hr=>by cases hr
 | a::l,outs,h,r,hr=>by
  rw [zD] at h
  obtain⟨x,hx,h⟩:=J6 h
  obtain⟨y,hy,h⟩:=J6 h
  cases h
  rcases avL.1 hr with rfl | hr
  ·exact⟨x,hx,fun o ho=>awE _ ho⟩
  ·obtain⟨os,h1,h2⟩:=zG hy r hr
   exact⟨os,h1,fun o ho=>awP _ (h2 o ho)⟩
theorem bJ {α β:Type}{x:Option (List α)}{f:α→Option (List β)}{outs:List β}(h:bnd x f=some outs):∃l,x=some l∧∀r∈l,∃os,f r=some os∧∀o∈os,o∈outs:=by
 cases x with
 | none=>cases h
 | some l=>
  refine⟨l,rfl,?_⟩
  match l,h with
  | [],_=>intro r hr;cases hr
  | [a],h=>
   intro r hr
   obtain rfl:=W9.1 hr
   exact⟨outs,h,fun o ho=>ho⟩
  | a::b::t,h=>exact zG (l:=a::b::t) h
def evA (cf:K8)(o:AOp)(ls:List j5)(env:T j5)(m:Mem):vK:=match o with
 | .p o=>ob (trP o ls env) fun v=>one v m
 | .r o=>ob (trR o ls env m) fun v=>one v m
 | .a o=>ob (trL o ls env m.next) fun r=>one r.1 (Nk m r.2)
 | .e o=>trE o cf ls env m
def evG (cf:K8)(g:Option (Opd×Bool))(o:AOp)(ls:List j5)(env:T j5)(m:Mem):vK:=match g with
 | none=>evA cf o ls env m
 | some (x,w)=>bi (isB w (trO x ls env)) (evA cf o ls env m) (one .undef m)
theorem zH {α β γ:Type}(o:Option α)(g:α→β)(f:β→Option (List γ)):bnd (ob o fun a=>some [g a]) f=ob o fun a=>f (g a):=by
 cases o<;>rfl
theorem Kk {β γ:Type}(b:Bool)(x y:Option (List β))(f:β→Option (List γ)):bnd (bi b x y) f=bi b (bnd x f) (bnd y f):=by
 cases b<;>rfl
theorem Sd {α β:Type}(b:Bool)(x y:Option α)(f:α→Option β):ob (bi b x y) f=bi b (ob x f) (ob y f):=by
 cases b<;>rfl
def xV:AOp→Bool
 | .e _=>true
 | _=>false
def Qh (e:Bool)(d:Option Nat)(k:RC)(cf:K8)(ls:List j5)(env:T j5)(r:VM):Option (List EM):=
 bi e (kK r.v (fun x=>some [⟨env,r.m,some x,[]⟩]) (k cf (r.v::ls) (trD d r.v env) r.m)) (k cf (r.v::ls) (trD d r.v env) r.m)
theorem Qi (o:AOp)(d:Option Nat)(g:Option (Opd×Bool))(k:RC)(cf:K8)(ls:List j5)(env:T j5)(m:Mem):
  trI o d g k cf ls env m=bnd (evG cf g o ls env m) (Qh (xV o) d k cf ls env):=by
 cases o with
 | p o=>
  have h:trI (.p o) d g k cf ls env m=ob (Jp g (trP o) ls env) (fun v=>k cf (v::ls) (trD d v env) m):=by cases d<;>rfl
  rw [h]
  cases g with
  | none=>exact (zH (trP o ls env) (fun v=>(⟨v,m⟩:VM)) (fun r=>k cf (r.v::ls) (trD d r.v env) r.m)).symm
  | some p=>
   obtain⟨x,wt⟩:=p
   show ob (bi (isB wt (trO x ls env)) (trP o ls env) (some .undef)) _=bnd (bi (isB wt (trO x ls env)) (ob (trP o ls env) fun v=>some [⟨v,m⟩]) (one .undef m)) _
   rw [Kk,Sd,zH];rfl
 | r o=>
  have h:trI (.r o) d g k cf ls env m=ob (Ga g (trR o) ls env m) (fun v=>k cf (v::ls) (trD d v env) m):=by cases d<;>rfl
  rw [h]
  cases g with
  | none=>exact (zH (trR o ls env m) (fun v=>(⟨v,m⟩:VM)) (fun r=>k cf (r.v::ls) (trD d r.v env) r.m)).symm
  | some p=>
   obtain⟨x,wt⟩:=p
   show ob (bi (isB wt (trO x ls env)) (trR o ls env m) (some .undef)) _=bnd (bi (isB wt (trO x ls env)) (ob (trR o ls env m) fun v=>some [⟨v,m⟩]) (one .undef m)) _
   rw [Kk,Sd,zH];rfl
 | a o=>
  have h:trI (.a o) d g k cf ls env m=ob (RJ g (trL o) ls env m.next) (fun r=>k cf (r.1::ls) (trD d r.1 env) (Nk m r.2)):=by cases d<;>rfl
  rw [h]
  cases g with
  | none=>exact (zH (trL o ls env m.next) (fun r=>(⟨r.1,Nk m r.2⟩:VM)) (fun r=>k cf (r.v::ls) (trD d r.v env) r.m)).symm
  | some p=>
   obtain⟨x,wt⟩:=p
   show ob (bi (isB wt (trO x ls env)) (trL o ls env m.next) (some (.undef,none))) _=bnd (bi (isB wt (trO x ls env)) (ob (trL o ls env m.next) fun r=>some [⟨r.1,Nk m r.2⟩]) (one .undef m)) _
   rw [Kk,Sd,zH];rfl
 | e o=>
  have h:trI (.e o) d g k cf ls env m=bnd (NC g (trE o) cf ls env m) (Qh true d k cf ls env):=by cases d<;>rfl
  rw [h]
  cases g with
  | none=>rfl
  | some p=>rfl
theorem NR {o:AOp}{d:Option Nat}{g:Option (Opd×Bool)}{k:RC}{cf:K8}{outs:List EM}(h:trI o d g k cf ls env m=some outs):
  ∃l,evG cf g o ls env m=some l∧∀r∈l,∃os,Qh (xV o) d k cf ls env r=some os∧∀o∈os,o∈outs:=by
 rw [Qi] at h;exact bJ h
theorem Kl {β:Type}{v:j5}{p:j5→β}{q:β}(h:v.lt n):kK v p q=q:=by
 cases v<;>first | rfl | exact h.elim
theorem Sg {e:Bool}{d:Option Nat}{k:RC}{cf:K8}{r:VM}(h:r.v.lt n):Qh e d k cf ls env r=k cf (r.v::ls) (trD d r.v env) r.m:=by
 cases e with
 | false=>rfl
 | true=>exact Kl h
theorem sO {op:Op}{o:Oper}(ho:o.op=op){v:j5}(hm:RM P G ι m w.heap)(hg:(execOp a.eval o).run P w=.ok (.value (H6 ι v)) w)(hlt:v.lt (m.nm ι)):
  Does P a.eval o w (gu P G ι m w [⟨v,m⟩]):=Y9 hg ⟨_,W9.2 rfl,ι,Step.refl hm,hlt,rfl⟩
theorem NS {cf:K8}(hcf:xU P G cf)(s:St P ι (m.nm ι) slots done ls env a.tmps)(hm:RM P G ι m w.heap){op:Op}{ao:AOp}(h:cOp P slots done op=some ao){outs:List VM}(hv:evA cf ao ls env m=some outs):
  ∀o:Oper,o.op=op→mJ P a.eval o w (bI P G ι m w outs):=by
 intro o ho
 cases ao with
 | p po=>
  obtain⟨v,h1,h2⟩:=J6 hv
  cases h2
  obtain⟨g1,g2⟩:=nY s h h1
  exact bO (sO ho hm (g2 o ho w) g1)
 | r ro=>
  obtain⟨v,h1,h2⟩:=J6 hv
  cases h2
  obtain⟨g1,g2⟩:=nZ s hm (qP h) h1
  exact bO (sO ho hm (g2 o ho) g1)
 | a lo=>
  obtain⟨r,h1,h2⟩:=J6 hv
  cases h2
  have hn:¬ (m.nm ι) m.next:=fun ⟨_,h3,_⟩=>awX _ (Mem.M8 hm.ok h3)
  have hs:=oo s (fun _ _=>rfl) hn (vw h) h1 w
  cases hs with
  | none hlt hg=>exact bO (sO ho hm (hg o ho w) hlt)
  | made l obj w' hmk=>
   rename_i v b
   have hlaid:=Laid.new hm.ok hm.limn b hmk.live
   have hext:∀j,m.has j→(ι.upd m.next l) j=ι j:=fun j hj=>ι.upd_ne _ fun h=>hlaid.free (h▸hj)
   obtain⟨hb,hlt⟩:=hmk.blk ((m.new b).nm (ι.upd m.next l)) (Mem.bU hlaid.has hext) hlaid.self (by show ((ι.upd m.next l) m.next).cap=l.cap;rw [Inj.V8])
   exact bO (Y9 (hmk.run o ho) ⟨_,W9.2 rfl,_,Step.lay hm hlaid hmk.grew hmk.loc hmk.spot hb hmk.free,hlt,rfl⟩)
  | tail l hp hb hg hlt=>
   rename_i v p
   have hlaid:=Laid.new hm.ok hm.limn (.tail p) rfl
   have hext:∀j,m.has j→(ι.upd m.next l) j=ι j:=fun j hj=>ι.upd_ne _ fun h=>hlaid.free (h▸hj)
   refine bO (Y9 (hg o ho w) ⟨_,W9.2 rfl,_,Step.name hm hlaid rfl ⟨hlaid.has p hp,?_⟩,hlt _ (Mem.bU hlaid.has hext) hlaid.self (by show ((ι.upd m.next l) m.next).cap=l.cap;rw [Inj.V8]),rfl⟩)
   rw [hext p hp];exact hb
 | e eo=>exact wI hcf s hm h hv o ho
theorem St.mono {ι':Inj}{n':Nm}{tmps:Array Value}(s:St P ι n slots done ls env tmps)(hi:∀i,n i→ι' i=ι i)(hn:n.le n'):St P ι' n' slots done ls env tmps where
 ls t k hk:=by
  obtain⟨v,h1,h2,h3⟩:=s.ls t k hk
  exact⟨v,h1,j5.Z8 hn v h2,by rw [h3,V9 hi v h2]⟩
 env:=s.env.mono hi hn
 glob i hg:=by rw [hi i (s.gn i hg)];exact s.glob i hg
 gn g hg:=(hn g (s.gn g hg)).1
theorem jV (t:Nat):∀(l:List (Option Nat)) (i j:Nat),jr t l (i+j)=(jr t l i).map (· + j)
 | [],i,j=>rfl
 | some x::l,i,j=>by
  simp only [jr]
  cases Nat.beq x t with
  | true=>simp
  | false=>simp only [cond_false];rw [show i+j+1=(i+1)+j from by omega];exact jV t l (i+1) j
 | none::l,i,j=>by
  simp only [jr];rw [show i+j+1=(i+1)+j from by omega];exact jV t l (i+1) j
def aqX (d:Option Tmp)(v:Value)(tmps:Array Value):Array Value:=match d with
 | some t=>tmps.setIfInBounds t v
 | none=>tmps
theorem St.put {tmps:Array Value}(s:St P ι n slots done ls env tmps)(d:Option Tmp)(hd:∀t,d=some t→t<tmps.size){v:j5}(hv:v.lt n):
  St P ι n slots (d::done) (v::ls) (trD (Qc slots d) v env) (aqX d (H6 ι v) tmps) where
 ls t k hk:=by
  cases d with
  | none=>
   simp only [jr] at hk
   rw [jV t done 0 1] at hk
   obtain⟨k',hk',rfl⟩:=awI.1 hk
   obtain⟨u,h1,h2,h3⟩:=s.ls t k' hk'
   exact⟨u,by simpa using h1,h2,h3⟩
  | some t0=>
   simp only [jr] at hk
   cases hb:Nat.beq t0 t with
   | true=>
    rw [hb] at hk;cases hk
    obtain rfl:=avt hb
    exact⟨v,rfl,hv,by show (tmps.setIfInBounds t0 (H6 ι v)).getD t0 undef=_;rw [aG _ _ _ _ (hd t0 rfl),if_pos rfl]⟩
   | false=>
    rw [hb,cond_false,jV t done 0 1] at hk
    obtain⟨k',hk',rfl⟩:=awI.1 hk
    obtain⟨u,h1,h2,h3⟩:=s.ls t k' hk'
    refine⟨u,by simpa using h1,h2,?_⟩
    show (tmps.setIfInBounds t0 (H6 ι v)).getD t undef=_
    rw [aG _ _ _ _ (hd t0 rfl),if_neg (fun e=>by rw [e] at hb;simp [awU] at hb)];exact h3
 env:=s.env.put d hv
 glob:=s.glob
 gn:=s.gn
theorem lK (a:Act)(d:Option Tmp)(v:Value):(a.put d v).tmps=aqX d v a.tmps∧(a.put d v).defers=a.defers:=by
 cases d<;>exact⟨rfl,rfl⟩
theorem fF (a:Act)(d:Option Tmp)(v:Value):(a.put d v).tmps.size=a.tmps.size:=by
 cases d<;>simp [Act.put]
def lM (ops:Array Oper)(done:List (Option Nat)):Option (Nat×Bool)→Option (Opd×Bool)→Prop
 | none,g=>g=none
 | some (j,wt),g=>∃og d k,ops[j]?=some og∧og.dst=some d∧jr d done 0=some k∧g=some (.loc k,wt)
def BM (g:Option (Opd×Bool))(ls:List j5)(env:T j5):Bool:=match g with
 | none=>true
 | some (x,wt)=>isB wt (trO x ls env)
def bOf:Option Value→Option Bool
 | some (.bool b)=>some b
 | _=>none
theorem Io (ops:Array Oper)(tmps:Array Value)(j:Nat):yielded ops tmps j=bOf (((ops[j]?).bind (·.dst)).bind (tmps[·]?)):=by
 unfold yielded
 generalize ((ops[j]?).bind (·.dst)).bind (tmps[·]?)=z
 cases z with
 | none=>rfl
 | some v=>cases v<;>rfl
theorem NT (wt:Bool)(v:j5):(bOf (some (H6 ι v))==some wt)=isB wt v:=by
 cases v with
 | bool b=>simp only [H6,bOf,isB,vW];cases b<;>cases wt<;>rfl
 | _=>simp [H6,isB,bOf]
theorem kV {ops:Array Oper}{o:Oper}{g:Option (Opd×Bool)}{tmps:Array Value}(s:St P ι n slots done ls env tmps)(hg:lM ops done o.guard g):
  Region.wanted o (yielded ops tmps)=BM g ls env:=by
 unfold Region.wanted
 cases hgd:o.guard with
 | none=>rw [hgd] at hg;obtain rfl:g=none:=hg;rfl
 | some p=>
  obtain⟨j,wt⟩:=p
  rw [hgd] at hg
  obtain⟨og,d,k,h1,h2,h3,rfl⟩:=hg
  obtain⟨v,h4,h5,h6⟩:=s.ls d k h3
  have hx:trO (.loc k) ls env=v:=by rw [Et,h4];rfl
  show (yielded ops tmps j==some wt)=isB wt (trO (.loc k) ls env)
  rw [hx,Io,h1,avK,h2,avK,← NT (ι:=ι)]
  rw [avE] at h6
  cases ht:tmps[d]? with
  | none=>
   rw [ht] at h6
   have h6:undef=H6 ι v:=h6
   rw [← h6];rfl
  | some x=>
   rw [ht] at h6
   have h6:x=H6 ι v:=h6
   rw [h6]
theorem jW {r:Option Nat}{o:Oper}{a:Act}{w:World}{next:Act→World→Prop}{Q:Exit→Act→World→Prop}(hnd:∀c,o.op≠.defer c){R:Ending→World→Prop}(h:mJ P a.eval o w R)
  (hn:∀v w',R (.returned v) w'→next (a.put o.dst v) w') (hp:∀c w',R (.panicked c) w'→Q (.panic c) a w') (ho:∀w',¬ R .outgrown w'):o.wpIn (FR r) 0 P a w next Q:=by
 refine⟨fun _ _=>trivial,?_⟩
 rw [Oper.semAt_eq _ _ _ hnd]
 unfold mJ at h
 generalize (execOp a.eval o).run P w=res at h
 cases res with
 | halt x w'=>
  cases x with
  | panic v=>exact hp _ _ h
  | _=>exact h.elim
 | ok x w'=>
  cases x with
  | value v=>exact hn _ _ h
  | skip=>exact hn _ _ h
  | enter f args=>
   refine⟨(fun hc=>by cases hc),CallsIn.mono (F:=FR r) h ?_⟩
   intro e w'' hR
   cases e with
   | returned v=>exact hn _ _ hR
   | panicked c=>exact hp _ _ hR
   | outgrown=>exact absurd hR (ho _)
  | round l f tmps assign body=>
   refine⟨(fun hc=>by cases hc),RoundIn.mono (F:=FR r) h ?_⟩
   intro e w'' hR
   cases e with
   | returned v=>exact hn _ _ hR
   | panicked c=>exact hp _ _ hR
   | outgrown=>exact absurd hR (ho _)
  | _=>exact h.elim
theorem gy {r:Option Nat}{o:Oper}{a:Act}{w:World}{next:Act→World→Prop}{Q:Exit→Act→World→Prop}(hnd:∀c,o.op≠.defer c){R:Value→World→Prop}(h:Does P a.eval o w R)
  (hn:∀v w',R v w'→next (a.put o.dst v) w'):o.wpIn (FR r) 0 P a w next Q:=by
 refine jW hnd (Il h) (fun v w' h=>?_) (fun c w' h=>?_) (fun w' h=>?_)
 ·obtain⟨u,e,h⟩:=h;cases e;exact hn _ _ h
 ·obtain⟨u,e,_⟩:=h;cases e
 ·obtain⟨u,e,_⟩:=h;cases e
theorem nE {op:Op}{ao:AOp}(h:cOp P slots done op=some ao)(hne:∀f as,ao≠.e (.defer f as)):∀c,op≠.defer c:=by
 rintro c rfl
 simp only [cOp] at h
 split at h
 ·obtain⟨_,_,h⟩:=bind_eq h
  obtain⟨_,_,h⟩:=bind_eq h
  cases h;exact hne _ _ rfl
 ·cases h
theorem lN {outs:List VM}{w':World}:¬ bI P G ι m w outs .outgrown w':=by
 rintro (⟨v,h,_⟩ | ⟨r,_,x,ι',_,_,_,h⟩)<;>cases h
theorem AQ {op:Op}{ao:AOp}{cf:K8}{outs:List VM}(h:cOp P slots done op=some ao)(hv:evA cf ao ls env m=some outs):∀c,op≠.defer c:=by
 rintro c rfl
 simp only [cOp] at h
 split at h
 ·obtain⟨_,_,h⟩:=bind_eq h
  obtain⟨_,_,h⟩:=bind_eq h
  cases h;cases hv
 ·cases h
theorem qX {ops:Array Oper}{i:Nat}{x:Inst}{d:Option Nat}(h:JL P slots done ops i=some (x,d)):
  ∃o,ops[i]?=some o∧d=o.dst∧x.op=vR P slots done o.op∧x.dst=Qc slots o.dst∧lM ops done o.guard x.guard:=by
 obtain⟨o,h1,h⟩:=bind_eq h
 dsimp only at h
 cases hg:o.guard with
 | none=>
  rw [hg] at h
  dsimp only at h
  cases h
  exact⟨o,h1,rfl,rfl,rfl,by rw [hg];rfl⟩
 | some p=>
  obtain⟨j,wt⟩:=p
  rw [hg] at h
  dsimp only at h
  obtain⟨og,h3,h⟩:=bind_eq h
  obtain⟨dd,h4,h⟩:=bind_eq h
  obtain⟨k,h5,h⟩:=bind_eq h
  cases h
  exact⟨o,h1,rfl,rfl,rfl,by rw [hg];exact⟨og,dd,k,h3,h4,h5,rfl⟩⟩
theorem Si {r:Option Nat}{cf:K8}(hcf:xU P G cf)(s:St P ι (m.nm ι) slots done ls env a.tmps)(hm:RM P G ι m w.heap){ops:Array Oper}{o:Oper}{g:Option (Opd×Bool)}(hg:lM ops done o.guard g)
  {outs:List VM} (hv:evG cf g (vR P slots done o.op) ls env m=some outs) {K:Act→World→Prop} {Q:Exit→Act→World→Prop}
  (hK:∀v∈outs,∀ι' w',Step P G ι m w ι' v.m w'→v.v.lt (v.m.nm ι')→K (a.put o.dst (H6 ι' v.v)) w')
  (hP:∀v∈outs,∀x ι' w',v.v=.pan x→Step P G ι m w ι' v.m w'→x.lt (v.m.nm ι')→Q (.panic [{v:=H6 ι' x,recovered:=false}]) a w'):
  if Region.wanted o (yielded ops a.tmps) then o.wpIn (FR r) 0 P a w K Q else (∀f,o.about P w a.eval=some f→(FR r).fn f)∧K (a.put o.dst undef) w:=by
 rw [kV s hg]
 have hrun:evA cf (vR P slots done o.op) ls env m=some outs→o.wpIn (FR r) 0 P a w K Q:=by
  intro hv
  cases hc:cOp P slots done o.op with
  | none=>simp only [vR,hc] at hv;cases hv
  | some ao=>
   simp only [vR,hc] at hv
   refine jW (AQ hc hv) (NS hcf s hm hc hv o rfl) ?_ ?_ fun _=>lN
   ·rintro v w' (⟨u,hu,x,hx,ι',h1,h2,rfl⟩ | ⟨_,_,_,_,_,_,_,h⟩)
    ·cases hu;exact hK x hx ι' w' h1 h2
    ·cases h
   ·rintro c w' (⟨u,hu,_⟩ | ⟨x,hx,y,ι',h1,h2,h3,h4⟩)
    ·cases hu
    ·cases h4;exact hP x hx y ι' w' h1 h2 h3
 cases g with
 | none=>exact hrun hv
 | some p=>
  obtain⟨x,wt⟩:=p
  have hv:bi (isB wt (trO x ls env)) (evA cf (vR P slots done o.op) ls env m) (one .undef m)=some outs:=hv
  have hgb:BM (some (x,wt)) ls env=isB wt (trO x ls env):=rfl
  rw [hgb]
  cases hb:isB wt (trO x ls env) with
  | true=>rw [hb] at hv;simp only [if_true];exact hrun hv
  | false=>
   rw [hb] at hv;cases hv
   simp only [awg,if_false]
   refine⟨fun _ _=>trivial,?_⟩
   have:=hK ⟨.undef,m⟩ (W9.2 rfl) ι w (Step.refl hm) trivial
   rw [jh] at this;exact this
theorem lQ {ops:Array Oper}{i:Nat}{rest:List Nat}{insts:List Inst}(h:jQ P slots ops done (i::rest)=some insts):
  ∃x d l,JL P slots done ops i=some (x,d)∧jQ P slots ops (d::done) rest=some l∧insts=x::l:=by
 simp only [jQ] at h
 split at h
 ·split at h
  ·cases h;exact⟨_,_,_,by assumption,by assumption,rfl⟩
  ·cases h
 ·cases h
def uY (ι:Inj):Mk→Deferred
 | .c id=>{target:=.collected (ι id).b,args:=#[]}
 | .d (.func fn a b) args=>{target:=.fn (jw ι fn) (H8 ι b).toArray,args:=(H8 ι a).toArray++(H8 ι args).toArray}
 | .d _ _=>{target:=.nil,args:=#[]}
def Yq (ι:Inj)(m:Mem):Mk→Prop
 | .c id=>m.has id∧m.lim≤id
 | .d v args=>(∃fn a b,v=.func fn a b)∧v.lt (m.nm ι)∧ltL (m.nm ι) args
def gD (ι:Inj)(m:Mem)(k:List Mk)(ds:List Deferred):Prop:=ds=k.map (uY ι)∧∀x∈k,Yq ι m x
theorem Yq.step {ι':Inj}{m':Mem}{w':World}{x:Mk}(h:Yq ι m x)(hst:Step P G ι m w ι' m' w'):Yq ι' m' x∧uY ι' x=uY ι x:=by
 cases x with
 | c id=>exact⟨⟨hst.has id h.1,by rw [hst.lim];exact h.2⟩,by simp only [uY,hst.ext id h.1]⟩
 | d v args=>
  obtain⟨⟨fn,a,b,rfl⟩,h1,h2⟩:=h
  have e:=hst.H6 h1
  have hle:=Mem.bU hst.has hst.ext
  refine⟨⟨⟨fn,a,b,rfl⟩,j5.Z8 hle _ h1,dR hle _ h2⟩,?_⟩
  have e2:=dJ (n:=m.nm ι) hst.ext args h2
  simp only [H6,Value.func.injEq] at e
  obtain⟨e3,e4,e5⟩:=e
  simp only [uY,e2,e3,e4,e5]
theorem gD.step {ι':Inj}{m':Mem}{w':World}{k:List Mk}{ds:List Deferred}(h:gD ι m k ds)(hst:Step P G ι m w ι' m' w'):gD ι' m' k ds:=by
 refine⟨?_,fun x hx=>((h.2 x hx).step hst).1⟩
 rw [h.1]
 exact List.map_congr_left fun x hx=>((h.2 x hx).step hst).2.symm
def Qj (ι:Inj)(e:EM):Exit:=match e.px with
 | none=>.normal
 | some x=>.panic [{v:=H6 ι x,recovered:=false}]
theorem sP {i:Inst}{l:List Inst}(h:l≠[]∨qB i=none):iP (i::l)=trI i.op i.dst i.guard (iP l):=by
 cases l with
 | cons=>rfl
 | nil=>
  rcases h with h | h
  ·exact absurd rfl h
  ·show BX i=trI i.op i.dst i.guard D7
   unfold BX;rw [h]
theorem Zk {r:Option Nat}(hr:r=none)(s:St P ι (m.nm ι) slots done ls env a.tmps)(hm:RM P G ι m w.heap){ops:Array Oper}{o:Oper}{x:Inst}(h2:x.op=vR P slots done o.op)(h3:x.dst=Qc slots o.dst)(h4:lM ops done o.guard x.guard)
  {f:Opd} {as:List Opd} (hd:qB x=some (f,as)) {outs:List EM} {cf:K8} (hv:Hy (trO f) (mE as) cf ls env m=some outs) {Q:Exit→Act→World→Prop}
  (hQ:∀e∈outs,∀ι' w' a',Step P G ι m w ι' e.m w'→bM ι' (e.m.nm ι') slots e.env a'.tmps→a'.defers=e.mks.map (uY ι')++a.defers→(∀y∈e.mks,Yq ι' e.m y)→a'.tmps.size=a.tmps.size→(∀y,e.px=some y→y.lt (e.m.nm ι'))→Q (Qj ι' e) a' w'):
  if Region.wanted o (yielded ops a.tmps) then o.wpIn (FR r) 0 P a w (Q .normal) Q else (∀f,o.about P w a.eval=some f→(FR r).fn f)∧Q .normal (a.put o.dst undef) w:=by
 subst hr
 obtain⟨op,dst,guard⟩:=x
 have h2:op=vR P slots done o.op:=h2
 have h3:dst=Qc slots o.dst:=h3
 have h4:lM ops done o.guard guard:=h4
 have hform:op=.e (.defer f as)∧guard=none∧dst=none:=by
  unfold qB at hd
  split at hd
  ·rename_i g1 g2 g3
   cases hd
   exact⟨g1,g2,g3⟩
  ·cases hd
 obtain⟨rfl,rfl,rfl⟩:=hform
 have hw:Region.wanted o (yielded ops a.tmps)=true:=by rw [kV s h4];rfl
 rw [hw,if_pos rfl]
 have hc:cOp P slots done o.op=some (.e (.defer f as)):=by
  unfold vR at h2
  split at h2
  ·rename_i ao hao;rw [hao,← h2]
  ·cases h2
 cases hop:o.op with
 | defer c=>
  rw [hop] at hc
  cases wD hc with
  | defer g1 g2 g3=>
   obtain⟨e1,e2⟩:=I5 s g2
   obtain⟨e3,e4⟩:=ES s g3
   obtain⟨fn,x,y,e5,hv⟩:=Eu hv
   cases hv
   rw [e5] at e1 e2
   refine⟨fun _ _=>trivial,?_⟩
   have hrun:(Oper.semAt none a.eval o).run P w=.ok (.defer (uY ι (.d (.func fn x y) (evs (mE as) ls env)))) w:=by
    rw [Oper.semAt_none]
    simp [execOp,hop,resolve,g1,e1,e3,H6,Deferred.ofValue,uY]
   show o.uponIn (FR none) 0 P a (Q .normal) Q ((Oper.semAt none a.eval o).run P w)
   rw [hrun]
   have hen:=s.env.put o.dst (v:=.undef) trivial
   rw [← h3,jh] at hen
   refine hQ _ (W9.2 rfl) ι w _ (Step.refl hm) ?_ ?_ ?_ ?_ (fun y hy=>by cases hy)
   ·rw [(lK _ o.dst undef).1];exact hen
   ·rw [(lK _ o.dst undef).2];rfl
   ·intro z hz
    obtain rfl:=W9.1 hz
    exact⟨⟨_,_,_,rfl⟩,e2,e4⟩
   ·rw [fF]
 | _=>
  rw [hop] at hc
  cases wD hc
theorem Km {r:Option Nat}{cf:K8}(hcf:xU P G cf){ops:Array Oper}{nt:Nat}(hin:∀(i:Nat)(o:Oper)(t:Tmp),ops[i]?=some o→o.dst=some t→t<nt){Q:Exit→Act→World→Prop}:
  ∀(l:List Nat) (done:List (Option Nat)) (insts:List Inst),jQ P slots ops done l=some insts→(jq insts=true→r=none)→∀(ls:List j5) (env:T j5) (m:Mem) (ι:Inj) (w:World) (a:Act) (outs:List EM),
   RM P G ι m w.heap→nt≤a.tmps.size→St P ι (m.nm ι) slots done ls env a.tmps→iP insts cf ls env m=some outs→
   (∀e∈outs,∀ι' w' a',Step P G ι m w ι' e.m w'→bM ι' (e.m.nm ι') slots e.env a'.tmps→a'.defers=e.mks.map (uY ι')++a.defers→(∀y∈e.mks,Yq ι' e.m y)→a'.tmps.size=a.tmps.size→(∀y,e.px=some y→y.lt (e.m.nm ι'))→Q (Qj ι' e) a' w')→
   wpOpsIn (FR r) 0 P ops Q l a w:=by
 intro l
 induction l with
 | nil=>
  intro done insts hc hdr ls env m ι w a outs hm hnt s hv hQ
  simp only [jQ,U0] at hc;subst hc
  have hv:some [EM.mk env m none []]=some outs:=hv
  cases hv
  exact hQ _ (W9.2 rfl) ι w a (Step.refl hm) s.env rfl (fun y hy=>by cases hy) rfl (fun y hy=>by cases hy)
 | cons i rest ih=>
  intro done insts hc hdr ls env m ι w a outs hm hnt s hv hQ
  obtain⟨x,d,l,hx,hl,rfl⟩:=lQ hc
  obtain⟨o,h1,rfl,h2,h3,h4⟩:=qX hx
  simp only [wpOpsIn,h1]
  by_cases hdd:l≠[]∨qB x=none
  ·rw [sP hdd] at hv
   obtain⟨vs,hvs,hk⟩:=NR hv
   rw [h2] at hvs
   refine Si hcf s hm h4 hvs ?_ ?_
   ·intro v hvm ι' w' hst hlt
    obtain⟨os,hos,hsub⟩:=hk v hvm
    rw [Sg hlt,h3] at hos
    have s':=(St.mono (n:=m.nm ι) s hst.ext (Mem.bU hst.has hst.ext)).put o.dst (fun t ht=>avu (hin i o t h1 ht) hnt) hlt
    refine ih _ _ hl (fun h=>hdr (by simp [jq,h])) _ _ _ ι' w' (a.put o.dst (H6 ι' v.v)) os hst.rm (by rw [fF];exact hnt) (by rw [(lK a o.dst (H6 ι' v.v)).1];exact s') hos ?_
    intro e he ι'' w'' a'' hst' hen hdef hmk hsz hpx
    exact hQ e (hsub e he) ι'' w'' a'' (hst.trans hst') hen (by rw [hdef,(lK a o.dst _).2]) hmk (hsz.trans (fF a o.dst _)) hpx
   ·intro v hvm y ι' w' hvy hst hlt
    obtain⟨os,hos,hsub⟩:=hk v hvm
    have hE:xV x.op=true:=by
     cases hb:xV x.op with
     | true=>rfl
     | false=>
      exfalso
      exact not_pan hcf s hm h4 h2 hb hvs hvm hvy
    have hos:some [(⟨env,v.m,some y,[]⟩:EM)]=some os:=by
     have:Qh (xV x.op) x.dst (iP l) cf ls env v=some [⟨env,v.m,some y,[]⟩]:=by
      unfold Qh;rw [hE,hvy];rfl
     rw [← hos,this]
    cases hos
    exact hQ _ (hsub _ (W9.2 rfl)) ι' w' a hst (hst.env s.env) rfl (fun y hy=>by cases hy) rfl (fun z hz=>by cases hz;exact hlt)
  ·simp only [not_or,Decidable.not_not] at hdd
   obtain⟨rfl,hdf⟩:=hdd
   cases hdo:qB x with
   | none=>exact absurd hdo hdf
   | some p=>
    obtain⟨f,as⟩:=p
    have hr:r=none:=hdr (by simp [jq,hdo])
    have hv:Hy (trO f) (mE as) cf ls env m=some outs:=by
     have:iP [x]=Hy (trO f) (mE as):=by
      show BX x=_
      unfold BX;rw [hdo]
     rw [← this];exact hv
    have hrest:rest=[]:=by
     cases rest with
     | nil=>rfl
     | cons j rest=>
      obtain⟨_,_,_,_,_,h⟩:=lQ hl
      cases h
    subst hrest
    exact Zk hr s hm h2 h3 h4 hdo hv hQ
where
 not_pan {P:Program} {G:Mem} {ι:Inj} {m:Mem} {w:World} {slots:List Nat} {done:List (Option Nat)} {ls:List j5} {env:T j5} {a:Act} {cf:K8} (hcf:xU P G cf) (s:St P ι (m.nm ι) slots done ls env a.tmps) (hm:RM P G ι m w.heap) {ops:Array Oper} {o:Oper} {x:Inst}
   (h4:lM ops done o.guard x.guard) (h2:x.op=vR P slots done o.op) (hb:xV x.op=false) {vs:List VM} (hvs:evG cf x.guard (vR P slots done o.op) ls env m=some vs) {v:VM} (hvm:v∈vs) {y:j5} (hvy:v.v=.pan y):False:=by
  rw [← h2] at hvs
  have key:evA cf x.op ls env m=some vs→False:=by
   intro hv
   cases hc:cOp P slots done o.op with
   | none=>rw [h2] at hb;simp [vR,hc,xV] at hb
   | some ao=>
    have hxo:x.op=ao:=by rw [h2];simp [vR,hc]
    rw [hxo] at hv hb
    cases ao with
    | p po=>
     obtain⟨u,h5,h6⟩:=J6 hv
     cases h6
     obtain rfl:=W9.1 hvm
     have:=(nY s hc h5).1
     have hvy:u=.pan y:=hvy
     rw [hvy] at this;exact this
    | r ro=>
     obtain⟨u,h5,h6⟩:=J6 hv
     cases h6
     obtain rfl:=W9.1 hvm
     have:=(nZ s hm (qP hc) h5).1
     have hvy:u=.pan y:=hvy
     rw [hvy] at this;exact this
    | a lo=>
     obtain⟨u,h5,h6⟩:=J6 hv
     cases h6
     obtain rfl:=W9.1 hvm
     have hvy1:u.1=.pan y:=hvy
     clear hvm hvs hv hvy
     have hvy:=hvy1
     clear hvy1
     have hn:¬ (m.nm ι) m.next:=fun ⟨_,h3,_⟩=>awX _ (Mem.M8 hm.ok h3)
     have hs:=oo s (fun _ _=>rfl) hn (vw hc) h5 w
     cases hs with
     | none hlt hg=>dsimp only at hvy;subst hvy;exact hlt
     | made l obj w' hmk=>
      have:=(hmk.blk ⟨fun _=>True,fun i=>if i=m.next then l.cap else (ι i).cap⟩ (fun i hi=>⟨trivial,by show (if i=m.next then l.cap else (ι i).cap)=(ι i).cap;rw [if_neg];rintro rfl;exact hn hi⟩) trivial (if_pos rfl)).2
      dsimp only at hvy;subst hvy;exact this
     | tail l hp hbb hg hlt=>
      have:=hlt ⟨fun _=>True,fun i=>if i=m.next then l.cap else (ι i).cap⟩ (fun i hi=>⟨trivial,by show (if i=m.next then l.cap else (ι i).cap)=(ι i).cap;rw [if_neg];rintro rfl;exact hn hi⟩) trivial (if_pos rfl)
      dsimp only at hvy;subst hvy;exact this
    | e eo=>simp [xV] at hb
  cases hg:x.guard with
  | none=>rw [hg] at hvs;exact key hvs
  | some z=>
   obtain⟨q,wt⟩:=z
   rw [hg] at hvs
   have hvs:bi (isB wt (trO q ls env)) (evA cf x.op ls env m) (one .undef m)=some vs:=hvs
   cases hB:isB wt (trO q ls env) with
   | true=>rw [hB] at hvs;exact key hvs
   | false=>
    rw [hB] at hvs;cases hvs
    obtain rfl:=W9.1 hvm
    cases hvy
end
end
end Go.AM
