/- A part of an evaluator for the model, proved sound: what it answers holds of the model; it speaks of every program, no condition. -/
import Derived.Test.YteecnooaopfkeaaGreatDoorPA1
import Derived.Lib.Builder
import Derived.Laws.NewFold
import Derived.CallsIn
import Derived.Lib.UnsafeStr
import Derived.RangeFuncLeaves
import Derived.RangeFuncRecord
import Derived.RangeFuncNested
import Derived.LoopNIn
set_option linter.all false
namespace Go.AM
open Go
section
variable {P:Program}{G:Mem}{ι:K7}{m:Mem}{w:World}
theorem eu {β:Type}{b:Option P9}{k:Nat->Nat->T (List o7)->Option β}{r:β}(h:P6 b k=some r):∃rs n rows,b=some (.cells rs n rows)∧k rs n rows=some r:=by
 match b,h with
 | some (.cells rs n rows),h=>exact⟨rs,n,rows,rfl,h⟩
theorem Ce {β:Type}{b:Option P9}{k:List (o7×o7)->Option β}{r:β}(h:QW b k=some r):∃es,b=some (.map es)∧k es=some r:=by
 match b,h with
 | some (.map es),h=>exact⟨es,rfl,h⟩
theorem LB (d:RM P G ι m w.heap){id rs k:Nat}{rows:T (List o7)}(b:m.get id=some (.cells rs k rows)){i j:Nat}(hi:i<k)(p:j<rs){row:List o7}
  (q:rows.get i=some row) {v:o7} (f:row[j]?=some v):w.cell? (ι.at id (i*rs+j))=some (u6 ι v)∧v.lt (m.nm ι):=by
 obtain⟨c,e,r,n,t,u,o⟩:=d.blk id _ b;obtain⟨g,a,s,h,l⟩:=o i hi;rw [q] at a;cases a;have:=l j p;rw [f] at this;refine⟨?_,P5 h (Xb f)⟩;simp only [World.cell?,K7.at,n,d.spot id _ b rfl];simpa using this
theorem Rp {rs n off:Nat}{rows:T (List o7)}{v:o7}(h:cell1 rs n rows off=some v):
  off / rs<n∧∃row,rows.get (off / rs)=some row∧row[off%rs]?=some v:=by
 obtain⟨b,c⟩:=D8 h;obtain⟨row,d,a⟩:=D5 c;rw [jN] at a;exact⟨Eq.mp Y3 b,row,d,a⟩
theorem Dr (j:RM P G ι m w.heap){id rs k off:Nat}{rows:T (List o7)}(i:m.get id=some (.cells rs k rows)){v:o7}(h:cell1 rs k rows off=some v):
  w.cell? (ι.at id off)=some (u6 ι v)∧v.lt (m.nm ι):=by
 obtain⟨d,p,f,g⟩:=Rp h;obtain⟨c,e,q,_,_,_,o⟩:=j.blk id _ i;obtain⟨l,b,n,_,_⟩:=o _ d;rw [f] at b;cases b;have a:off%rs<rs:=afA (y8.1 g).1 n;have:=LB j i d a f g
 rwa [show off / rs*rs+off%rs=off from by rw [adV];exact amg off rs] at this
def oV (ι:K7)(w:World)(id off:Nat)(l:List o7):Prop:=∀j v,l[j]?=some v->w.cell? (ι.at id (off+j))=some (u6 ι v)
theorem LC (s:RM P G ι m w.heap){id rs n off k:Nat}{rows:T (List o7)}(p:m.get id=some (.cells rs n rows)){l:List o7}(h:gK rs n rows off k=some l):
  l.length=k∧bB (m.nm ι) l∧oV ι w id off l:=by
 obtain⟨f,z⟩:=D8 h;obtain⟨row,g,a⟩:=D5 z;have f:off / rs<n:=Eq.mp Y3 f;obtain⟨c,e,C,_,_,_,A⟩:=s.blk id _ p;obtain⟨u,o,x,y,_⟩:=A _ f;have g:rows.get (off / rs)=some row:=g;rw [g] at o;cases o;have i:l=(row.drop (off%rs)).take k∧(off%rs+k<=rs∨k=0):=by have b:Nat.mod off rs=off%rs:=rfl;rw [b] at a;rw [vU] at a;split at a;rename_i t;rw [vU] at a;split at a;rename_i q;have e:row=l:=Y5 a;rw [t,q,← e];refine⟨?_,by omega⟩;rw [K9,← x,akb];obtain⟨e,r⟩:=lQ _ _ _ a;rw [t];exact⟨by rw [K9];exact e,by omega⟩;obtain⟨e,r⟩:=lQ _ _ _ a;simp only [jE,aht] at r e;exact⟨e,by omega⟩
 obtain⟨rfl,q⟩:=i;refine⟨by simp;omega,dR.2 λv d=>P5 y (aaA (afr d)),λj v d=>?_⟩;have B:j<k:=by have:=(y8.1 d).1;simp at this;omega
 rw [ae6,if_pos B,afx] at d;have:=(LB s p f (show off%rs+j<rs by omega) g d).1
 rwa [show off / rs*rs+(off%rs+j)=off+j from by have:=amg off rs;rw [adV] at this;omega] at this
theorem IZ (rs n:Nat)(rows:T (List o7))(off:Nat):U4 rs n rows 0 off=some []:=rfl
theorem Ja (rs n:Nat)(rows:T (List o7))(k off:Nat):U4 rs n rows (k+1) off=ob (cell1 rs n rows off) λv=>ob (U4 rs n rows k (off+1)) λl=>some (v::l):=rfl
theorem vV (p:RM P G ι m w.heap){id rs n:Nat}{rows:T (List o7)}(o:m.get id=some (.cells rs n rows)):
  ∀(k off:Nat) (l:List o7),U4 rs n rows k off=some l->l.length=k∧bB (m.nm ι) l∧oV ι w id off l:=by
 intro k;induction k with
 | zero=>intro off l h;rw [IZ] at h;cases h;exact⟨rfl,trivial,λj v q=>by simp at q⟩
 | succ k ih=>
  intro off l h;rw [Ja] at h;obtain⟨v,g,h⟩:=D5 h;obtain⟨r,i,h⟩:=D5 h;cases h;obtain⟨b,c⟩:=Dr p o g;obtain⟨d,e,f⟩:=ih _ _ i;refine⟨by simp [d],⟨c,e⟩,λj u a=>?_⟩;cases j with
  | zero=>simp at a;subst a;exact b
  | succ j=>rw [show off+(j+1)=off+1+j from by omega];exact f j u (by simpa using a)
theorem kM (e:RM P G ι m w.heap){id off k:Nat}{l:List o7}(h:aC m id off k=some l):
  l.length=k∧bB (m.nm ι) l∧oV ι w id off l:=by
 cases k with
 | zero=>cases h;exact⟨rfl,trivial,λj v f=>by simp at f⟩
 | succ k=>have h:P6 (m.get id) (λb n a=>U4 b n a (k+1) off)=some l:=h;obtain⟨b,n,a,c,d⟩:=eu h;exact vV e c _ _ _ d
theorem Oy {a:Addr}{v:Value}(h:w.cell? a=some v):(load a).run P w=.ok v w:=by simp [h]
theorem Ab {id off:Nat}:∀(l:List o7) (i:Nat) (acc:Array Value),(∀j v,l[j]?=some v->w.cell? (ι.at id (off+(i+j)))=some (u6 ι v))->
  (loadCellsFrom (ι.at id off) i l.length acc).run P w=.ok (acc++(z8 ι l).toArray) w:=by
 intro l;induction l with
 | nil=>intro i acc _;simp [loadCellsFrom,z8]
 | cons v l ih=>intro i acc h;have a:w.cell? (ι.at id (off+i))=some (u6 ι v):=h 0 v rfl;simp only [J6,loadCellsFrom,J8,K7.oP];rw [Oy a,J2,ih (i+1) _ (λj u b=>by rw [show i+1+j=i+(j+1) from by omega];exact h (j+1) u (by simpa using b))];simp [z8]
theorem qQ {id off:Nat}{l:List o7}(h:oV ι w id off l):(loadCells (ι.at id off) l.length).run P w=.ok (z8 ι l).toArray w:=by have:=Ab (P:=P) (ι:=ι) (w:=w) (id:=id) (off:=off) l 0 #[] (λj v a=>by simpa using h j v a);simpa [loadCells] using this
theorem iW {id off len cap es n:Nat}{l:List o7}(a:l.length=n*es)(h:oV ι w id off l):
  (Builtin.firstCells es n (.slice (some (ι.at id off)) len cap)).run P w=.ok (z8 ι l).toArray w:=by
 simp only [Builtin.firstCells];rw [← a];exact qQ h
end
section
variable {P:Program}{G:Mem}{ι:K7}{m:Mem}{w:World}{slots:List Nat}{done:List (Option Nat)}{ls:List o7}{env:T o7}{a:Act}
theorem yD {t:TypeId}{e:Option Nat}(j:partT P t=some e)(d:RM P G ι m w.heap){id off:Nat}{v:o7}
  (o:P6 (m.get id) (λrs n rows=>match e with | none=>cell1 rs n rows off | some k=>ob (gK rs n rows off k) λl=>some (.agg l))=some v):
  (loadVar t (ι.at id off)).run P w=.ok (u6 ι v) w∧v.lt (m.nm ι):=by
 obtain⟨rs,n,rows,c,h⟩:=eu o;rcases FM j with⟨rfl,ha,k,hk⟩ | ⟨k,rfl,ha,hk⟩;obtain⟨a,b⟩:=Dr d c h;exact⟨by simp [loadVar,rP ha,a],b⟩;obtain⟨l,a,b⟩:=D5 h;cases b;obtain⟨f,g,i⟩:=LC d c a;refine⟨?_,g⟩;have:=qQ (P:=P) i;rw [f] at this;simp [loadVar,rP ha,run_sizeOf hk,this,u6]
theorem iB {t:TypeId}(h:P.underlying t=some .bool∨(∃k,P.underlying t=some (.int k))∨P.underlying t=some .string)(e:Bool)(d:Nat)(v:Value)(w:World):
  (Instr.checkKey e (d+1) t v).run P w=.ok () w:=by
 rcases h with h | ⟨k,h⟩ | h<;>simp [Instr.checkKey,run_underlying h]
def qD (e:Bool)(d:Nat)(X:Array Value):List Field->Sem Unit
 | []=>pure ()
 | f::l=>do
  if f.name≠ "_" then Instr.checkKey e d f.type (← part f.type X f.offset)
  qD e d X l
theorem Rq (e:Bool)(d:Nat)(X:Array Value)(l:List Field):
  (forIn l PUnit.unit λf _=>do
    if f.name≠ "_" then Instr.checkKey e d f.type (← part f.type X f.offset)
    pure (ForInStep.yield PUnit.unit):Sem PUnit)=qD e d X l:=by
 induction l with
 | nil=>simp [qD]
 | cons f l ih=>rw [aiY];simp only [qD];rw [← ih];by_cases hf:f.name= "_";simp [hf];simp [hf]
theorem Em {t:TypeId}{a:Array Field}(h:P.underlying t=some (.struct a))(e:Bool)(d:Nat)(X:Array Value)(w:World):
  (Instr.checkKey e (d+1) t (.agg X)).run P w=(qD e d X a.toList).run P w:=by
 simp only [Instr.checkKey,J8,run_underlying h,J2];rw [← ajR,← Rq];generalize (forIn a.toList PUnit.unit _:Sem PUnit)=r;simp;cases r.run P w<;>rfl
theorem Rs:∀(d:Nat) (t:TypeId) (ks:List PK),gQ P d t=some ks->∃agg,yg P t=some agg∧aY P t=some ks.length∧(agg=false->ks.length=1)∧
  ∀D,d<=D->∀(l:List o7),ks.length<=l.length->∀(e:Bool) w,(Instr.checkKey e D t (mkV ι agg l)).run P w=.ok () w:=by
 intro d;induction d with
 | zero=>intro t ks h;simp [gQ] at h
 | succ d ih=>
  intro t ks h;obtain⟨agg,k,i,n,_⟩:=Jz (P:=P) (ι:=ι) (d+1) t ks h;refine⟨agg,k,i,n,λD s l v e w=>?_⟩;obtain⟨D,rfl⟩:∃D',D=D'+1:=⟨D-1,by omega⟩;simp only [gQ] at h;cases hu:P.underlying t with
  | none=>simp [hu] at h
  | some u=>
   rw [hu] at h;cases u<;>try (simp at h;done)
   exact iB (.inl hu) e D _ w;exact iB (.inr (.inl ⟨_,hu⟩)) e D _ w;exact iB (.inr (.inr hu)) e D _ w;rename_i p;rw [qB hu] at k;cases k;simp only at h;cases hf:oO (gQ P d) p.toList 0 with
   | none=>simp [hf] at h
   | some ks'=>
    simp only [hf] at h;split at h;rename_i x;cases h;simp only [mkV,if_true];rw [Em hu];have o:∀(j:List Field) (c:Nat) (a:List PK),c+a.length<=l.length->oO (gQ P d) j c=some a->
      (qD e D (z8 ι l).toArray j).run P w=.ok () w:=by
     intro j;induction j with
     | nil=>intro c a _ _;simp [qD]
     | cons f j ihl=>
      intro c a m b;simp only [oO] at b;split at b;rename_i q;cases hk:gQ P d f.type with
      | none=>simp [hk] at b
      | some kf=>
       simp only [hk] at b;cases hrest:oO (gQ P d) j (c+kf.length) with
       | none=>simp [hrest] at b
       | some kr=>
        simp only [hrest,Hl] at b;subst b;simp only [J9] at m;obtain⟨agg,k,i,n,r⟩:=ih f.type kf hk;simp only [qD,if_pos q.1,J8];rw [q.2,vS k i _ _ (λg=>⟨by have:=n g;omega,n g⟩),J2,
         r D (by omega) _ (by simp;omega) e w,J2]
        exact ihl (c+kf.length) kr (by omega) hrest
      cases b
    exact o p.toList 0 _ (by omega) hf;cases h
end
section
variable {P:Program}{G:Mem}{ι:K7}
theorem JB {t:TypeId}{k:BJ}(h:uT P t=some k):XC P false t=some k∧((∃j,k=.prim j)∨∃ks,k=.flat ks):=by simp only [uT] at h;split at h;cases h;exact⟨by assumption,.inl ⟨_,rfl⟩⟩;cases h;exact⟨by assumption,.inr ⟨_,rfl⟩⟩;cases h
theorem eH (f:IG)(k:o7)(i:Nat):findKey f k [] i=some none:=rfl
theorem eO (f:IG)(k:o7)(e:o7×o7)(es:List (o7×o7))(i:Nat):
  findKey f k (e::es) i=ob (f k e.1) λb=>bi b (some (some (i,e.2))) (findKey f k es (i+1)):=rfl
def nL (ι:K7)(r:Option (Nat×o7)):Option (Nat×Value):=r.map λp=>(p.1,u6 ι p.2)
theorem yE {f:IG}{d:TypeDesc}(hs:∀x y r,f x y=some r->Instr.sameNow d (u6 ι x) (u6 ι y)=some r)(k:o7):
  ∀(es:List (o7×o7)) (i j:Nat) (r:Option (Nat×o7)),findKey f k es i=some r->Instr.findNow d (u6 ι k) (J5 ι es j) i=some (nL ι r)
 | [],i,j,r,h=>by rw [eH] at h;cases h;rfl
 | e::es,i,j,r,h=>by
  rw [eO] at h;obtain⟨b,h1,h2⟩:=D5 h;simp only [J5,Instr.findNow,hs _ _ _ h1];cases b with
  | true=>cases h2;rfl
  | false=>exact yE hs k es (i+1) (j+1) r h2
theorem rT {f:IG}{t:TypeId}(hs:∀x y r,f x y=some r->∀w,(Op.equal t (u6 ι x) (u6 ι y)).run P w=.ok r w)(k:o7)(w:World):
  ∀(es:List (o7×o7)) (i j:Nat) (r:Option (Nat×o7)),findKey f k es i=some r->(Instr.findAsking t (u6 ι k) (J5 ι es j) i).run P w=.ok (nL ι r) w
 | [],i,j,r,h=>by rw [eH] at h;cases h;simp [J5,Instr.findAsking,nL]
 | e::es,i,j,r,h=>by
  rw [eO] at h;obtain⟨b,h1,h2⟩:=D5 h;simp only [J5,Instr.findAsking,J8,hs _ _ _ h1 w,J2];cases b with
  | true=>cases h2;simp [nL]
  | false=>simpa using rT hs k w es (i+1) (j+1) r h2
theorem kN {f:IG}{n:Nat}{k:o7}{es:List (o7×o7)}{r:Option (Nat×o7)}(h:V9 f n k es=some r):
  k.cells.length=n∧(∃y b,f k y=some b)∧findKey f k es 0=some r:=by
 obtain⟨a,h⟩:=D8 h;have a:=q9 a;rw [I9] at a;refine⟨a,?_⟩;cases es with
 | nil=>obtain⟨b,c,d⟩:=D5 (show ob (f k k) (λ_=>some none)=some r from h);exact⟨⟨_,_,c⟩,by rw [eH];exact d⟩
 | cons e es=>have h:findKey f k (e::es) 0=some r:=h;refine⟨?_,h⟩;rw [eO] at h;obtain⟨b,c,_⟩:=D5 h;exact⟨_,_,c⟩
theorem xG {kk:BJ}{t:TypeId}(d:uT P t=some kk):
  (kk=.prim .b∧P.underlying t=some .bool)∨(∃k,kk=.prim .i∧P.underlying t=some (.int k))∨(kk=.prim .s∧P.underlying t=some .string)∨
  ∃fs ks,kk=.flat ks∧P.underlying t=some (.struct fs)∧gQ P 10 t=some ks:=by
 obtain⟨a,c⟩:=JB d;simp only [XC] at a;cases hu:P.underlying t with
 | none=>simp [hu] at a
 | some u=>
  rw [hu] at a;cases u<;>try (simp at a;done)
  simp only [Hl] at a;subst a;simp;simp only [Hl] at a;subst a;simp;simp only [Hl] at a;subst a;simp;simp only at a;split at a;cases a;rcases c with⟨_,c⟩ | ⟨_,c⟩<;>cases c
  cases a;simp only [Hl] at a;subst a;rcases c with⟨_,c⟩ | ⟨_,c⟩<;>cases c
  simp only [Hl] at a;subst a;rcases c with⟨_,c⟩ | ⟨_,c⟩<;>cases c
  rename_i fs;simp only at a;cases hf:gQ P 10 t with
  | none=>simp [hf] at a
  | some ks=>simp only [hf] at a;split at a;cases a;exact .inr (.inr (.inr ⟨fs,ks,rfl,rfl,rfl⟩));cases a
  simp only [Hl] at a;subst a;rcases c with⟨_,c⟩ | ⟨_,c⟩<;>cases c
theorem EG {kk:BJ}{t:TypeId}(f:uT P t=some kk){k y:o7}{b:Bool}(g:k.cells.length=BP kk)(h:nA kk k y=some b)(e:Bool)(w:World):
  (Instr.checkKey e 10000 t (u6 ι k)).run P w=.ok () w:=by
 rcases xG f with⟨rfl,hu⟩ | ⟨_,rfl,hu⟩ | ⟨rfl,hu⟩ | ⟨fs,ks,rfl,hu,hf⟩;exact iB (.inl hu) e _ _ w;exact iB (.inr (.inl ⟨_,hu⟩)) e _ _ w;exact iB (.inr (.inr hu)) e _ _ w;obtain⟨l,rfl,_⟩:=fH h;obtain⟨c,a,_,_,d⟩:=Rs (P:=P) (ι:=ι) 10 t ks hf;rw [qB hu] at a;cases a;have:=d 10000 (by decide) l (Nat.le_of_eq g.symm) e w;simpa [mkV,u6] using this
theorem Vb {kk:BJ}{d:TypeDesc}(h:(kk=.prim .b∧d=.bool)∨(∃k,kk=.prim .i∧d=.int k)∨(kk=.prim .s∧d=.string))(x y:o7)(r:Bool)(c:nA kk x y=some r):
  Instr.sameNow d (u6 ι x) (u6 ι y)=some r:=by
 rcases h with⟨rfl,rfl⟩ | ⟨k,rfl,rfl⟩ | ⟨rfl,rfl⟩;obtain⟨a,b,rfl,rfl,rfl⟩:=iU c;simp [u6,Instr.sameNow];obtain⟨k,a,b,rfl,rfl,rfl⟩:=oU c;simp [u6,Instr.sameNow];obtain⟨a,b,rfl,rfl,rfl⟩:=jS c;simp [u6,Instr.sameNow,mD]
theorem mE {kk:BJ}{t:TypeId}(f:uT P t=some kk){k:o7}{es:List (o7×o7)}{r:Option (Nat×o7)}(h:findKey (nA kk) k es 0=some r)(w:World):
  (Instr.findKey t (u6 ι k) (J5 ι es 0)).run P w=.ok (nL ι r) w:=by
 have a:∀d,P.underlying t=some d->((kk=.prim .b∧d=.bool)∨(∃k,kk=.prim .i∧d=.int k)∨(kk=.prim .s∧d=.string))->
   (Instr.findKey t (u6 ι k) (J5 ι es 0)).run P w=.ok (nL ι r) w:=by
  intro d c j;simp [Instr.findKey,run_underlying c,yE (Vb j) k es 0 0 r h]
 rcases xG f with⟨rfl,c⟩ | ⟨_,rfl,c⟩ | ⟨rfl,c⟩ | ⟨fs,ks,rfl,c,hf⟩;exact a _ c (.inl ⟨rfl,rfl⟩);exact a _ c (.inr (.inl ⟨_,rfl,rfl⟩));exact a _ c (.inr (.inr ⟨rfl,rfl⟩));have g:=rT (P:=P) (ι:=ι) (t:=t) (λx y r l w=>Dq (JB f).1 l w) k w es 0 0 r h;cases es with
 | nil=>rw [eH] at h;cases h;simp [Instr.findKey,run_underlying c,J5,Instr.findNow,nL]
 | cons e es=>simp only [Instr.findKey,J8,run_underlying c,J2];simp only [J5,Instr.findNow,Instr.sameNow];exact g
theorem lV {f:IG}{k:o7}:∀{es:List (o7×o7)} {i:Nat} {p:Nat×o7},findKey f k es i=some (some p)->
  ∃j e,p.1=i+j∧es[j]?=some e∧e.2=p.2∧f k e.1=some true
 | [],i,p,h=>by rw [eH] at h;cases h
 | e::es,i,p,h=>by
  rw [eO] at h;obtain⟨b,h1,h2⟩:=D5 h;cases b with
  | true=>cases h2;exact⟨0,e,rfl,rfl,rfl,h1⟩
  | false=>obtain⟨j,e',h3,h4,h5⟩:=lV h2;exact⟨j+1,e',by omega,by simpa using h4,h5⟩
end
section
variable {P:Program}{G:Mem}{slots:List Nat}{done:List (Option Nat)}
inductive qR (P:Program)(slots:List Nat)(done:List (Option Nat)):Op->QV->Prop
 | load {t x sz x'}:partT P t=some sz->N8 P slots done x=some x'->qR P slots done (.load t x) (.load sz x')
 | look {t kt e kk z ok x k x' k'}:P.underlying t=some (.map kt e)->uT P kt=some kk->zeroV P e=some z->N8 P slots done x=some x'->N8 P slots done k=some k'->
   qR P slots done (.lookup t x k ok) (.look kk z ok x' k')
 | lenM {c t kt e x x'}:c.callee=.builtin .len->c.argTypes.toList=[t]->c.args.toList=[x]->P.underlying t=some (.map kt e)->N8 P slots done x=some x'->
   qR P slots done (.call c) (.lenM x')
 | slData {c t e x x'}:c.callee=.builtin .unsafeSliceData->c.argTypes.toList=[t]->c.args.toList=[x]->P.underlying t=some (.slice e)->N8 P slots done x=some x'->qR P slots done (.call c) (.slData x')
 | toUns {a b t x x' k}:P.underlying a=some (.pointer t)->P.underlying b=some .unsafePointer->aY P t=some k->k≠0->N8 P slots done x=some x'->qR P slots done (.convert a b x) (.toUns x')
 | fromUns {a b u x x' k}:P.underlying a=some .unsafePointer->P.underlying b=some (.pointer u)->aY P u=some k->k≠0->N8 P slots done x=some x'->qR P slots done (.convert a b x) (.fromUns (Og P u) x')
 | bytesStr {a b e x x'}:P.underlying a=some (.slice e)->P.underlying b=some .string->P.underlying e=some (.int .u8)->N8 P slots done x=some x'->
   qR P slots done (.convert a b x) (.bytesStr x')
 | entry {x x'}:N8 P slots done x=some x'->qR P slots done (.entry x) (.entry x')
set_option maxHeartbeats 1000000 in
theorem vW {n:Op}{ro:QV}(h:iA P slots done n=some (.r ro)):qR P slots done n ro:=by
 cases n with
 | load t x=>obtain⟨B,g,h⟩:=bind_eq h;obtain⟨i,d,h⟩:=bind_eq h;cases h;exact .load g d
 | lookup t x k ok=>obtain⟨u,e,h⟩:=bind_eq h;split at h;obtain⟨A,g,h⟩:=bind_eq h;obtain⟨z,d,h⟩:=bind_eq h;obtain⟨i,p,h⟩:=bind_eq h;obtain⟨y,q,h⟩:=bind_eq h;cases h;exact .look e g d p q;cases h
 | entry x=>obtain⟨i,d,h⟩:=bind_eq h;cases h;exact .entry d
 | convert a b x=>obtain⟨u,e,h⟩:=bind_eq h;obtain⟨v,l,h⟩:=bind_eq h;split at h;obtain⟨_,_,h⟩:=bind_eq h;cases h;obtain⟨_,_,h⟩:=bind_eq h;split at h;obtain⟨_,_,h⟩:=bind_eq h;cases h;cases h;obtain⟨w,s,h⟩:=bind_eq h;split at h;obtain⟨i,f,h⟩:=bind_eq h;cases h;exact .bytesStr e l s f;cases h;obtain⟨k,j,h⟩:=bind_eq h;split at h;cases h;obtain⟨i,f,h⟩:=bind_eq h;cases h;exact .toUns e l j (by assumption) f;obtain⟨k,j,h⟩:=bind_eq h;split at h;cases h;obtain⟨i,f,h⟩:=bind_eq h;cases h;exact .fromUns e l j (by assumption) f;cases h
 | call c=>
  simp only [iA] at h;split at h
  ·rename_i b o;simp only [vL] at h;split at h;rename_i g d;obtain⟨u,e,h⟩:=bind_eq h;split at h;obtain⟨_,_,h⟩:=bind_eq h;cases h;obtain⟨_,_,h⟩:=bind_eq h;cases h;cases h;obtain⟨i,f,h⟩:=bind_eq h;cases h;exact .lenM o g d e f;cases h
   case h_9 g d=>obtain⟨u,e,h⟩:=bind_eq h;split at h;obtain⟨i,f,h⟩:=bind_eq h;cases h;exact .slData o g d e f;cases h
   all_goals (repeat' (first | (cases h;done) | (obtain⟨_,_,h⟩:=bind_eq h) | split at h))
  ·obtain⟨_,_,h⟩:=bind_eq h;repeat' (first | (cases h;done) | (obtain⟨_,_,h⟩:=bind_eq h) | split at h)
  obtain⟨_,_,h⟩:=bind_eq h;obtain⟨_,_,h⟩:=bind_eq h;cases h;cases h
 | build t parts=>simp only [iA,yQ] at h;repeat' (first | (cases h;done) | split at h)
 | slice t x lo hi mx=>
  cases mx with
  | some m=>simp only [iA] at h;cases h
  | none=>simp only [iA] at h;repeat' (first | (cases h;done) | (obtain⟨_,_,h⟩:=bind_eq h) | split at h)
 | next it str=>
  cases str with
  | true=>simp only [iA] at h;obtain⟨_,_,h⟩:=bind_eq h;cases h
  | false=>simp only [iA] at h;obtain⟨_,_,h⟩:=bind_eq h;cases h
 | _=>simp only [iA] at h;repeat' (first | (cases h;done) | (obtain⟨_,_,h⟩:=bind_eq h) | split at h)
inductive nE (P:Program)(slots:List Nat)(done:List (Option Nat)):Op->UJ->Prop
 | alloc {t z}:rM P t=some z->nE P slots done (.alloc t) (.alloc z)
 | box {t x x'}:N8 P slots done x=some x'->nE P slots done (.box t x) (.box x')
 | allocT {t z}:Ej P t=some z->nE P slots done (.alloc t) (.allocT t z)
 | boxT {t k x x'}:aY P t=some k->N8 P slots done x=some x'->nE P slots done (.box t x) (.boxT t k x')
 | buildSlice {t len parts e es ps z}:P.underlying t=some (.slice e)->aY P e=some es->vK P slots done (λi=>some (i*es,es)) parts.toList=some ps->len*es<=16777216->
   rM P e=some z->nE P slots done (.buildSlice t len parts) (.buildSlice es len z ps)
 | mkMap {t}:nE P slots done (.makeMap t none) .mkMap
 | mkMapN {t k n kt e}:P.underlying t=some (.map kt e)->nE P slots done (.makeMap t (some (.const (.int k n)))) .mkMap
 | mkSlice {t l c e es by' z l' c'}:P.underlying t=some (.slice e)->aY P e=some es->gZ P e=some by'->Ej P e=some z->N8 P slots done l=some l'->N8 P slots done c=some c'->
   nE P slots done (.makeSlice t l c) (.mkSlice es by' z l' c')
 | strBytes {a b e x x'}:P.underlying a=some .string->P.underlying b=some (.slice e)->P.underlying e=some (.int .u8)->N8 P slots done x=some x'->
   nE P slots done (.convert a b x) (.strBytes x')
 | sl {t x lo hi e es x' lo' hi'}:P.underlying t=some (.slice e)->aY P e=some es->N8 P slots done x=some x'->cOpt P slots done lo=some lo'->cOpt P slots done hi=some hi'->
   nE P slots done (.slice t x lo hi none) (.sl es x' lo' hi')
set_option maxHeartbeats 1000000 in
theorem Ac {n:Op}{lo:UJ}(h:iA P slots done n=some (.a lo)):nE P slots done n lo:=by
 cases n with
 | alloc t=>simp only [iA] at h;split at h;obtain⟨z,d,h⟩:=bind_eq h;cases h;exact .allocT d;obtain⟨z,d,h⟩:=bind_eq h;cases h;exact .alloc d
 | box t x=>simp only [iA] at h;split at h;obtain⟨k,d,h⟩:=bind_eq h;obtain⟨z,f,h⟩:=bind_eq h;cases h;exact .boxT d f;obtain⟨z,d,h⟩:=bind_eq h;cases h;exact .box d
 | buildSlice t len parts=>obtain⟨u,e,h⟩:=bind_eq h;split at h;obtain⟨y,d,h⟩:=bind_eq h;obtain⟨A,f,h⟩:=bind_eq h;split at h;rename_i j;obtain⟨z,g,h⟩:=bind_eq h;cases h;exact .buildSlice e d f j g;cases h;cases h
 | makeMap t r=>simp only [iA] at h;split at h;cases h;exact .mkMap;split at h;rename_i e;cases h;exact .mkMapN e;cases h;cases h
 | makeSlice t l c=>obtain⟨u,e,h⟩:=bind_eq h;split at h;obtain⟨_,d,h⟩:=bind_eq h;obtain⟨_,f,h⟩:=bind_eq h;obtain⟨_,g,h⟩:=bind_eq h;obtain⟨_,i,h⟩:=bind_eq h;obtain⟨_,q,h⟩:=bind_eq h;cases h;exact .mkSlice e d f g i q;cases h
 | convert a b x=>obtain⟨u,e,h⟩:=bind_eq h;obtain⟨v,s,h⟩:=bind_eq h;split at h;obtain⟨_,_,h⟩:=bind_eq h;cases h;obtain⟨w,o,h⟩:=bind_eq h;split at h;obtain⟨_,p,h⟩:=bind_eq h;cases h;exact .strBytes e s o p;cases h;obtain⟨w,o,h⟩:=bind_eq h;split at h;obtain⟨B,p,h⟩:=bind_eq h;cases h;cases h;all_goals (repeat' (first | (cases h;done) | (obtain⟨_,_,h⟩:=bind_eq h) | split at h))
 | slice t x lo hi mx=>
  cases mx with
  | some m=>simp only [iA] at h;cases h
  | none=>simp only [iA] at h;obtain⟨u,e,h⟩:=bind_eq h;split at h;obtain⟨_,_,h⟩:=bind_eq h;obtain⟨_,_,h⟩:=bind_eq h;obtain⟨_,_,h⟩:=bind_eq h;cases h;obtain⟨_,d,h⟩:=bind_eq h;obtain⟨_,f,h⟩:=bind_eq h;obtain⟨_,g,h⟩:=bind_eq h;obtain⟨_,i,h⟩:=bind_eq h;cases h;exact .sl e d f g i;obtain⟨_,_,h⟩:=bind_eq h;obtain⟨_,_,h⟩:=bind_eq h;obtain⟨_,_,h⟩:=bind_eq h;obtain⟨_,_,h⟩:=bind_eq h;cases h;cases h
 | call c=>
  simp only [iA] at h;split at h
  ·simp only [vL] at h;split at h;all_goals (repeat' (first | (cases h;done) | (obtain⟨_,_,h⟩:=bind_eq h) | split at h))
  ·obtain⟨_,_,h⟩:=bind_eq h;repeat' (first | (cases h;done) | (obtain⟨_,_,h⟩:=bind_eq h) | split at h)
  obtain⟨_,_,h⟩:=bind_eq h;obtain⟨_,_,h⟩:=bind_eq h;cases h;cases h
 | build t parts=>simp only [iA,yQ] at h;repeat' (first | (cases h;done) | split at h)
 | next it str=>
  cases str with
  | true=>simp only [iA] at h;obtain⟨_,_,h⟩:=bind_eq h;cases h
  | false=>simp only [iA] at h;obtain⟨_,_,h⟩:=bind_eq h;cases h
 | _=>simp only [iA] at h;repeat' (first | (cases h;done) | (obtain⟨_,_,h⟩:=bind_eq h) | split at h)
inductive lI (P:Program)(slots:List Nat)(done:List (Option Nat)):Op->WT->Prop
 | store {t a x k a' x'}:aY P t=some k->N8 P slots done a=some a'->N8 P slots done x=some x'->lI P slots done (.store t a x) (.store k a' x')
 | mapUpdate {t m k x kt e kk m' k' x'}:P.underlying t=some (.map kt e)->uT P kt=some kk->N8 P slots done m=some m'->N8 P slots done k=some k'->N8 P slots done x=some x'->
   lI P slots done (.mapUpdate t m k x) (.mapSet kk m' k' x')
 | insert {t m k x kt e kk m' k' x'}:P.underlying t=some (.map kt e)->uT P kt=some kk->N8 P slots done m=some m'->N8 P slots done k=some k'->N8 P slots done x=some x'->
   lI P slots done (.insert t m k x) (.mapSet kk m' k' x')
 | range {t x k e x'}:P.underlying t=some (.map k e)->N8 P slots done x=some x'->lI P slots done (.range t x) (.range x')
 | next {x x'}:N8 P slots done x=some x'->lI P slots done (.next x false) (.next x')
 | app {c t u s x e es z by' s' x' d}:P.underlying u=some d->c.callee=.builtin .append->c.argTypes.toList=[t,u]->c.args.toList=[s,x]->P.underlying t=some (.slice e)->
   aY P e=some es->Ej P e=some z->gZ P e=some by'->N8 P slots done s=some s'->N8 P slots done x=some x'->
   lI P slots done (.call c) (.app es (match d with | .int _=>true | _=>false) z by' s' x')
 | copy {c t u d s e es d' s'}:c.callee=.builtin .copy->c.argTypes.toList=[t,u]->c.args.toList=[d,s]->P.underlying t=some (.slice e)->
   aY P e=some es->N8 P slots done d=some d'->N8 P slots done s=some s'->lI P slots done (.call c) (.copy es d' s')
 | clear {c t x e z x'}:c.callee=.builtin .clear->c.argTypes.toList=[t]->c.args.toList=[x]->P.underlying t=some (.slice e)->
   rM P e=some z->N8 P slots done x=some x'->lI P slots done (.call c) (.clear z x')
 | call {c f fn as}:c.callee=.value (.func f)->P.funcs[f]?=some fn->fn.body.isSome=true->fn.name≠ "runtime.NumGoroutine"->jY P slots done c.args.toList=some as->
   lI P slots done (.call c) (.call f as)
 | rangeS {t x x'}:P.underlying t=some .string->N8 P slots done x=some x'->lI P slots done (.range t x) (.rangeS x')
 | nextS {x x'}:N8 P slots done x=some x'->lI P slots done (.next x true) (.nextS x')
 | appB {c t u s x e s' x'}:P.underlying u=some .string->c.callee=.builtin .append->c.argTypes.toList=[t,u]->c.args.toList=[s,x]->P.underlying t=some (.slice e)->Dm P e=true->
   N8 P slots done s=some s'->N8 P slots done x=some x'->lI P slots done (.call c) (.appB e s' x')
 | ustr {c t u p n e p' n'}:c.callee=.builtin .unsafeString->c.argTypes.toList=[t,u]->c.args.toList=[p,n]->P.underlying t=some (.pointer e)->Dm P e=true->
   N8 P slots done p=some p'->N8 P slots done n=some n'->lI P slots done (.call c) (.ustr e p' n')
 | panic {x x'}:N8 P slots done x=some x'->lI P slots done (.panic x) (.panic x')
 | defer {c f f' as}:c.callee=.value f->N8 P slots done f=some f'->jY P slots done c.args.toList=some as->lI P slots done (.defer c) (.defer f' as)
 | recover {c}:c.callee=.builtin .recover->lI P slots done (.call c) .recover
 | callv {c f f' as}:c.callee=.value f->N8 P slots done f=some f'->jY P slots done c.args.toList=some as->
   lI P slots done (.call c) (.callv f' as)
set_option maxHeartbeats 1000000 in
theorem Ad {y:Op}{eo:WT}(h:iA P slots done y=some (.e eo)):lI P slots done y eo:=by
 cases y with
 | store t a x=>obtain⟨_,g,h⟩:=bind_eq h;obtain⟨_,i,h⟩:=bind_eq h;obtain⟨_,l,h⟩:=bind_eq h;cases h;exact .store g i l
 | mapUpdate t m k x=>obtain⟨u,j,h⟩:=bind_eq h;split at h;obtain⟨_,g,h⟩:=bind_eq h;obtain⟨_,i,h⟩:=bind_eq h;obtain⟨_,l,h⟩:=bind_eq h;obtain⟨_,n,h⟩:=bind_eq h;cases h;exact .mapUpdate j g i l n;cases h
 | insert t m k x=>obtain⟨u,j,h⟩:=bind_eq h;split at h;obtain⟨_,g,h⟩:=bind_eq h;obtain⟨_,i,h⟩:=bind_eq h;obtain⟨_,l,h⟩:=bind_eq h;obtain⟨_,n,h⟩:=bind_eq h;cases h;exact .insert j g i l n;cases h
 | range t x=>obtain⟨u,j,h⟩:=bind_eq h;split at h;obtain⟨_,g,h⟩:=bind_eq h;cases h;exact .range j g;obtain⟨_,g,h⟩:=bind_eq h;cases h;exact .rangeS j g;cases h
 | next it str=>
  cases str with
  | true=>simp only [iA] at h;obtain⟨_,g,h⟩:=bind_eq h;cases h;exact .nextS g
  | false=>simp only [iA] at h;obtain⟨_,g,h⟩:=bind_eq h;cases h;exact .next g
 | panic x=>obtain⟨_,g,h⟩:=bind_eq h;cases h;exact .panic g
 | defer c=>simp only [iA] at h;split at h;obtain⟨_,g,h⟩:=bind_eq h;obtain⟨_,i,h⟩:=bind_eq h;cases h;exact .defer (by assumption) g i;cases h
 | convert a b x=>obtain⟨u,j,h⟩:=bind_eq h;obtain⟨v,D,h⟩:=bind_eq h;repeat' (first | (cases h;done) | (obtain⟨_,_,h⟩:=bind_eq h) | split at h)
 | slice t x lo hi mx=>
  cases mx with
  | some m=>simp only [iA] at h;cases h
  | none=>simp only [iA] at h;repeat' (first | (cases h;done) | (obtain⟨_,_,h⟩:=bind_eq h) | split at h)
 | call c=>
  simp only [iA] at h;split at h
  ·rename_i b p;simp only [vL] at h;split at h
   ·repeat' (first | (cases h;done) | (obtain⟨_,_,h⟩:=bind_eq h) | split at h)
   ·repeat' (first | (cases h;done) | (obtain⟨_,_,h⟩:=bind_eq h) | split at h)
   rename_i g i;obtain⟨u,j,h⟩:=bind_eq h;split at h;obtain⟨d,z,h⟩:=bind_eq h;split at h;rename_i o;obtain⟨_,r,h⟩:=bind_eq h;obtain⟨_,s,h⟩:=bind_eq h;cases h;rw [l9] at o;have:d=.string:=by have:=o.1;cases d<;>first | rfl | cases this
   exact .appB (by rw [z,this]) p g i j o.2 r s;obtain⟨_,l,h⟩:=bind_eq h;obtain⟨_,n,h⟩:=bind_eq h;obtain⟨_,q,h⟩:=bind_eq h;obtain⟨_,r,h⟩:=bind_eq h;obtain⟨_,s,h⟩:=bind_eq h;cases h;exact .app z p g i j l n q r s;cases h;rename_i g i;obtain⟨u,j,h⟩:=bind_eq h;split at h;obtain⟨_,l,h⟩:=bind_eq h;obtain⟨_,n,h⟩:=bind_eq h;obtain⟨_,q,h⟩:=bind_eq h;cases h;exact .copy p g i j l n q;cases h;rename_i g i;obtain⟨u,j,h⟩:=bind_eq h;split at h;obtain⟨_,l,h⟩:=bind_eq h;obtain⟨_,n,h⟩:=bind_eq h;cases h;exact .clear p g i j l n;cases h
   case h_10 g i=>obtain⟨u,j,h⟩:=bind_eq h;split at h;split at h;rename_i o;obtain⟨_,l,h⟩:=bind_eq h;obtain⟨_,n,h⟩:=bind_eq h;cases h;exact .ustr p g i j o l n;cases h;cases h
   all_goals (first | (cases h;exact .recover p;done) | (repeat' (first | (cases h;done) | (obtain⟨_,_,h⟩:=bind_eq h) | split at h)))
  ·rename_i f A;obtain⟨C,g,h⟩:=bind_eq h;split at h;rename_i w;obtain⟨B,i,h⟩:=bind_eq h;cases h;simp only [l9,bne_iff_ne,ne_eq] at w;exact .call A g w.1 w.2 i
   ·repeat' (first | (cases h;done) | (obtain⟨_,_,h⟩:=bind_eq h) | split at h)
  rename_i f A _;obtain⟨_,g,h⟩:=bind_eq h;obtain⟨_,i,h⟩:=bind_eq h;cases h;exact .callv (by assumption) g i;cases h
 | build t parts=>simp only [iA,yQ] at h;repeat' (first | (cases h;done) | split at h)
 | _=>simp only [iA] at h;repeat' (first | (cases h;done) | (obtain⟨_,_,h⟩:=bind_eq h) | split at h)
end
section
variable {P:Program}{G:Mem}{ι:K7}{m:Mem}{w:World}{slots:List Nat}{done:List (Option Nat)}{ls:List o7}{env:T o7}{a:Act}
def Tv (P:Program)(ρ:Operand->Value)(op:Op)(v:Value)(w:World):Prop:=
 ∀(o:Oper),o.op=op->(execOp ρ o).run P w=.ok (.value v) w
theorem gU {r:Nat}{o:Obj}(h:w.heap[r]?=some o)(a:∀c e fz,o≠.cells c e fz):(getObj r).run P w=.ok o w:=by simp only [getObj,Sem.run,h]
theorem LD (f:RM P G ι m w.heap){id:Nat}{es:List (o7×o7)}(d:m.get id=some (.map es)):
  (getObj (ι id).b).run P w=.ok (.map (J5 ι es 0).toArray es.length) w∧∀e∈es,e.1.lt (m.nm ι)∧e.2.lt (m.nm ι):=by
 obtain⟨a,c⟩:=f.blk id _ d;exact⟨gU a (by intro _ _ _ e;cases e),c⟩
def vX (ι:K7)(ok:Bool)(z:o7)(r:Option (Nat×o7)):Value:=match r with
 | some p=>if ok then .tuple #[u6 ι p.2,.bool true] else u6 ι p.2
 | none=>if ok then .tuple #[u6 ι z,.bool false] else u6 ι z
theorem Dt {ok:Bool}{z v:o7}{r:Option (Nat×o7)}(h:found ok z r=some v){n:Nm}(b:z.lt n)(a:∀p,r=some p->p.2.lt n):
  v.lt n∧u6 ι v=vX ι ok z r:=by
 cases r with
 | none=>have h:some (bi ok (.tuple [z,.bool false]) z)=some v:=h;cases h;cases ok<;>simp [bi,o7.lt,bB,u6,z8,b,vX]
 | some p=>have h:some (bi ok (.tuple [p.2,.bool true]) p.2)=some v:=h;cases h;have:=a p rfl;cases ok<;>simp [bi,o7.lt,bB,u6,z8,this,vX]
theorem Ae (w:World){t f e:TypeId}{kk:BJ}{z:o7}(o:P.underlying t=some (.map f e))(m:uT P f=some kk)(I:zeroV P e=some z){ok:Bool}{k v:o7}
  {es:List (o7×o7)} {r:Option (Nat×o7)} {n:Nm} (h:∀e∈es,e.1.lt n∧e.2.lt n) (E:V9 (nA kk) (BP kk) k es=some r) (G:found ok z r=some v):
  v.lt n∧∀x,(x=.map none∧es=[])∨(∃b,x=.map (some b)∧∀w',w'=w->(getObj b).run P w'=.ok (.map (J5 ι es 0).toArray es.length) w')->
   (Instr.lookup t x (u6 ι k) ok).run P w=.ok (u6 ι v) w:=by
 obtain⟨A,⟨y,b,B⟩,d⟩:=kN E;obtain⟨c,i⟩:=ou (w:=w) I ι;obtain⟨u,g⟩:=Dt (ι:=ι) G (i n) (λp F=>by
  subst F;obtain⟨j,s,_,C,D,_⟩:=lV d;rw [← D];exact (h s (Xb C)).2)
 refine⟨u,λx H=>?_⟩;have l:=λq=>EG (ι:=ι) m A B q w;have a:=mE (ι:=ι) m d w;rcases H with⟨rfl,rfl⟩ | ⟨b,rfl,hb⟩;simp only [Instr.lookup,J8,run_underlying o,J2,Z7,l];rw [show Instr.findKey f (u6 ι k) []=Instr.findKey f (u6 ι k) (J5 ι [] 0) from rfl,a];simp only [J2];rw [eH] at d;cases d;simp [nL,c,g,vX];simp only [Instr.lookup,J8,run_underlying o,J2,hb w rfl,Z7,l];rw [a];simp only [J2];cases r with
 | none=>simp [nL,c,g,vX]
 | some p=>simp [nL,g,vX]
theorem EH {β:Type}{b:Option P9}{k:List (o7×o7)->Option β}{r:β}(h:KT b k=some r):∃es,(b=some (.map es)∨b=some (.mapU es))∧k es=some r:=by
 match b,h with
 | some (.map es),h=>exact⟨es,.inl rfl,h⟩
 | some (.mapU es),h=>exact⟨es,.inr rfl,h⟩
def uU (x:MapEntry):Value×Value:=(x.key,x.val)
theorem FU (d:TypeDesc)(k:Value):∀(L M:List MapEntry) (i:Nat),L.map uU=M.map uU->Instr.findNow d k L i=Instr.findNow d k M i
 | [],[],_,_=>rfl
 | [],_ :: _,_,h=>by cases h
 | _ :: _,[],_,h=>by cases h
 | x::L,y::M,i,h=>by simp only [Z5,ad3,uU,ahQ] at h;obtain⟨⟨h1,h2⟩,h3⟩:=h;simp only [Instr.findNow,h1,h2,FU d k L M (i+1) h3]
theorem yF (t:TypeId)(k:Value):∀(L M:List MapEntry) (i:Nat),L.map uU=M.map uU->Instr.findAsking t k L i=Instr.findAsking t k M i
 | [],[],_,_=>rfl
 | [],_ :: _,_,h=>by cases h
 | _ :: _,[],_,h=>by cases h
 | x::L,y::M,i,h=>by simp only [Z5,ad3,uU,ahQ] at h;obtain⟨⟨h1,h2⟩,h3⟩:=h;simp only [Instr.findAsking,h1,h2,yF t k L M (i+1) h3]
theorem FV (t:TypeId)(k:Value){L M:List MapEntry}(h:L.map uU=M.map uU):Instr.findKey t k L=Instr.findKey t k M:=by unfold Instr.findKey;congr 1;funext d;rw [FU d k L M 0 h,yF t k L M 0 h]
theorem Du {α β:Type}(f:α->β):∀{l:List β} {es:List α},l.Perm (es.map f)->∃es':List α,es'.Perm es∧l=es'.map f:=by
 intro l es h;generalize hm:es.map f=m at h;induction h generalizing es with
 | nil=>exact⟨[],by simp at hm;subst hm;exact .nil,rfl⟩
 | cons x h ih=>
  cases es with
  | nil=>cases hm
  | cons e es=>simp only [Z5,ad3] at hm;obtain⟨es',d,g⟩:=ih hm.2;exact⟨e::es',d.cons e,by rw [g,← hm.1];rfl⟩
 | swap x y l=>
  match es,hm with
  | a::b::es,hm=>simp only [Z5,ad3] at hm;exact⟨b::a::es,.swap _ _ _,by rw [← hm.1,← hm.2.1,← hm.2.2];rfl⟩
  | [],hm=>cases hm
  | [_],hm=>simp at hm
 | trans d g ih1 ih2=>obtain⟨i,j,n⟩:=ih2 hm;obtain⟨c,k,o⟩:=ih1 n.symm;exact⟨c,k.trans j,o⟩
theorem yX (ι:K7):∀(es:List (o7×o7)) (i:Nat),(J5 ι es i).map uU=es.map λe=>(u6 ι e.1,u6 ι e.2)
 | [],_=>rfl
 | e::es,i=>by simp [J5,uU,yX ι es]
theorem yY {s:List UInt8}:∀(es:List (o7×o7)) (i:Nat),(∀e∈es,∃t,e.1=.str t)->(∀e∈es,e.1≠.str s)->findKey eqStr (.str s) es i=some none
 | [],_,_,_=>rfl
 | e::es,i,h1,h2=>by obtain⟨t,ht⟩:=h1 e (by simp);have hne:s≠t:=λh=>h2 e (by simp) (by rw [ht,h]);rw [eO,ht];show ob (some (strEq s t)) _=_;rw [iT,beq_eq_false_iff_ne.2 hne];exact yY es (i+1) (λx hx=>h1 x (by simp [hx])) (λx hx=>h2 x (by simp [hx]))
theorem qE {s:List UInt8}{v:o7}:∀(es:List (o7×o7)) (i:Nat),(∀e∈es,∃t,e.1=.str t)->(es.map (·.1)).Nodup->(.str s,v)∈es->∃j,findKey eqStr (.str s) es i=some (some (i+j,v))∧es[j]?=some (.str s,v)
 | [],_,_,_,h=>by cases h
 | e::es,i,h1,h2,h3=>by
  obtain⟨t,ht⟩:=h1 e (by simp);rw [eO,ht];have hq:∀k:Bool->Option (Option (Nat×o7)),ob (eqStr (.str s) (.str t)) k=k (s==t):=λk=>by show k (strEq s t)=_;rw [iT]
  rw [hq];simp only [Z5,ad1] at h2;rcases Y4.1 h3 with h3 | h3;have:s=t:=by rw [← h3] at ht;simpa using ht
  subst this;refine⟨0,?_,by rw [← h3];rfl⟩;rw [beq_self_eq_true,← h3];rfl;have hne:s≠t:=λh=>h2.1 (by rw [ht,← h];exact adP.2 ⟨_,h3,rfl⟩);rw [beq_eq_false_iff_ne.2 hne];obtain⟨j,q1,q2⟩:=qE es (i+1) (λx hx=>h1 x (by simp [hx])) h2.2 h3;exact⟨j+1,by rw [show i+(j+1)=i+1+j from by omega];exact q1,q2⟩
theorem Tw {kk:BJ}{t:TypeId}(c:uT P t=some kk){k:o7}{s:List UInt8}{b:Bool}(h:nA kk k (.str s)=some b):kk=.prim .s∧∃u,k=.str u:=by rcases xG c with⟨rfl,_⟩ | ⟨_,rfl,_⟩ | ⟨rfl,_⟩ | ⟨fs,ks,rfl,_,_⟩;obtain⟨_,_,_,h,_⟩:=iU h;cases h;obtain⟨_,_,_,_,h,_⟩:=oU h;cases h;obtain⟨a,_,h,_⟩:=jS h;exact⟨rfl,a,h⟩;obtain⟨_,_,h⟩:=fH h;obtain⟨_,h,_⟩:=fH h;cases h
theorem adh {kk:BJ}{t:TypeId}(A:uT P t=some kk){k:o7}{es a:List (o7×o7)}(hp:a.Perm es)(i:∀e∈es,∃s,e.1=.str s)(w:(es.map (·.1)).Nodup){r:Option (Nat×o7)}(z:V9 (nA kk) (BP kk) k es=some r):
  ∃r',findKey (nA kk) k a 0=some r'∧r'.map (·.2)=r.map (·.2):=by
 obtain⟨_,_,c⟩:=kN z;cases es with
 | nil=>rw [List.Perm.eq_nil hp];rw [eH] at c;cases c;exact⟨none,eH ..,rfl⟩
 | cons e es=>
  obtain⟨C,o⟩:=i e (by simp);have:∃b,nA kk k (.str C)=some b:=by rw [eO,o] at c;obtain⟨b,n,_⟩:=D5 c;exact⟨b,n⟩
  obtain⟨b,n⟩:=this;obtain⟨rfl,u,rfl⟩:=Tw A n;have f:∀x∈a,∃s,x.1=.str s:=λx d=>i x (hp.mem_iff.1 d);have m:(a.map (·.1)).Nodup:=(hp.map _).nodup_iff.2 w;have c:findKey eqStr (.str u) (e::es) 0=some r:=c;by_cases hin:∃v,(o7.str u,v)∈e::es;obtain⟨v,y⟩:=hin;obtain⟨j,p,_⟩:=qE (e::es) 0 i w y;obtain⟨D,q,_⟩:=qE a 0 f m (hp.mem_iff.2 y);rw [p] at c;cases c;exact⟨_,q,rfl⟩;have g:∀(l:List (o7×o7)),(∀x∈l,x∈e::es)->∀x∈l,x.1≠.str u:=λl B x d h=>hin ⟨x.2,by rw [← h];exact B x d⟩;have p:=yY (e::es) 0 i (g _ λx d=>d);have q:=yY a 0 f (g _ λx d=>hp.mem_iff.1 d);rw [p] at c;cases c;exact⟨none,q,rfl⟩
theorem Vd {ok:Bool}{z:o7}{r a:Option (Nat×o7)}(h:a.map (·.2)=r.map (·.2)):found ok z a=found ok z r:=by
 cases r<;>cases a<;>simp at h
 rfl;rename_i p q;show some (bi ok (o7.tuple [q.2,.bool true]) q.2)=some (bi ok (o7.tuple [p.2,.bool true]) p.2);rw [h]
theorem Jb (w:World){t l e:TypeId}{kk:BJ}{z:o7}(M:P.underlying t=some (.map l e))(f:uT P l=some kk)(N:zeroV P e=some z){ok:Bool}{k v:o7}
  {es:List (o7×o7)} {r:Option (Nat×o7)} {n:Nm} (d:∀e∈es,e.1.lt n∧e.2.lt n) (q:V9 (nA kk) (BP kk) k es=some r) (s:found ok z r=some v)
  {L:List MapEntry} {A b:Nat} (H:UOk ι es L) (hb:(getObj b).run P w=.ok (.map L.toArray A) w):
  v.lt n∧(Instr.lookup t (.map (some b)) (u6 ι k) ok).run P w=.ok (u6 ι v) w:=by
 obtain⟨D,⟨y,m,E⟩,S⟩:=kN q;obtain⟨g,K,J⟩:=H;obtain⟨c,u,O⟩:=Du _ g;obtain⟨R,x,Q⟩:=adh f u K J q;obtain⟨h,i⟩:=ou (w:=w) N ι;rw [← Vd Q] at s;obtain⟨C,o⟩:=Dt (ι:=ι) s (i n) (λp g=>by
  subst g;obtain⟨j,B,_,F,G,_⟩:=lV x;rw [← G];exact (d B (u.mem_iff.1 (Xb F))).2)
 refine⟨C,?_⟩;have I:=λm=>EG (ι:=ι) f D E m w;have a:=mE (ι:=ι) f x w;rw [FV l (u6 ι k) (show (J5 ι c 0).map uU=L.map uU from by rw [yX];exact O.symm)] at a;simp only [Instr.lookup,J8,run_underlying M,J2,hb,Z7,I];rw [a];simp only [J2];cases R with
 | none=>simp [nL,h,o,vX]
 | some p=>simp [nL,o,vX]
theorem En (ts:Array TypeId)(a:TypeId)(l c:Nat)(w:World):(Builtin.unsafeSliceData_ ts a #[.slice none l c]).run P w=.ok (.pointer none) w:=rfl
theorem FW {ts:Array TypeId}{b:TypeId}{a:Addr}{l c:Nat}(h:c≠0)(w:World):(Builtin.unsafeSliceData_ ts b #[.slice (some a) l c]).run P w=.ok (.pointer (some a)) w:=by have e:Builtin.unsafeSliceData_ ts b #[.slice (some a) l c]=(if c≠0 then pure (.pointer (some a)) else do if (← viewAt a.block).isSome then pure (.pointer (some a)) else pure (.pointer (some ⟨← newObj (.view a (← elemOf b)),0,none⟩))):=rfl;rw [e,if_pos h];rfl
theorem Af:∀(l:List o7) (s:List UInt8),byteOf l=some s->∀(acc:ByteArray) (w:World),
  (forIn (z8 ι l) acc (λc (r:ByteArray)=>match c with
   | .int .u8 n=>pure (ForInStep.yield (r.push (UInt8.ofNat n.toNat)))
   | _=>do stuck "bytesToString: byte expected";pure (ForInStep.yield r)):Sem ByteArray).run P w=.ok ⟨acc.data++s.toArray⟩ w
 | [],s,h,acc,w=>by simp [byteOf] at h;subst h;simp [z8]
 | v::l,s,h,acc,w=>by
  cases v<;>try (simp [byteOf] at h;done)
  rename_i k n;cases k<;>try (simp [byteOf] at h;done)
  cases n with
  | negSucc n=>simp [byteOf] at h
  | ofNat n=>
   simp only [byteOf] at h;cases hb:byteOf l with
   | none=>simp [hb] at h
   | some s'=>simp only [hb,Hl] at h;subst h;simp only [z8,u6,aiY,J8,Z7,J2];rw [Af l s' hb];congr 1;simp [ByteArray.push]
theorem nM {x:Value}{m:Mem}(f:RM P G ι m w.heap){id off len c:Nat}(g:x=.slice (some (ι.at id off)) len c){l:List o7}{s:List UInt8}
  (d:aC m id off len=some l) (e:byteOf l=some s):(Conv.bytesToString x).run P w=.ok (u6 ι (.str s)) w:=by
 obtain⟨a,_,b⟩:=kM f d;have h:=qQ (P:=P) b;rw [a] at h;subst g;have:=Af (P:=P) (ι:=ι) l s e ByteArray.empty w;simp only [Conv.bytesToString,J8,h,J2];rw [← ajR]
 erw [this]
 simp [u6,Z7]
theorem Ag (ι:K7):∀(es:List (o7×o7)) (i j:Nat),(J5 ι es j).find? (λe=>e.born==j+i)=(es[i]?).map λe=>{key:=u6 ι e.1,val:=u6 ι e.2,born:=j+i}
 | [],i,j=>by simp [J5]
 | e::es,0,j=>by simp [J5]
 | e::es,i+1,j=>by simp only [J5,List.find?_cons];rw [show (j==j+(i+1))=false from by simp];simp only [abB];have:=Ag ι es i (j+1);rw [show j+1+i=j+(i+1) from by omega] at this;exact this
theorem FX {β:Type}{b:Option P9}{a:Option β}{k:Nat->Nat->List Nat->Option β}{r:β}(h:Jq b a k=some r):
  (∃s l,b=some (.iter none s l)∧a=some r)∨∃mp s l,b=some (.iter (some mp) s l)∧k mp s l=some r:=by
 match b,h with
 | some (.iter none s l),h=>exact .inl ⟨s,l,rfl,h⟩
 | some (.iter (some mp) s l),h=>exact .inr ⟨mp,s,l,rfl,h⟩
theorem FY {ty off:Nat}:∀{l:List (Nat×Nat)},Xp ty off l=true->(ty,off)∈l
 | [],h=>by cases h
 | p::l,h=>by
  have h:bi (Nat.beq p.1 ty) (bi (Nat.beq p.2 off) true (Xp ty off l)) (Xp ty off l)=true:=h;cases h1:Nat.beq p.1 ty with
  | false=>rw [h1] at h;exact Z4 _ (FY h)
  | true=>
   rw [h1] at h;cases h2:Nat.beq p.2 off with
   | false=>rw [h2] at h;exact Z4 _ (FY h)
   | true=>rw [← q9 h1,← q9 h2];exact ab1
theorem Rt {u c off:Nat}(h:(c,off)∈Og P u):P.cellsOf c≠0∧liesAt P P.depth c 1 off u 1=true:=by unfold Og at h;obtain⟨t,_,h⟩:=List.mem_flatMap.1 h;split at h;rename_i a;simp only [l9,bne_iff_ne,ne_eq] at a;rcases aau.1 h with h | h;split at h;rename_i b;simp only [aA,ahQ] at h;obtain⟨rfl,rfl⟩:=h;exact⟨a.2,b⟩;simp at h;split at h;obtain⟨f,_,h⟩:=List.mem_flatMap.1 h;split at h;rename_i b;simp only [aA,ahQ] at h;obtain⟨rfl,rfl⟩:=h;exact⟨a.2,b.2⟩;simp at h;simp at h;simp at h
theorem tQ (s:St P ι (m.nm ι) slots done ls env a.tmps)(H:RM P G ι m w.heap){op:Op}{ro:QV}(h:qR P slots done op ro){v:o7}(C:tC ro ls env m=some v):
  v.lt (m.nm ι)∧Tv P a.eval op (u6 ι v) w:=by
 cases h with
 | @load t x sz x' f p=>
  obtain⟨q,_⟩:=A9 s p;have key:∀id off,G9 x' ls env=.ptr id off->P6 (m.get id) (λrs n D=>match sz with | none=>cell1 rs n D off | some k=>ob (gK rs n D off k) λl=>some (.agg l))=some v->
    v.lt (m.nm ι)∧Tv P a.eval (.load t x) (u6 ι v) w:=by
   intro id off d E;obtain⟨K,M⟩:=yD f H E;refine⟨M,λo g=>?_⟩;simp [execOp,g,q,d,u6,Instr.loadAt,Instr.sureAddr,K]
  cases sz with
  | none=>obtain⟨id,off,d,E⟩:=fG C;exact key id off d E
  | some k=>obtain⟨id,off,d,E⟩:=fG C;exact key id off d E
 | @look t kt e kk z ok x k x' k' hu hk hz d hkk=>
  obtain⟨q,a8⟩:=A9 s d;obtain⟨I,_⟩:=A9 s hkk;rcases xE C with⟨d,h⟩ | ⟨id,d,h⟩;obtain⟨r,B,F⟩:=D5 h;obtain⟨K,M⟩:=Ae (ι:=ι) w hu hk hz (n:=(m.nm ι)) (by simp) B F;refine⟨K,λo g=>?_⟩;have:=M (.map none) (.inl ⟨rfl,rfl⟩);have d:G9 x' ls env=.nilMap:=d;simp [execOp,g,q,d,u6,I,this]
  ·obtain⟨es,f | f,p⟩:=EH h
   case inr=>obtain⟨r,B,F⟩:=D5 p;obtain⟨L,ck,Y,Z,c3⟩:=H.blk id _ f;obtain⟨K,M⟩:=Jb (ι:=ι) w hu hk hz c3 B F Z (gU Y (by intro _ _ _ e;cases e));refine⟨K,λo g=>?_⟩;have d:G9 x' ls env=.map id:=d;simp [execOp,g,q,d,u6,I,M]
   obtain⟨r,B,F⟩:=D5 p;obtain⟨o1,o2⟩:=LD H f;obtain⟨K,M⟩:=Ae (ι:=ι) w hu hk hz o2 B F;refine⟨K,λo g=>?_⟩;have:=M (.map (some (ι id).b)) (.inr ⟨_,rfl,λw' hw=>by subst hw;exact o1⟩);have d:G9 x' ls env=.map id:=d;simp [execOp,g,q,d,u6,I,this]
 | @lenM c t kt e x x' E A y hu d=>
  obtain⟨q,_⟩:=A9 s d;have A:c.argTypes=#[t]:=by rw [← A,aaw]
  have y:c.args=#[x]:=by rw [← y,aaw]
  rcases xE C with⟨d,h⟩ | ⟨id,d,h⟩;cases h;have d:G9 x' ls env=.nilMap:=d;exact⟨by simp [o7.lt],λo g=>by simp [execOp,g,resolve,E,y,A,invoke,builtin,Builtin.len_,run_underlying hu,q,d,u6,goInt]⟩;obtain⟨es,f,p⟩:=Ce h;obtain⟨o1,o2⟩:=LD H f;cases p;have d:G9 x' ls env=.map id:=d;exact⟨by simp [o7.lt],λo g=>by simp [execOp,g,resolve,E,y,A,invoke,builtin,Builtin.len_,run_underlying hu,q,d,u6,goInt,o1]⟩
 | @bytesStr t b e x x' f p B d=>obtain⟨q,_⟩:=A9 s d;rcases tJ C with⟨d,h⟩ | ⟨id,off,len,cap,d,h⟩ | ⟨id,off,len,cap,d,h⟩;cases h;have d:G9 x' ls env=.nilSlice:=d;refine⟨by simp [o7.lt],λo g=>?_⟩;simp [execOp,g,q,d,u6,convert,run_underlying f,run_underlying p,run_underlying B,Conv.bytesToString];rfl;obtain⟨l,F,h⟩:=D5 h;obtain⟨a7,h5,h⟩:=D5 h;cases h;have d:G9 x' ls env=.slice id off len cap:=d;have:=nM H (x:=a.eval x) (by rw [q,d];rfl) F h5;refine⟨by simp [o7.lt],λo g=>?_⟩;rw [q,d] at this;simp only [u6] at this;simp [execOp,g,q,d,u6,convert,run_underlying f,run_underlying p,run_underlying B,this];obtain⟨l,F,h⟩:=D5 h;obtain⟨a7,h5,h⟩:=D5 h;cases h;have d:G9 x' ls env=.sliceU id off len cap:=d;have:=nM H (x:=a.eval x) (by rw [q,d];rfl) F h5;refine⟨by simp [o7.lt],λo g=>?_⟩;rw [q,d] at this;simp only [u6] at this;simp [execOp,g,q,d,u6,convert,run_underlying f,run_underlying p,run_underlying B,this]
 | @slData c t e x x' E A y hu d=>
  obtain⟨q,I⟩:=A9 s d;have A:c.argTypes=#[t]:=by rw [← A,aaw]
  have y:c.args=#[x]:=by rw [← y,aaw]
  rcases tJ C with⟨f,p⟩ | ⟨id,off,len,cap,f,p⟩ | ⟨id,off,len,es,f,p⟩;have f:G9 x' ls env=.nilSlice:=f;cases p;exact⟨trivial,λo g=>by simp [execOp,g,resolve,E,y,A,invoke,builtin,En,q,f,u6]⟩;have f:G9 x' ls env=.slice id off len cap:=f;obtain⟨B,p⟩:=D8 p;cases p;have B:0<cap:=Eq.mp Y3 B;rw [f] at I;exact⟨I,λo g=>by simp [execOp,g,resolve,E,y,A,invoke,builtin,FW (Nat.ne_of_gt B),q,f,u6]⟩;have f:G9 x' ls env=.sliceU id off len es:=f;obtain⟨B,p⟩:=D8 p;cases p;have B:0<len:=Eq.mp Y3 B;rw [f] at I;obtain⟨W,q2,X⟩:=I;have X:off+len*es<=(ι id).cap:=X;have a1:((ι id).cap-off) / es≠0:=by
   have:1<=((ι id).cap-off) / es:=(adW q2).2 (by
    have:1*es<=len*es:=aas _ B;omega)
   omega
  refine⟨W,λo g=>?_⟩;simp [execOp,g,resolve,E,y,A,invoke,builtin,FW a1,q,f,u6]
 | @toUns a' b' t x x' k ha hb hs hk d=>
  obtain⟨q,I⟩:=A9 s d
  change tu (G9 x') ls env m=some v at C
  unfold tu at C;split at C;rename_i f;cases C;exact⟨trivial,λo g=>by simp [execOp,g,q,f,u6,convert,run_underlying ha,run_underlying hb,Conv.unsafePointer]⟩;rename_i id off f;obtain⟨rs,n,D,S,h⟩:=eu C;obtain⟨p,h⟩:=D8 h;cases h;have p:off<n*rs:=Eq.mp Y3 p;obtain⟨c,e,fz,W,q2,⟨X,_⟩,_⟩:=H.blk id _ S;obtain⟨j,hj,T⟩:=abr.1 hs;refine⟨⟨_,S,rfl⟩,λo g=>?_⟩;have:=Lib.run_to_unsafe (P:=P) w (ι.at id off) ha hb hj (by rw [T];exact hk) (e:=e) (cells:=c.size) (by simp [World.shape?,K7.at,W]) (by show (ι id).base+off<c.size;omega);simp [execOp,g,q,f,u6,this];cases C
 | @fromUns a' b' u x x' k ha hb hs hk d=>
  obtain⟨q,I⟩:=A9 s d
  change kG (Og P u) (G9 x') ls env m=some v at C
  unfold kG at C;split at C;rename_i f;cases C;exact⟨trivial,λo g=>by simp [execOp,g,q,f,u6,convert,run_underlying ha,run_underlying hb,Conv.unsafePointer]⟩;rename_i id off f;obtain⟨rs,n,D,S,h⟩:=eu C;obtain⟨p,h⟩:=D8 h;obtain⟨ty,B,h⟩:=D5 h;obtain⟨F,h⟩:=D8 h;cases h;obtain rfl:n=1:=q9 p;obtain⟨c,e,fz,W,q2,⟨X,N,_,_,V⟩,_⟩:=H.blk id _ S;obtain⟨rfl,a0,a6⟩:=V ty rfl B;obtain⟨U,R⟩:=Rt (FY F);obtain⟨j,hj,T⟩:=abr.1 hs;refine⟨⟨_,S,rfl⟩,λo g=>?_⟩;have:=Lib.run_from_unsafe (P:=P) w (ι.at id off) ha hb hj (e:=e) (cells:=c.size) (by simp [World.shape?,K7.at,W]) (by
   rw [a6,Nat.div_self (ahB U)];show liesAt P P.depth e 1 ((ι id).base+off) u 1=true;rw [a0,Z9];exact R)
  simp [execOp,g,q,f,u6,this];cases C
 | @entry x x' d=>
  obtain⟨q,_⟩:=A9 s d;obtain⟨id,off,d,h⟩:=fG C;have d:G9 x' ls env=.ptr id off:=d;obtain⟨h0,h⟩:=D8 h;obtain rfl:off=0:=q9 h0;rcases FX h with⟨_,_,_,h⟩ | ⟨mp,since,seen,J,h⟩;cases h;cases seen with
  | nil=>cases h
  | cons i seen=>
   have h:QW (m.get mp) (λes=>bi (Nat.beq (len' es) since) (ob (nO i es) λe=>some (.tuple [e.1,e.2])) none)=some v:=h;obtain⟨es,a2,h⟩:=Ce h;obtain⟨f,h⟩:=D8 h;have f:=q9 f;rw [I9] at f;obtain⟨e,p,h⟩:=D5 h;rw [jN] at p;cases h;obtain⟨b1,b2,sn,st,b3,b4,b5⟩:=H.blk id _ J;have a4:=H.spot id _ J rfl;obtain⟨Y,Z⟩:=LD H a2;have he:=Z e (Xb p);refine⟨by simp [o7.lt,bB,he],λo g=>?_⟩;have a5:st=since:=b5 (by simp);have O:sn.back?=some i:=by have:=congrArg List.head? b4;simpa [List.head?_reverse] using this
   have Q:(J5 ι es 0).toArray.find? (λe=>e.born==i)=some {key:=u6 ι e.1,val:=u6 ι e.2,born:=i}:=by have:=Ag ι es i 0;rw [p] at this;simpa using this
   have J:=gU (P:=P) b3 (by intro _ _ _ e;cases e);have a3:a.eval x=.pointer (some ⟨(ι id).b,0,none⟩):=by rw [q,d];simp [u6,K7.at,b1,a4]
   simp [execOp,g,a3,Instr.entry,J,O,Y,a5,f,Q,u6,z8]
end
section
variable {P:Program}{G:Mem}{ι:K7}{n:Nm}{slots:List Nat}{done:List (Option Nat)}{ls:List o7}{env:T o7}{a:Act}
theorem Oz (rs:Nat)(l:List o7)(r:List (List o7))(h:rowsOf rs 0 l=some r):l=[]∧r=[]:=by
 cases l with
 | nil=>cases h;exact⟨rfl,rfl⟩
 | cons=>cases h
theorem OA (rs k:Nat)(l:List o7):rowsOf rs (k+1) l=ob (takeN rs l) λr=>ob (rowsOf rs k (kF rs l)) λrest=>some (r::rest):=rfl
theorem iX (rs:Nat):∀(k:Nat) (l:List o7) (r:List (List o7)),rowsOf rs k l=some r->
  l.length=k*rs∧r.length=k∧∀i,i<k->∃row,r[i]?=some row∧row.length=rs∧∀j,j<rs->row[j]?=l[i*rs+j]?:=by
 intro k;induction k with
 | zero=>intro l r h;obtain⟨rfl,rfl⟩:=Oz rs l r h;simp
 | succ k ih=>
  intro l r h;rw [OA] at h;obtain⟨x,n,h⟩:=D5 h;obtain⟨y,b,h⟩:=D5 h;cases h;obtain⟨rfl,p⟩:=lQ _ _ _ n;rw [jE] at b;obtain⟨f,g,m⟩:=ih _ _ b;rw [aht] at f;refine⟨by rw [abF];omega,by simp [g],λi o=>?_⟩;cases i with
  | zero=>exact⟨_,rfl,by simp;omega,λj a=>by simp [a]⟩
  | succ i=>obtain⟨row,c,d,e⟩:=m i (by omega);refine⟨row,by simpa using c,d,λj a=>?_⟩;rw [e j a,afx];congr 1;rw [abF];omega
theorem OB {h:Array Obj}{l:Loc}{es k:Nat}{cells:List o7}{d:List (List o7)}(B:rowsOf es k cells=some d){c:Array Value}{e:TypeId}{p:Nat×Nat}
  (A:h[l.b]?=some (Obj.cells c e p)) (h0:l.base=0) (D:l.cap=c.size) (m:bB n cells) (f:∀(j:Nat) (v:o7),cells[j]?=some v->c[j]?=some (u6 ι v)) (u:cells.length<=c.size):
  dN P ι n h l (.cells es k (T.ofList d)):=by
 obtain⟨x,y,z⟩:=iX _ _ _ _ B;refine⟨c,e,p,A,by omega,⟨by omega,d.length,by omega,T.fO d,by rw [← y];exact vQ (T.fO d)⟩,λi t=>?_⟩;obtain⟨o,w,q,r⟩:=z i t;refine⟨o,by rw [T.au];exact w,q,dR.2 λv C=>?_,λj a=>?_⟩;obtain⟨j,a⟩:=aax C;have g:j<es:=afA (y8.1 a).1 q;rw [r j g] at a;exact P5 m (Xb a);rw [r j a,h0,Z9];have s:i*es+j<cells.length:=by
  rw [x]
  calc i*es+j<i*es+es:=by omega
   _=(i+1)*es:=by rw [abF]
   _<=k*es:=aas _ t
 rw [y7 s];exact f _ _ (y7 s)
theorem XM {h:Array Obj}{l:Loc}{cs:List o7}{e:TypeId}{c:Nat×Nat}
  (d:h[l.b]?=some (.cells (z8 ι cs).toArray e c)) (h0:l.base=0) (f:l.cap=cs.length) (a:bB n cs):dN P ι n h l (o9 cs):=by
 refine⟨_,e,c,d,by simp;omega,⟨by simp;omega,1,aP 1,.nd .e .e,vQ (.nd .e .e)⟩,λi g=>?_⟩;obtain rfl:i=0:=by omega
 refine⟨cs,rfl,(I9 cs).symm,a,λj k=>?_⟩;rw [h0];simp [aX]
theorem Ve {h:Array Obj}{l:Loc}{cs:List o7}{e:TypeId}{f:Nat×Nat}
  (g:h[l.b]?=some (.cells (z8 ι cs).toArray e f)) (h0:l.base=0) (k:l.cap=cs.length) (a:bB n cs) (c:cs.length=P.cellsOf e):dN P ι n h l (fJ e cs):=by
 refine⟨_,e,f,g,by simp;omega,⟨by simp;omega,2,by omega,.nd (.nd .e .e) .e,λty _ d=>?_⟩,λi m=>?_⟩;have d:some e=some ty:=d;cases d;exact⟨rfl,h0,by simpa using c⟩;obtain rfl:i=0:=by omega
 refine⟨cs,rfl,(I9 cs).symm,a,λj o=>?_⟩;rw [h0];simp [aX]
theorem Cg {nid:Nat}{l:Loc}{cs:List o7}(b:¬ n nid)(h:bB n cs):z8 (ι.upd nid l) cs=z8 ι cs:=
 gD (n:=n) (λi a=>ι.upd_ne l (λe=>b (by subst e;exact a))) cs h
theorem OC {nid:Nat}{l:Loc}{v:o7}(b:¬ n nid)(h:v.lt n):u6 (ι.upd nid l) v=u6 ι v:=
 U0 (n:=n) (λi a=>ι.upd_ne l (λe=>b (by subst e;exact a))) v h
structure Makes (P:Program)(ι:K7)(n:Nm)(ρ:Operand->Value)(op:Op)(nid:Nat)(v:o7)(b:P9)(w:World)(l:Loc)(obj:Obj)(w':World):Prop where
 loc:l.b=w.heap.size
 spot:l.spot=none
 run:∀o:Oper,o.op=op->(execOp ρ o).run P w=.ok (.value (u6 (ι.upd nid l) v)) w'
 grew:XH w w' obj
 live:dO b=false
 free:∀c e fz,obj=.cells c e fz->∀k,k<c.size->¬ (fz.1<=k∧k<fz.2)
 blk:∀n':Nm,n.le n'->n' nid->n'.cap nid=l.cap->dN P (ι.upd nid l) n' (w.heap.push obj) l b∧v.lt n'
inductive oW (P:Program)(ι:K7)(n:Nm)(ρ:Operand->Value)(op:Op)(nid:Nat)(w:World):o7×Option P9->Prop
 | none {v}:v.lt n->Gives P ρ op (u6 ι v)->oW P ι n ρ op nid w (v,none)
 | made {v b} (l:Loc) (obj:Obj) (w':World):Makes P ι n ρ op nid v b w l obj w'->oW P ι n ρ op nid w (v,some b)
 | tail {v p} (l:Loc):n p->(l.cap=0∨(l.b=(ι p).b∧l.base+l.cap<=(ι p).base+(ι p).cap∧((ι p).spot=none->l.spot=none)))->Gives P ρ op (u6 (ι.upd nid l) v)->(∀n':Nm,n.le n'->n' nid->n'.cap nid=l.cap->v.lt n')->
   oW P ι n ρ op nid w (v,some (.tail p))
theorem eB {w:World}{o:Obj}:(w.heap.push o)[w.heap.size]?=some o:=by simp
theorem JC {g:Op}{nid:Nat}{w:World}{cs:List o7}(j:¬ n nid)(b:bB n cs){e:TypeId}
  (d:∀o:Oper,o.op=g->(execOp a.eval o).run P w=.ok (.value (.pointer (some ⟨w.heap.size,0,none⟩))) {w with heap:=w.heap.push (.cells (z8 ι cs).toArray e)}):
  oW P ι n a.eval g nid w (.ptr nid 0,some (o9 cs)):=by
 refine .made ⟨w.heap.size,0,cs.length,none⟩ (.cells (z8 ι cs).toArray e) {w with heap:=w.heap.push (.cells (z8 ι cs).toArray e)} ⟨rfl,rfl,λo m=>?_,⟨rfl,rfl,rfl,rfl⟩,rfl,λc p q h k r=>?_,λs i f _=>⟨?_,f⟩⟩;rw [d o m];simp [u6,K7.at];cases h;simp;rw [← Cg (l:=⟨w.heap.size,0,cs.length,none⟩) j b];exact XM eB rfl rfl (eF i _ b)
theorem FZ {i:Op}{nid:Nat}{w:World}{cs:List o7}(m:¬ n nid)(b:bB n cs){e:TypeId}(g:cs.length=P.cellsOf e)
  (d:∀o:Oper,o.op=i->(execOp a.eval o).run P w=.ok (.value (.pointer (some ⟨w.heap.size,0,none⟩))) {w with heap:=w.heap.push (.cells (z8 ι cs).toArray e)}):
  oW P ι n a.eval i nid w (.ptr nid 0,some (fJ e cs)):=by
 refine .made ⟨w.heap.size,0,cs.length,none⟩ (.cells (z8 ι cs).toArray e) {w with heap:=w.heap.push (.cells (z8 ι cs).toArray e)} ⟨rfl,rfl,λo p=>?_,⟨rfl,rfl,rfl,rfl⟩,rfl,λc q r h k s=>?_,λt j f _=>⟨?_,f⟩⟩;rw [d o p];simp [u6,K7.at];cases h;simp;rw [← Cg (l:=⟨w.heap.size,0,cs.length,none⟩) m b];exact Ve eB rfl rfl (eF j _ b) g
theorem eZ (e:TypeId)(cs:Array Value)(w:World):(newRow e cs).run P w=.ok ⟨w.heap.size,0,none⟩ {w with heap:=w.heap.push (.cells cs e)}:=by simp [newRow,newObj,Sem.run]
theorem tV (z:List o7)(k:Nat):U7 z (k+1)=z++U7 z k:=by show aJ z (U7 z k)=_;rw [P8]
theorem Ah (z:List o7):U7 z 0=[]:=rfl
theorem fP (z:List o7):∀k,(U7 z k).length=k*z.length
 | 0=>by simp [Ah]
 | k+1=>by rw [tV,J9,fP z k,abF];omega
theorem tX {z:List o7}(h:bB n z):∀k,bB n (U7 z k)
 | 0=>trivial
 | k+1=>by rw [tV,dR];intro v hv;rcases aau.1 hv with hv | hv;exact P5 h hv;exact P5 (tX h k) hv
theorem vY (z:List o7):∀(k i:Nat),i<k*z.length->(U7 z k)[i]?=z[i%z.length]?
 | 0,i,h=>by simp at h
 | k+1,i,h=>by rw [tV];by_cases hi:i<z.length;rw [aan hi,ahu hi];have hi:z.length<=i:=adN hi;rw [aaC hi,vY z k _ (by rw [abF] at h;omega),← Nat.mod_eq_sub_mod hi]
theorem Ga (z:List o7)(k:Nat):(Array.range (k*z.length)).map (λi=>(z8 ι z).toArray[i%(z8 ι z).toArray.size]!)=(z8 ι (U7 z k)).toArray:=by
 apply Array.ext;simp [fP];intro i d f;have a:i<k*z.length:=by simpa using d
 have j:0<z.length:=ahB λe=>by rw [e] at a;simp at a
 have c:i%z.length<z.length:=aiW _ j;have g:=vY z k i a;rw [Array.getElem_map,Array.getElem_range];have h:(z8 ι (U7 z k))[i]?=some (z8 ι z)[i%z.length]!:=by rw [aX,g,y7 c];simp [bQ,c]
 have b:(z8 ι (U7 z k)).toArray[i]?=some ((z8 ι z).toArray[i%(z8 ι z).toArray.size]!):=by simpa using h
 rw [aav f] at b;exact (Y5 b).symm
theorem XO {g:Op}{nid:Nat}{w:World}{cells:List o7}(q:¬ n nid)(b:bB n cells){e:TypeId}{es k len:Nat}{i:List (List o7)}(s:rowsOf es k cells=some i)
  (d:∀o:Oper,o.op=g->(execOp a.eval o).run P w=.ok (.value (.slice (some ⟨w.heap.size,0,none⟩) len k)) {w with heap:=w.heap.push (.cells (z8 ι cells).toArray e)}):
  oW P ι n a.eval g nid w (.slice nid 0 len k,some (.cells es k (T.ofList i))):=by
 refine .made ⟨w.heap.size,0,cells.length,none⟩ (.cells (z8 ι cells).toArray e) {w with heap:=w.heap.push (.cells (z8 ι cells).toArray e)} ⟨rfl,rfl,λo r=>?_,⟨rfl,rfl,rfl,rfl⟩,rfl,λc t u h k x=>?_,λy p f _=>⟨?_,f⟩⟩;rw [d o r];simp [u6,K7.at];cases h;simp;rw [← Cg (l:=⟨w.heap.size,0,cells.length,none⟩) q b];exact OB s eB rfl (by simp) (eF p _ b) (λj v m=>by simp [aX,m]) (by simp)
theorem ow {t:TypeId}{z:List o7}(h:Ej P t=some z):rM P t=some z∧aY P t=some z.length:=by simp only [Ej] at h;split at h;split at h;cases h;rename_i a b c;exact⟨b,by rw [a,c]⟩;cases h;cases h
theorem yZ {t:TypeId}{k:Nat}(h:aY P t=some k):P.cellsOf t=k:=by unfold aY at h;unfold Program.cellsOf;rw [h];rfl
theorem run_askRoom (k:Nat)(w:World):(askRoom k).run P w=.ok () w:=by unfold askRoom;split<;>simp [mark,Sem.run]
theorem Ai (e:TypeId)(c:Array Value)(hp:Array Obj)(w:World):
  (markStringish ⟨hp.size,0,none⟩).run P {w with heap:=hp.push (.cells c e)}=.ok () {w with heap:=hp.push (.cells c e (c.size,c.size+1))}:=by
 simp only [markStringish,J8,run_shape,World.shape?,J2];have d:∀(f:Obj->Obj),(hp.push (.cells c e)).modify hp.size f=hp.push (f (.cells c e)):=by
  intro f;apply Array.ext;simp;intro i a b;rw [Array.getElem_modify];simp only [Array.size_push,Array.size_modify] at a b;by_cases h:hp.size=i;subst h;simp;have:i<hp.size:=by omega
  simp [h,Array.getElem_push_lt this]
 simp [World.freeze,d]
theorem tY (s:St P ι n slots done ls env a.tmps)(D:∀i,n i->n.cap i=(ι i).cap){nid:Nat}(hn:¬ n nid){op:Op}{lo:UJ}(h:nE P slots done op lo){r:o7×Option P9}(y:yj lo ls env nid=some r)(w:World):
  oW P ι n a.eval op nid w r:=by
 cases h with
 | @alloc t z V=>cases y;obtain⟨v,J,Q,h3⟩:=dZ (w:=w) V ι;exact JC (e:=t) hn (h3 n) λo A=>by simp [execOp,A,Instr.alloc,J,newVar,eZ,Q]
 | @box t x x' hx=>cases y;obtain⟨S,e2⟩:=A9 s hx;exact JC (e:=t) hn (vN e2) λo A=>by simp [execOp,A,Instr.box,S,newVar,eZ,lS]
 | @allocT t z V=>cases y;obtain⟨V,N⟩:=ow V;obtain⟨v,J,Q,h3⟩:=dZ (w:=w) V ι;exact FZ (e:=t) hn (h3 n) (yZ N).symm λo A=>by simp [execOp,A,Instr.alloc,J,newVar,eZ,Q]
 | @boxT t k x x' hk hx=>
  obtain⟨J,y⟩:=D8 y;cases y;obtain⟨S,e2⟩:=A9 s hx;have J:(G9 x' ls env).cells.length=k:=by rw [← I9];exact q9 J
  exact FZ (e:=t) hn (vN e2) (by rw [yZ hk];exact J) λo A=>by simp [execOp,A,Instr.box,S,newVar,eZ,lS]
 | @mkMap t=>cases y;refine .made ⟨w.heap.size,0,0,none⟩ (.map #[] 0) {w with heap:=w.heap.push (.map #[] 0)} ⟨rfl,rfl,λo A=>?_,⟨rfl,rfl,rfl,rfl⟩,rfl,(λc e' fz h=>by cases h),λn' hm C _=>⟨⟨?_,by simp⟩,C⟩⟩;simp [execOp,A,Instr.makeMap,u6,newObj,Sem.run];simp [J5]
 | @mkMapN t k m kt e hu=>cases y;refine .made ⟨w.heap.size,0,0,none⟩ (.map #[] 0) {w with heap:=w.heap.push (.map #[] 0)} ⟨rfl,rfl,λo A=>?_,⟨rfl,rfl,rfl,rfl⟩,rfl,(λc e' fz h=>by cases h),λn' hm C _=>⟨⟨?_,by simp⟩,C⟩⟩;simp [execOp,A,Instr.makeMap,u6,newObj,Sem.run,run_underlying hu,Act.eval,asInt,asIntOf];simp [J5]
 | @buildSlice t len parts e es ps z hu hes hps a2 V=>
  obtain⟨cells,J,y⟩:=D5 y;obtain⟨rl,Q,y⟩:=D5 y;cases y;obtain⟨v,a3,a4,W⟩:=dZ (P:=P) (w:=w) V ι;obtain⟨g,O,g3⟩:=Cc s _ parts.toList ps hps _ cells (tX (W n) len) J;obtain⟨r1,_,_⟩:=iX _ _ _ _ Q;rw [fP] at g3;have a0:(parts.map λp=>(p.1,a.eval p.2)).toList=parts.toList.map λp=>(p.1,a.eval p.2):=by simp
  refine XO (e:=e) hn O Q λo A=>?_
  have ae:¬ len*es>2^24:=by have:(2:Nat)^24=16777216:=rfl
                            omega
  simp only [execOp,A,Instr.buildSlice,J8,run_underlying hu,J2,run_sizeOf hes,if_neg ae,Z7];have Y:∀Z:Array Value,(len*es=0∨Z=(z8 ι z).toArray)->(Array.range (len*es)).map (λi=>Z[i%Z.size]!)=(z8 ι (U7 z len)).toArray:=by
   intro Z hZ;by_cases M:len*es=0;have:U7 z len=[]:=agF (by rw [fP];omega);rw [this,M];simp [z8];rcases hZ with h | rfl;exact absurd h M;have hm:len*z.length=len*es:=by omega
   have hp:0<len:=ahB λe=>M (by rw [e,adR]);have ah:z.length=es:=Nat.eq_of_mul_eq_mul_left hp hm;rw [← ah];exact Ga z len
  by_cases M:len*es=0;rw [if_pos M];simp only [J8,Z7,J2,a0,Y #[] (.inl M),g];simp [eZ];rw [if_neg M];simp only [J8,a3,Z7,J2,a0,a4,Y _ (.inr rfl),g];simp [eZ]
 | @mkSlice t l c e es by' z l' c' hu hes hby V hl I=>
  obtain⟨ag,a7⟩:=ow V;rw [hes] at a7;cases a7;obtain⟨i,len,J,y⟩:=gT y;obtain⟨j,cap,Q,y⟩:=gT y;obtain⟨g,y⟩:=D8 y;obtain⟨O,y⟩:=D8 y;obtain⟨g3,y⟩:=D8 y;cases y;have g:len<=cap:=U9 g;have O:by'*cap<=281474976710656:=U9 O;have g3:cap<9223372036854775808:=Eq.mp Y3 g3;have J:G9 l' ls env=.int i (len:Int):=J;have Q:G9 c' ls env=.int j (cap:Int):=Q;obtain⟨S,_⟩:=A9 s hl;obtain⟨e2,_⟩:=A9 s I;obtain⟨aj,aa,ab⟩:=xD (w:=w) hby;obtain⟨v,a3,a4,W⟩:=dZ (P:=P) (w:=w) ag ι;have L:=fP z cap;have B:∀o:Oper,o.op=.makeSlice t l c->(execOp a.eval o).run P w=.ok (.value (.slice (some ⟨w.heap.size,0,none⟩) len cap)) {w with heap:=w.heap.push (.cells (z8 ι (U7 z cap)).toArray e)}:=by
   intro o A;have w1:IntKind.i64.wrap (len:Int)=len:=zY _ ⟨by omega,by omega⟩;have w2:IntKind.i64.wrap (cap:Int)=cap:=zY _ ⟨by omega,by omega⟩;have a5:¬ ((by':Int)*(cap:Int)>2^48):=by have:((by'*cap:Nat):Int)=(by':Int)*(cap:Int):=(by simp);rw [← this];have a8:(2:Int)^48=281474976710656:=rfl;rw [a8];omega
   simp only [execOp,A,Instr.makeSlice,J8,run_underlying hu,J2,S,e2,J,Q,u6,asInt,asIntOf,Z7,aa,ab,w1,w2];rw [if_neg (by simp only [aa2,decide_eq_true_eq,not_or];exact⟨⟨⟨by omega,a5⟩,by omega⟩,by omega⟩)];simp only [J8,run_askRoom,J2,run_sizeOf hes,aj4];by_cases M:cap*z.length=0;have a6:U7 z cap=[]:=agF (by rw [L];exact M);have af:∀f:Nat->Value,(Array.range 0).map f=#[]:=by intro f;simp
   simp only [J8,Z7,J2,M,a6,if_true,af];simp [eZ,z8];have hk:=Ga (ι:=ι) z cap;simp only [if_neg M,J8,Z7,J2,a3,a4,hk];simp [eZ]
  refine .made ⟨w.heap.size,0,(U7 z cap).length,none⟩ (.cells (z8 ι (U7 z cap)).toArray e) {w with heap:=w.heap.push (.cells (z8 ι (U7 z cap)).toArray e)} ⟨rfl,rfl,λo A=>?_,⟨rfl,rfl,rfl,rfl⟩,rfl,λc e' fz h k hk=>?_,λn' hm C _=>⟨?_,C⟩⟩;rw [B o A];simp [u6,K7.at];cases h;simp;refine⟨_,_,_,eB,by simp,⟨by simp [L],cap,aP _,by simpa using T.Rj z cap .e 0 .e,vQ (by simpa using T.Rj z cap .e 0 .e)⟩,λi hi=>⟨z,?_,rfl,W _,λj hj=>?_⟩⟩;rw [T.Tq _ _ _ _ T.Ok.e];simp [hi];have hb:i*z.length+j<cap*z.length:=by
   calc i*z.length+j<i*z.length+z.length:=by omega
    _=(i+1)*z.length:=by rw [abF]
    _<=cap*z.length:=aas _ hi
  rw [Z9,adL,aX,vY _ _ _ hb];rw [show (i*z.length+j)%z.length=j from by rw [adV,amf,ahu hj]];rw [y7 hj];simp [OC (l:=⟨w.heap.size,0,(U7 z cap).length,none⟩) hn (P5 (W n) (abD hj))]
 | @strBytes t u e x x' J Q h3 hx=>
  obtain⟨str,h4,y⟩:=jg y;obtain⟨rl,h5,y⟩:=D5 y;cases y;have h4:G9 x' ls env=.str str:=h4;obtain⟨S,_⟩:=A9 s hx;have U:∀l:List UInt8,bytesOf l=l.map λb=>o7.int .u8 b.toNat:=by
   intro l;induction l with
   | nil=>rfl
   | cons b l ih=>simp [bytesOf,ih]
  rw [I9] at *;generalize F:str.length+w.tape w.drawn (.appendCap str.length 0 e)%(2^63-str.length)=cap;have a2:str.length<=cap:=by omega
  let cells:Array Value:=(z8 ι (bytesOf str)).toArray++Array.replicate (cap-str.length) (.int .u8 0)
  have N:cells.size=cap:=by simp [cells,U];omega
  have H:bB n (bytesOf str):=by rw [U,dR];intro v y;obtain⟨b,_,rfl⟩:=adP.1 y;simp [o7.lt]
  have B:∀o:Oper,o.op=.convert t u x->(execOp a.eval o).run P w =
    .ok (.value (.slice (some ⟨w.heap.size,0,none⟩) str.length cap)) {w with heap:=w.heap.push (.cells cells e (cap,cap+1)),drawn:=w.drawn+1}:=by
   intro o A;simp only [execOp,A,J8,convert,run_underlying J,run_underlying Q,run_underlying h3,J2,S,h4,u6,Conv.stringToBytes];rw [run_choose];simp only [Question.forced,Xd,if_false,J2,Question.cut,oQ,F];have I:(⟨str.toArray⟩:ByteArray).data.map (λb=>Value.int .u8 b.toNat)++Array.replicate (cap-str.length) (.int .u8 0)=cells:=by simp only [cells,U,bQ,ae5];congr 1;simp [u6,Function.comp_def]
   have I:str.toArray.map (λb=>Value.int .u8 b.toNat)++Array.replicate (cap-str.length) (.int .u8 0)=cells:=I;rw [I,eZ];simp only [J2];rw [Ai e cells w.heap {w with drawn:=w.drawn+1}];simp [N]
  refine .made ⟨w.heap.size,0,cap,none⟩ (.cells cells e (cap,cap+1)) {w with heap:=w.heap.push (.cells cells e (cap,cap+1)),drawn:=w.drawn+1} ⟨rfl,rfl,λo A=>?_,⟨rfl,rfl,rfl,rfl⟩,rfl,λc e' fz h k hk=>?_,λn' hm C D=>⟨?_,⟨C,aP 1,by rw [D];show 0+str.length*1<=cap;omega⟩⟩⟩;rw [B o A];simp [u6,K7.at];cases h;rw [N] at hk;simp;omega;refine OB h5 eB rfl N.symm (eF hm _ H) (λj v hj=>?_) (by rw [N,U];simpa using a2);have ac:j<(bytesOf str).length:=(y8.1 hj).1;have y:=P5 H (Xb hj);rw [OC (l:=⟨w.heap.size,0,cap,none⟩) hn y];simp only [cells];rw [aj1 (by simpa using ac)];simp [aX,hj]
 | @sl t x lo hi e es x' lo' hi' hu hes hx hlo hhi=>
  obtain⟨S,e2⟩:=A9 s hx;have y:gM (lK lo') 0 ls env (λl=>Option.rec (L9 nid es (G9 x' ls env) l none) (λh=>jC (h ls env) λh=>L9 nid es (G9 x' ls env) l (some h)) (lK hi'))=some r:=y;generalize hX:G9 x' ls env=X at *;have hb:∀d,(∀l,L9 nid es X l none=L9 nid es X l (some d))->
    ∃l h,L9 nid es X l (some h)=some r∧∀cap w,l<=h->h<=cap->(Instr.sliceBounds true d cap (lo.map a.eval) (hi.map a.eval) none).run P w=.ok (l,h,cap) w:=by
   intro d hd;have h':gM (lK lo') 0 ls env (λl=>gM (lK hi') d ls env λh=>L9 nid es X l (some h))=some r:=by
    rw [← y];congr 1;funext l;cases hhi':lK hi' with
    | none=>simp only [gM];exact (hd l).symm
    | some f=>rfl
   obtain⟨l,h,g,_,_,O⟩:=tN s hlo hhi h';exact⟨l,h,g,λcap w p q=>O true d cap w rfl p q⟩
  have E:∀(ad:Option Addr) (len cap l h:Nat) (w:World),u6 ι X=.slice ad len cap->(Instr.sliceBounds true len cap (lo.map a.eval) (hi.map a.eval) none).run P w=.ok (l,h,cap) w->
    ∀o:Oper,o.op=.slice t x lo hi none->(execOp a.eval o).run P w=.ok (.value (.slice (if cap=l then ad else ad.map (·.add (l*es))) (h-l) (cap-l))) w:=by
   intro ad len cap l h w I a9 o A;simp [execOp,A,Instr.sliceAt,run_underlying hu,Instr.slice,S,I,a9,run_sizeOf hes]
  cases X with
  | nilSlice=>obtain⟨l,h,g,O⟩:=hb 0 (λl=>by simp [L9,lG,aaz]);have g:bi (Nat.beq l 0) (bi (Nat.beq h 0) (some (o7.nilSlice,none)) none) none=some r:=g;obtain⟨q1,g⟩:=D8 g;obtain⟨R,g⟩:=D8 g;obtain rfl:=q9 q1;obtain rfl:=q9 R;cases g;refine .none (by simp [o7.lt]) λo A w=>?_;rw [E none 0 0 0 0 w rfl (O 0 w (aP _) (aP _)) o A];rfl
  | slice id off len cap=>obtain⟨l,h,g,O⟩:=hb len (λl=>rfl);have g:L9.known es l id off cap h=some r:=g;simp only [L9.known] at g;obtain⟨q1,g⟩:=D8 g;obtain⟨R,g⟩:=D8 g;have q1:=U9 q1;have R:=U9 R;cases g;refine .none e2 λo A w=>?_;rw [E _ len cap l h w rfl (O cap w q1 R) o A];simp only [u6,vU,aa1,K7.oP];by_cases I:cap=l;rw [if_pos I,if_pos I.symm];rfl;rw [if_neg I,if_neg (λe=>I e.symm)];rfl
  | sliceU id off len es'=>
   obtain⟨l,h,g,O⟩:=hb len (λl=>rfl);have g:L9.unk nid es l id off len es' h=some r:=g;simp only [L9.unk] at g;obtain⟨q1,p1⟩:=D8 g;obtain⟨R,p2⟩:=D8 p1;obtain⟨q3,p3⟩:=D8 p2;clear g p1 p2;have q1:=U9 q1;have R:=U9 R;obtain rfl:=q9 q3;obtain⟨K,G,F⟩:=e2;have F:off+len*es<=(n.cap id):=F;rw [D id K] at F;have L:len<=((ι id).cap-off) / es:=(adW G).2 (by omega);have hX:u6 ι (.sliceU id off len es)=.slice (some (ι.at id off)) len (((ι id).cap-off) / es):=by simp [u6]
   have B:=λw=>E _ _ _ l h w hX (O _ w q1 (gI R L));have a1:∀k,k*es<=(ι id).cap-off->((ι id).cap-(off+k*es)) / es=((ι id).cap-off) / es-k:=by intro k hk;rw [← Nat.sub_sub,adV k es,Nat.sub_mul_div]
   cases H:Nat.blt l len with
   | true=>
    have g:some (o7.sliceU id (off+l*es) (h-l) es,none)=some r:=(by rw [H] at p3;exact p3);have al:l<len:=Eq.mp Y3 H;cases g;have a2:h*es<=len*es:=aas _ R;have ai:l*es+(h-l)*es=h*es:=(by rw [← adU];congr 1;omega);refine .none ⟨K,G,by rw [D id K];omega⟩ λo A w=>?_;rw [B w o A,if_neg (by omega)];simp only [u6,aa1,K7.oP]
    rw [a1 l (by have:l*es<=len*es:=aas _ (by omega)
                 omega)]
   | false=>
    have ak:len<=l:=by rcases ae9 l len with hh | hh;rw [(Eq.mpr Y3 hh:Nat.blt l len=true)] at H;cases H;exact hh
    have g:bi (Nat.beq l 0) (some (o7.sliceU id off (h-l) es,none)) (some (.sliceU nid 0 0 es,some (.tail id)))=some r:=(by rw [H] at p3;exact p3);rw [vU] at g;split at g;rename_i M;subst M;cases g;obtain rfl:len=0:=(by omega);obtain rfl:h=0:=(by omega);refine .none ⟨K,G,by rw [D id K];omega⟩ λo A w=>?_;rw [B w o A];simp only [u6,aa1,K7.oP,adR,Y7,amc,ite_self];cases g;obtain rfl:l=len:=(by omega);obtain rfl:h=l:=(by omega);by_cases I:((ι id).cap-off) / es=h;refine .tail ⟨(ι id).b,(ι id).base+off,0,if off=0 then (ι id).spot else none⟩ K (.inl rfl) (λo A w=>?_) λn' hm C D=>⟨C,G,by rw [D];simp⟩;rw [B w o A,if_pos I,I];simp [u6,K7.at];refine .tail ⟨(ι id).b,(ι id).base+(off+h*es),(ι id).cap-(off+h*es),if off+h*es=0 then (ι id).spot else none⟩ K (.inr ⟨rfl,by show (ι id).base+(off+h*es)+((ι id).cap-(off+h*es))<=(ι id).base+(ι id).cap;omega,λhh=>by show (if off+h*es=0 then (ι id).spot else none)=none;rw [hh];simp⟩) (λo A w=>?_) λn' hm C D=>⟨C,G,by rw [D];simp⟩;rw [B w o A,if_neg I,← a1 h (by omega)];have Y:=K7.oP ι id off (h*es);simp only [u6,aa1,Y];simp [K7.at]
  | _=>obtain⟨l,h,g,_⟩:=hb 0 (λl=>rfl);cases g
end
theorem Mem.nQ {m:Mem}(h:T.Ok m.t m.nx){id:Nat}{b b':P9}(c:m.get id=some b)(a:dO b'=false)(i:Nat)(hi:m.has i):(m.set id b').has i:=by obtain⟨x,d,e⟩:=hi;by_cases he:i=id;subst he;exact⟨b',by rw [Mem.aB h (Mem.I8 h c),if_pos rfl],a⟩;exact⟨x,by rw [Mem.aB h (Mem.I8 h c),if_neg he];exact d,e⟩
theorem getElem?_set_ne (a:Array Obj)(i j:Nat)(o:Obj)(h:i≠j):(a.setIfInBounds i o)[j]?=a[j]?:=Xl h
structure Put (w w':World)(b:Nat)(o:Obj):Prop where
 heap:w'.heap=w.heap.setIfInBounds b o
 os:w'.os=w.os
 out:w'.output=w.output
 tape:w'.tape=w.tape
theorem Step.set' {P:Program}{G:Mem}{ι:K7}{m:Mem}{w w':World}(h:RM P G ι m w.heap){id:Nat}{b b':P9}(r:m.lim<=id)(q:m.get id=some b)(u:U8 b=true)
  (L:dO b'=false) {o:Obj} (s:Put w w' (ι id).b o)
  (D:dN P ι ((m.set id b').nm ι) (w.heap.setIfInBounds (ι id).b o) (ι id) b')
  (S:U8 b'=true->∀c e fz,o=.cells c e fz->∀k,k<c.size->¬ (fz.1<=k∧k<fz.2)):
  Step P G ι m w ι (m.set id b') w':=by
 have F:=Mem.I8 h.ok q;have a:=Mem.aB h.ok F b';have l:=λi p=>Mem.nQ h.ok q L i p;have v:=h.own id b r q u;have E:(ι id).b<w.heap.size:=eG (h.blk id b q) u;refine⟨⟨h.ok.put id b' F,?_,?_,h.glim,h.limn,h.gle,λi p=>by rw [a,if_neg (by have:=h.glim;omega)];exact h.base i p,λi p=>l i (h.ghas i p),h.glob,λi x d f=>by
   rw [a] at d;split at d;rename_i e;subst e;exact h.spot i b q u;exact h.spot i x d f,h.Om λt A O=>by
   rw [s.heap,getElem?_set_ne];intro e;exact O ⟨id,b,r,q,u,e⟩⟩,λ_ _=>rfl,l,aP _,rfl,?_,by rw [s.heap];simp,?_,?_,s.os,s.out,s.tape⟩
 intro i x d;rw [a] at d;rw [s.heap];split at d;rename_i e;subst e;cases d;exact D;rename_i e;exact (h.blk i x d).mono (n:=m.nm ι) (λ_ _=>rfl) (Mem.aH l λ_ _=>rfl) (λf=>getElem?_set_ne _ _ _ _ (λK=>v.alone i x e d f K.symm));intro i x p d f;rw [a] at d;have I:∀j y,m.get j=some y->U8 y=true->j≠i->∀(z:P9),m.get i=some z->U8 z=true->(ι j).b≠(ι i).b:=λj y H B N z C g=>(h.own i z p C g).alone j y N H B;have M:∃z,m.get i=some z∧U8 z=true:=by split at d;rename_i e;subst e;exact⟨b,q,u⟩;exact⟨x,d,f⟩
 obtain⟨z,C,g⟩:=M;refine⟨λj y Q H B=>?_,λc e fz J=>?_⟩;rw [a] at H;split at H;rename_i R;subst R;exact I j b q u Q z C g;exact I j y H B Q z C g;by_cases he:i=id;subst he;rw [if_pos rfl] at d;cases d;rw [s.heap,Y6 E] at J;exact S f c e fz (Y5 J);rw [s.heap,getElem?_set_ne _ _ _ _ (λK=>v.alone i z he C g K.symm)] at J;exact (h.own i z p C g).free c e fz J;intro i p;rw [a,if_neg (by omega)];intro t A O;rw [s.heap,getElem?_set_ne];intro e;exact O ⟨id,b,r,q,u,e⟩;rintro t ⟨i,x,p,d,f,rfl⟩;rw [a] at d;split at d;rename_i e;subst e;exact .inl ⟨i,b,r,q,u,rfl⟩;exact .inl ⟨i,x,p,d,f,rfl⟩
theorem Step.set {P:Program}{G:Mem}{ι:K7}{m:Mem}{w w':World}(h:RM P G ι m w.heap){id:Nat}{b b':P9}(f:m.lim<=id)(i:m.get id=some b)(j:U8 b=true)
  (d:dO b'=false) {o:Obj} (l:Put w w' (ι id).b o)
  (a:dN P ι ((m.set id b').nm ι) (w.heap.setIfInBounds (ι id).b o) (ι id) b')
  (g:∀c e fz,o=.cells c e fz->∀k,k<c.size->¬ (fz.1<=k∧k<fz.2)):
  Step P G ι m w ι (m.set id b') w':=Step.set' h f i j d l a λ_=>g
theorem Step.kill {P:Program}{G:Mem}{ι:K7}{m:Mem}{w:World}(h:RM P G ι m w.heap){id:Nat}{b:P9}(q:m.lim<=id)(o:m.get id=some b):
  Step P G ι m w ι (m.set id .dead) w:=by
 have k:=Mem.I8 h.ok o;have d:=Mem.aB h.ok k .dead;have e:=λi f=>Mem.nQ (b':=.dead) h.ok o rfl i f;have g:∀i x,(m.set id .dead).get i=some x->U8 x=true->m.get i=some x:=λi x c a=>by rw [d] at c;split at c;cases c;cases a;exact c
 refine⟨⟨h.ok.put id .dead k,?_,?_,h.glim,h.limn,h.gle,λi f=>by rw [d,if_neg (by have:=h.glim;omega)];exact h.base i f,λi f=>e i (h.ghas i f),h.glob,λi x c a=>h.spot i x (g i x c a) a,h.gsz⟩,λ_ _=>rfl,e,aP _,rfl,?_,aP _,λ_ _ _=>rfl,?_,rfl,rfl,rfl⟩;intro i x c;rw [d] at c;split at c;cases c;trivial;exact (h.blk i x c).mono (n:=m.nm ι) (λ_ _=>rfl) (Mem.aH e λ_ _=>rfl) (λ_=>rfl);intro i x f c a;have p:=h.own i x f (g i x c a) a;exact⟨λj y r s l=>p.alone j y r (g j y s l) l,p.free⟩;intro i f;rw [d,if_neg (by omega)];rintro b₁ ⟨i,x,f,c,a,rfl⟩;exact .inl ⟨i,x,f,g i x c a,a,rfl⟩
section
variable {P:Program}{G:Mem}{ι:K7}{m:Mem}{w:World}{slots:List Nat}{done:List (Option Nat)}{ls:List o7}{env:T o7}{a:Act}
def bA (P:Program)(G:Mem)(ι:K7)(m:Mem)(w:World)(outs:List VM)(v:Value)(w':World):Prop:=
 ∃r∈outs,∃ι',Step P G ι m w ι' r.m w'∧r.v.lt (r.m.nm ι')∧v=u6 ι' r.v
def Does (P:Program)(ρ:Operand->Value)(o:Oper)(w:World)(R:Value->World->Prop):Prop:=
 match (execOp ρ o).run P w with
 | .ok (.value v) w'=>R v w'
 | .ok .skip w'=>R undef w'
 | .ok (.enter f args) w'=>CallsIn Fence.wide 0 P f args w' λe w''=>∃v,e=.returned v∧R v w''
 | .ok (.round l f tmps assign body) w'=>RoundIn Fence.wide 0 P l f tmps assign body w' λe w''=>∃v,e=.returned v∧R v w''
 | _=>False
theorem O9 {a:Operand->Value}{o:Oper}{R:Value->World->Prop}{v:Value}{w':World}(h:(execOp a o).run P w=.ok (.value v) w')(b:R v w'):Does P a o w R:=by unfold Does;rw [h];exact b
theorem Ch {a:Operand->Value}{o:Oper}{R:Value->World->Prop}{w':World}(h:(execOp a o).run P w=.ok .skip w')(b:R undef w'):Does P a o w R:=by unfold Does;rw [h];exact b
theorem qF:∀{l:List o7},N7 l=true->∀v∈l,H6 v=true
 | [],_,v,hv=>by cases hv
 | x::l,h,v,hv=>by
  have h:bi (H6 x) (N7 l) false=true:=h;cases hx:H6 x with
  | false=>rw [hx] at h;cases h
  | true=>rw [hx] at h;rcases Y4.1 hv with rfl | hv;exact hx;exact qF h v hv
theorem Ci {v:o7}(h:H6 v=true):(∀l,u6 ι v≠.agg l)∧∀l,u6 ι v≠.tuple l:=by cases v<;>simp_all [H6,u6]
theorem run_store {a:Addr}{v x:Value}{w:World}(d:w.cell? a=some x)(e:w.frozen? a=false)(b:∀l,v≠.agg l)(c:∀l,v≠.tuple l):
  (store a v).run P w=.ok () (w.setCell a v):=by
 cases v<;>first | exact absurd rfl (b _) | exact absurd rfl (c _) | simp [store,Sem.run,d,e]
def over (c:Array Value)(o:Nat):List Value->Array Value
 | []=>c
 | v::l=>over (c.setIfInBounds o v) (o+1) l
@[simp] theorem agE (l:List Value):∀(c:Array Value) (o:Nat),(over c o l).size=c.size:=by
 induction l with
 | nil=>intro c o;rfl
 | cons v l ih=>intro c o;rw [over,ih];simp
theorem Aj (l:List Value):∀(c:Array Value) (o:Nat),o+l.length<=c.size->∀i,(over c o l)[i]?=if i<o then c[i]? else if i<o+l.length then l[i-o]? else c[i]?:=by
 induction l with
 | nil=>intro c o h i;simp [over];omega
 | cons v l ih=>intro c o h i;simp only [J6] at h ⊢;rw [over,ih _ _ (by simp;omega)];by_cases h1:i<o;rw [if_pos h1,if_pos (by omega),Xl (by omega)];by_cases h2:i=o;subst h2;rw [if_pos (by omega),if_neg h1,if_pos (by omega),Y6 (by omega)];simp;rw [if_neg (by omega),if_neg h1];by_cases h3:i<o+1+l.length;rw [if_pos h3,if_pos (by omega),show i-o=(i-(o+1))+1 from by omega];simp;rw [if_neg h3,if_neg (by omega),Xl (by omega)]
theorem oZ {b:Nat}{e:TypeId}{d:Nat×Nat}:∀(vs:List Value) (c:Array Value) (base i:Nat) (w:World),w.heap[b]?=some (.cells c e d)->
  base+i+vs.length<=c.size->(∀k,k<c.size->¬ (d.1<=k∧k<d.2))->(∀v∈vs,(∀l,v≠.agg l)∧∀l,v≠.tuple l)->
  (storeCells ⟨b,base,none⟩ vs i).run P w=.ok () {w with heap:=w.heap.setIfInBounds b (.cells (over c (base+i) vs) e d)}:=by
 intro vs;induction vs with
 | nil=>
  intro c base i w a p h n;have:w.heap.setIfInBounds b (.cells c e d)=w.heap:=by apply adO;intro j;by_cases hj:b=j;subst hj;rw [Y6 (J4.1 a).1,a];rw [Xl hj]
  simp [storeCells,over,this]
 | cons v vs ih=>
  intro c base i w a p h n;simp only [J6] at p;have f:base+i<c.size:=by omega
  have o:=n v (by simp);have q:w.cell? ⟨b,base+i,none⟩=some c[base+i]:=by simp [World.cell?,a,f]
  have m:w.frozen? ⟨b,base+i,none⟩=false:=by have:=h (base+i) f;simp only [World.frozen?,a,afo,decide_eq_false_iff_not];omega
  simp only [storeCells,J8];rw [show (⟨b,base,none⟩:Addr).add i=⟨b,base+i,none⟩ from by simp [Addr.add],run_store q m o.1 o.2,J2];have g:w.setCell ⟨b,base+i,none⟩ v={w with heap:=w.heap.setIfInBounds b (.cells (c.setIfInBounds (base+i) v) e d)}:=by simp only [World.setCell];congr 1;apply adO;intro j;rw [ahR];by_cases hj:b=j;subst hj;rw [if_pos rfl,a,Y6 (J4.1 a).1];simp;rw [if_neg hj,Xl hj]
  rw [g,ih (c.setIfInBounds (base+i) v) base (i+1) _ (by simp [Y6 (J4.1 a).1]) (by simp;omega) (by simpa using h) (λx r=>n x (by simp [r]))];congr 2;simp [over,afp]
theorem Jc {rs n off:Nat}{rows rows':T (List o7)}{b:List o7}(h:aT rs n rows off b=some rows'):
  off / rs<n∧∃row,rows.get (off / rs)=some row∧off%rs+b.length<=rs∧rows'=rows.put (off / rs) (mM (off%rs) b row):=by
 obtain⟨c,h⟩:=D8 h;obtain⟨row,d,h⟩:=D5 h;obtain⟨a,h⟩:=D8 h;have a:=U9 a;rw [I9] at a;cases h;exact⟨Eq.mp Y3 c,row,d,a,rfl⟩
theorem Ak {n:Nm}{h h':Array Obj}{l:Loc}{rs k off:Nat}{rows rows':T (List o7)}{g:List o7}(hb:dN P ι n h l (.cells rs k rows))(V:aT rs k rows off g=some rows')
  (w:bB n g) {c:Array Value} {e:TypeId} {r:Nat×Nat} (R:h[l.b]?=some (.cells c e r)) (t:h'[l.b]?=some (.cells (over c (l.base+off) (z8 ι g)) e r)):
  dN P ι n h' l (.cells rs k rows')∧l.base+off+g.length<=c.size:=by
 obtain⟨B,C,s,F,M,⟨O,N,Q,a,q⟩,G⟩:=hb;rw [R] at F;cases F;obtain⟨A,X,Z,w3,rfl⟩:=Jc V;obtain⟨f,D,J,E,K⟩:=G _ A;rw [Z] at D;cases D;have S:off / rs*rs+off%rs=off:=by rw [adV];exact amg off rs
 have H:off / rs*rs+rs<=k*rs:=by
  calc off / rs*rs+rs=(off / rs+1)*rs:=by rw [abF]
   _<=k*rs:=aas _ A
 have m:l.base+off+g.length<=c.size:=by omega
 refine⟨⟨_,e,r,t,by simpa using M,⟨O,N,Q,a.put _ _ (by omega),λY p I=>?_⟩,λi U=>?_⟩,m⟩;have L:off / rs=0:=Nat.lt_one_iff.1 (afA A p);rw [L,UR a (by omega) (by omega)] at I;obtain⟨x,y,z⟩:=q Y p I;exact⟨x,y,by simpa using z⟩;by_cases hi0:i=off / rs;subst hi0;refine⟨_,T.bM a _ _ (by omega),by rw [zW _ _ _ (by omega)];exact J,?_,λj u=>?_⟩;rw [mV _ _ _ (by omega),dR];intro v d;rcases aau.1 d with d | d;exact P5 E (afr d);rcases aau.1 d with d | d;exact P5 w d;exact P5 E (aaA d);have o:=K j u;rw [Aj _ _ _ (by simp;omega),UO _ _ _ (by omega)];simp only [Y9];by_cases c1:j<off%rs;rw [if_pos (by omega),if_neg (by omega)];exact o;by_cases c2:j<off%rs+g.length;rw [if_neg (by omega),if_pos (by omega),if_pos (by omega),aX];congr 2;omega;rw [if_neg (by omega),if_neg (by omega),if_neg (by omega)];exact o;obtain⟨f,x,y,z,W⟩:=G i U;refine⟨f,by rw [T.bY a _ _ _ (by omega) (λe=>hi0 e.symm)];exact x,y,z,λj u=>?_⟩;rw [Aj _ _ _ (by simp;omega),← W j u];simp only [Y9];rcases ae9 i (off / rs) with hlt | hge;have:i*rs+rs<=off / rs*rs:=by
  calc i*rs+rs=(i+1)*rs:=by rw [abF]
   _<=off / rs*rs:=aas _ hlt
 rw [if_pos (by omega)];have:off / rs*rs+rs<=i*rs:=by
  calc off / rs*rs+rs=(off / rs+1)*rs:=by rw [abF]
   _<=i*rs:=aas _ (by omega)
 rw [if_neg (by omega),if_neg (by omega)]
theorem Jd (rs n:Nat)(rows:T (List o7))(off:Nat):jf rs n [] rows off=some rows:=rfl
theorem Gb (rs n:Nat)(v:o7)(a:List o7)(rows:T (List o7))(off:Nat):
  jf rs n (v::a) rows off=ob (aT rs n rows off [v]) λrows'=>jf rs n a rows' (off+1):=rfl
theorem iH {h:Array Obj}{b:Nat}{x o:Obj}(hb:h[b]?=some x):(h.setIfInBounds b o)[b]?=some o:=
 Y6 (J4.1 hb).1
theorem set_set (h:Array Obj)(b:Nat)(x y:Obj):(h.setIfInBounds b x).setIfInBounds b y=h.setIfInBounds b y:=by apply adO;intro j;by_cases hj:b=j;subst hj;by_cases hb:b<h.size;rw [Y6 (by simpa using hb),Y6 hb];simp [adN hb];rw [Xl hj,Xl hj,Xl hj]
theorem Je {n:Nm}{l:Loc}{rs k:Nat}{e:TypeId}{g:Nat×Nat}:∀(vs:List o7) (off:Nat) (rows rows':T (List o7)) (h:Array Obj) (c:Array Value),
  dN P ι n h l (.cells rs k rows)->jf rs k vs rows off=some rows'->bB n vs->h[l.b]?=some (.cells c e g)->
  dN P ι n (h.setIfInBounds l.b (.cells (over c (l.base+off) (z8 ι vs)) e g)) l (.cells rs k rows')∧(vs≠[]->l.base+off+vs.length<=c.size):=by
 intro vs;induction vs with
 | nil=>intro off rows rows' h c i f _ a;rw [Jd] at f;cases f;refine⟨i.mono (n:=n) (λ_ _=>rfl) (Nm.le_refl n) λ_=>?_,λh=>absurd rfl h⟩;rw [iH a,a];rfl
 | cons v vs ih=>
  intro off rows rows' h c i f d a;rw [Gb] at f;obtain⟨m,r,s⟩:=D5 f;obtain⟨o,p⟩:=Ak (h':=h.setIfInBounds l.b (.cells (over c (l.base+off) (z8 ι [v])) e g)) i r ⟨d.1,trivial⟩ a (iH a);obtain⟨j,q⟩:=ih (off+1) _ _ _ _ o s d.2 (iH a);rw [set_set] at j;refine⟨?_,λ_=>?_⟩;simpa [z8,over,afp] using j;cases vs with
  | nil=>simpa using p
  | cons u vs=>have:=q (by simp);simp at this ⊢;omega
theorem JD (r:RM P G ι m w.heap){id rs k off:Nat}{rows rows':T (List o7)}(q:m.lim<=id)(p:m.get id=some (.cells rs k rows)){d:List o7}
  (y:N7 d=true) (A:bB (m.nm ι) d)
  (hb:∀c e fz,w.heap[(ι id).b]?=some (.cells c e fz)->dN P ι (m.nm ι) (w.heap.setIfInBounds (ι id).b (.cells (over c ((ι id).base+off) (z8 ι d)) e fz)) (ι id) (.cells rs k rows')∧
   (d≠[]->(ι id).base+off+d.length<=c.size)):
  ∃w',(storeCells (ι.at id off) (z8 ι d) 0).run P w=.ok () w'∧Step P G ι m w ι (m.set id (.cells rs k rows')) w':=by
 obtain⟨c,e,fz,g,_⟩:=r.blk id _ p;obtain⟨f,o⟩:=hb c e fz g;have a:=(r.own id _ q p rfl).free c e fz g;have s:∀v∈z8 ι d,(∀l,v≠.agg l)∧∀l,v≠.tuple l:=by intro v t;rw [bQ] at t;obtain⟨u,B,rfl⟩:=adP.1 t;exact Ci (qF y u B)
 refine⟨{w with heap:=w.heap.setIfInBounds (ι id).b (.cells (over c ((ι id).base+off) (z8 ι d)) e fz)},?_,?_⟩;cases d with
 | nil=>
  have:w.heap.setIfInBounds (ι id).b (.cells c e fz)=w.heap:=by apply adO;intro j;by_cases hj:(ι id).b=j;subst hj;rw [iH g,g];rw [Xl hj]
  simp [z8,storeCells,over,this]
 | cons v d=>have:=o (by simp);rw [K7.zX (r.spot id _ p rfl)];exact oZ (z8 ι (v::d)) c ((ι id).base+off) 0 w g (by simpa using this) a s
 refine Step.set r q p rfl rfl ⟨rfl,rfl,rfl,rfl⟩ ?_ (λC D x h=>by cases h;simpa using a);exact f.mono (n:=m.nm ι) (λ_ _=>rfl) (Mem.aH (λi z=>Mem.nQ r.ok p rfl i z) λ_ _=>rfl) λ_=>rfl
theorem Jf (l:RM P G ι m w.heap){id off:Nat}{d:List o7}{β:Type}{k:Mem->Option β}{r:β}(hs:storeAt m id off d k=some r)(a:bB (m.nm ι) d):
  ∃m' w',k m'=some r∧(storeCells (ι.at id off) (z8 ι d) 0).run P w=.ok () w'∧Step P G ι m w ι m' w':=by
 obtain⟨g,hs⟩:=kJ hs;obtain⟨v,hs⟩:=D8 hs;obtain⟨z,n,o,j,hs⟩:=eu hs;obtain⟨rows',y,x⟩:=D5 hs;have f:m.lim<=id:=by rcases ae9 id m.lim with h | h;rw [(Eq.mpr Y3 h:Nat.blt id m.lim=true)] at g;cases g;exact h
 obtain⟨w',t,u⟩:=JD (off:=off) (rows':=rows') l f j v a (λc e s i=>by
  obtain⟨p,q⟩:=Ak (h':=w.heap.setIfInBounds (ι id).b (.cells (over c ((ι id).base+off) (z8 ι d)) e s)) (l.blk id _ j) y a i (iH i);exact⟨p,λ_=>q⟩)
 exact⟨_,w',x,t,u⟩
theorem nG (g:RM P G ι m w.heap){id off:Nat}{b:List o7}{β:Type}{k:Mem->Option β}{r:β}(hs:jX m id off b k=some r)(d:bB (m.nm ι) b):
  ∃m' w',k m'=some r∧(storeCells (ι.at id off) (z8 ι b) 0).run P w=.ok () w'∧Step P G ι m w ι m' w':=by
 cases b with
 | nil=>exact⟨m,w,hs,by simp [z8,storeCells],Step.refl g⟩
 | cons v b=>
  have hs:bi (Nat.blt id m.lim) none (bi (N7 (v::b)) (P6 (m.get id) λi n a=>ob (jf i n (v::b) a off) λrows'=>k (m.set id (.cells i n rows'))) none)=some r:=hs;obtain⟨j,hs⟩:=kJ hs;obtain⟨q,hs⟩:=D8 hs;obtain⟨i,n,a,l,hs⟩:=eu hs;obtain⟨rows',u,t⟩:=D5 hs;have f:m.lim<=id:=by rcases ae9 id m.lim with h | h;rw [(Eq.mpr Y3 h:Nat.blt id m.lim=true)] at j;cases j;exact h
  obtain⟨w',o,p⟩:=JD (off:=off) (rows':=rows') g f l q d (λc e x s=>Je (v::b) off a rows' _ c (g.blk id _ l) u d s);exact⟨_,w',t,o,p⟩
theorem ku {a b:Nat}(h:Nat.blt a b=false):b<=a:=by rcases ae9 a b with g | g;rw [(Eq.mpr Y3 g:Nat.blt a b=true)] at h;cases h;exact g
theorem OD (s:St P ι (m.nm ι) slots done ls env a.tmps)(u:RM P G ι m w.heap){t:TypeId}{x y:Operand}{k:Nat}{l c:Q8}(r:aY P t=some k)
  (A:N8 P slots done x=some l) (B:N8 P slots done y=some c) {cf:F8} {outs:List VM} (z:om (.store k l c) cf ls env m=some outs):
  ∀o:Oper,o.op=.store t x y->Does P a.eval o w (bA P G ι m w outs):=by
 intro o v;obtain⟨id,off,f,h⟩:=fG z;have f:G9 l ls env=.ptr id off:=f;obtain⟨g,h⟩:=D8 h;have g:(G9 c ls env).cells.length=k:=by rw [← I9];exact q9 g
 obtain⟨n,_⟩:=A9 s A;obtain⟨p,e⟩:=A9 s B;obtain⟨C,w',i,d,b⟩:=Jf u h (vN e);cases i;refine Ch (w':=w') ?_ ⟨_,aA.2 rfl,ι,b,trivial,rfl⟩;have j:(u6 ι (G9 c ls env)).cells.size=k:=by rw [lS];simp [g]
 have q:(u6 ι (G9 c ls env)).cells.toList=z8 ι (G9 c ls env).cells:=by rw [lS]
 simp [execOp,v,Instr.storeAt,n,p,f,u6,Instr.sureAddr,storeVar,run_sizeOf r,j,q,d]
end
section
variable {P:Program}{G:Mem}{ι:K7}{m:Mem}{w:World}{slots:List Nat}{done:List (Option Nat)}{ls:List o7}{env:T o7}{a:Act}
theorem tZ {r:Nat}{o x:Obj}(h:w.heap[r]?=some x)(a:∀c e fz,x≠.cells c e fz):(setObj r o).run P w=.ok () {w with heap:=w.heap.setIfInBounds r o}:=by simp only [setObj,Sem.run,h]
theorem mF {kk:PK}{x y:o7}(h:IE kk x y=some true)(n:Nat):Instr.sameBits n (u6 ι x) (u6 ι y)=true:=by
 cases kk with
 | i=>obtain⟨k,p,q,rfl,rfl,a⟩:=oU (show aK x y=some true from h);simp [u6,Instr.sameBits];simpa using a.symm
 | b=>obtain⟨p,q,rfl,rfl,a⟩:=iU (show sV x y=some true from h);simp [u6,Instr.sameBits];simpa using a.symm
 | s=>obtain⟨p,q,rfl,rfl,a⟩:=jS (show eqStr x y=some true from h);simp [u6,Instr.sameBits,mD];simpa using a.symm
theorem yG:∀(ks:List PK) (x y:List o7),dz ks x y=some true->x.length=ks.length->y.length=ks.length->∀n,
  ((z8 ι x).zip (z8 ι y)).all (λ(p:Value×Value)=>Instr.sameBits n p.1 p.2)=true
 | [],x,y,_,h1,h2,n=>by cases x<;>simp_all [z8]
 | k::ks,x,y,h,h1,h2,n=>by
  cases x with
  | nil=>simp at h1
  | cons a x=>
   cases y with
   | nil=>simp at h2
   | cons b y=>
    rw [jZ] at h;obtain⟨r,h3,h4⟩:=D5 h;cases r with
    | false=>cases h4
    | true=>have ih:=yG ks x y h4 (by simpa using h1) (by simpa using h2) n;simp only [z8,List.zip_cons_cons,afv,mF h3 n,aeb];exact ih
theorem LG {kk:BJ}{t:TypeId}(z:uT P t=some kk){x y:o7}(h:nA kk x y=some true)(f:x.cells.length=BP kk)(g:y.cells.length=BP kk):
  Instr.sameBits 10000 (u6 ι y) (u6 ι x)=true:=by
 have c:∀kk x y,IE kk x y=some true->IE kk y x=some true:=by
  intro kk x y h;cases kk with
  | i=>obtain⟨k,p,q,rfl,rfl,d⟩:=oU (show aK x y=some true from h)
       have:p=q:=(by simpa using d.symm);subst this;exact h
  | b=>obtain⟨p,q,rfl,rfl,d⟩:=iU (show sV x y=some true from h)
       have:p=q:=(by simpa using d.symm);subst this;exact h
  | s=>obtain⟨p,q,rfl,rfl,d⟩:=jS (show eqStr x y=some true from h)
       have:p=q:=(by simpa using d.symm);subst this;exact h
 rcases xG z with⟨rfl,_⟩ | ⟨_,rfl,_⟩ | ⟨rfl,_⟩ | ⟨fs,a,rfl,_,_⟩;exact mF (kk:=.b) (c .b x y h) _;exact mF (kk:=.i) (c .i x y h) _;exact mF (kk:=.s) (c .s x y h) _;obtain⟨l,rfl,n⟩:=fH h;obtain⟨j,rfl,o⟩:=fH n;have f:l.length=a.length:=f;have g:j.length=a.length:=g;have e:∀(a:List PK) (x y:List o7),dz a x y=some true->dz a y x=some true:=by
  intro a;induction a with
  | nil=>intro x y h;exact lU y x
  | cons k a ih=>
   intro x y h;cases x with
   | nil=>cases h
   | cons u x=>
    cases y with
    | nil=>cases h
    | cons v y=>
     rw [jZ] at h ⊢;obtain⟨r,w,m⟩:=D5 h;cases r with
     | false=>cases m
     | true=>rw [c k u v w];exact ih x y m
 have:=yG (ι:=ι) a j l (e a l j o) g f 9999;simp only [u6,Instr.sameBits,ad5,Y9,f,g,beq_self_eq_true,aeb];exact this
theorem vZ (ι:K7)(e:o7×o7):∀(es:List (o7×o7)) (j:Nat),J5 ι (es ++ [e]) j=J5 ι es j ++ [{key:=u6 ι e.1,val:=u6 ι e.2,born:=j+es.length}]
 | [],j=>by simp [J5]
 | x::es,j=>by simp [J5,vZ ι e es,afp,al5 1]
theorem Gc (k v:o7)(i:Nat):eY [] k v i=[]:=rfl
theorem mX (e:o7×o7)(es:List (o7×o7))(k v:o7):eY (e::es) k v 0=(k,v)::es:=rfl
theorem mY (e:o7×o7)(es:List (o7×o7))(k v:o7)(i:Nat):eY (e::es) k v (i+1)=e::eY es k v i:=rfl
theorem yH (k v:o7):∀(es:List (o7×o7)) (i:Nat),(eY es k v i).length=es.length
 | [],i=>rfl
 | e::es,0=>by simp [mX]
 | e::es,i+1=>by simp [mY,yH k v es]
theorem uf {k v:o7}:∀{es:List (o7×o7)} {i:Nat} {x:o7×o7},x∈eY es k v i->x=(k,v)∨x∈es
 | [],i,x,h=>by cases h
 | e::es,0,x,h=>by rw [mX] at h;rcases Y4.1 h with h | h;exact .inl h;exact .inr (Z4 _ h)
 | e::es,i+1,x,h=>by rw [mY] at h;rcases Y4.1 h with h | h;exact .inr (by rw [h];exact ab1);rcases uf h with h | h;exact .inl h;exact .inr (Z4 _ h)
theorem wh (ι:K7)(k v:o7):∀(es:List (o7×o7)) (i j:Nat),
  (J5 ι es j).modify i (λe=>{e with key:=u6 ι k,val:=u6 ι v})=J5 ι (eY es k v i) j
 | [],i,j=>by simp [J5,Gc]
 | e::es,0,j=>by simp [J5,mX]
 | e::es,i+1,j=>by simp [J5,mY,wh ι k v es]
theorem Eo (C:RM P G ι m w.heap){t O e:TypeId}{kk:BJ}(N:P.underlying t=some (.map O e))(J:uT P O=some kk){id:Nat}{k x:o7}{es:List (o7×o7)}
  (z:m.lim<=id) (v:m.get id=some (.map es)) {r:Option (Nat×o7)} (S:V9 (nA kk) (BP kk) k es=some r) (B:k.lt (m.nm ι)) (D:x.lt (m.nm ι)) {outs:List VM}
  (q:Option.rec (one .undef (m.set id (.map (aJ es [(k,x)])))) (λp=>ob (nO p.1 es) λe=>
   bi (Nat.beq (len' e.1.cells) (BP kk)) (one .undef (m.set id (.map (eY es k x p.1)))) none) r=some outs):
  ∃w',(Instr.mapUpdate t (.map (some (ι id).b)) (u6 ι k) (u6 ι x)).run P w=.ok () w'∧bA P G ι m w outs undef w':=by
 obtain⟨L,⟨y,b,R⟩,M⟩:=kN S;obtain⟨c,f⟩:=C.blk id _ v;have g:=gU (P:=P) c (by intro _ _ _ e;cases e);have l:=λo=>tZ (P:=P) (o:=o) c (by intro _ _ _ e;cases e);have u:=mE (ι:=ι) J M w;have s:=EG (ι:=ι) J L R false w;cases r with
 | none=>cases q;refine⟨{w with heap:=w.heap.setIfInBounds (ι id).b (.map (J5 ι (es ++ [(k,x)]) 0).toArray (es ++ [(k,x)]).length)},?_,_,aA.2 rfl,ι,Step.set C z v rfl rfl (o:=.map (J5 ι (es ++ [(k,x)]) 0).toArray (es ++ [(k,x)]).length) ⟨rfl,rfl,rfl,rfl⟩ ?_ (by intro _ _ _ h;cases h),trivial,rfl⟩;simp only [Instr.mapUpdate,J8,run_underlying N,g,J2,s,u,nL,afy,l];simp [vZ];rw [P8];refine⟨iH c,λe d=>?_⟩;have a:=Mem.aH (ι:=ι) (ι':=ι) (λi I=>Mem.nQ (b':=.map (es ++ [(k,x)])) C.ok v rfl i I) λ_ _=>rfl;rcases aau.1 d with d | d;exact⟨o7.O6 a _ (f e d).1,o7.O6 a _ (f e d).2⟩;rw [aA.1 d];exact⟨o7.O6 a _ B,o7.O6 a _ D⟩
 | some p=>
  obtain⟨e,F,q⟩:=D5 q;obtain⟨H,q⟩:=D8 q;cases q;rw [jN] at F;have H:e.1.cells.length=BP kk:=by rw [← I9];exact q9 H
  obtain⟨j,T,E,K,_,Q⟩:=lV M;rw [Z9] at E;rw [E,K] at F;cases F;have n:=LG (ι:=ι) J Q L H;refine⟨{w with heap:=w.heap.setIfInBounds (ι id).b (.map (J5 ι (eY es k x p.1) 0).toArray es.length)},?_,_,aA.2 rfl,ι,Step.set C z v rfl rfl (o:=.map (J5 ι (eY es k x p.1) 0).toArray es.length) ⟨rfl,rfl,rfl,rfl⟩ ?_ (by intro _ _ _ h;cases h),trivial,rfl⟩;have A:(((J5 ι es 0).toArray[p.1]?).map (·.key)).getD (u6 ι k)=u6 ι e.1:=by simp [mW,E,K]
  simp only [Instr.mapUpdate,J8,run_underlying N,g,J2,s,u,nL,aa1,A,Instr.keyThatStays,n,if_true,Z7,l];rw [List.modify_toArray,wh];refine⟨by rw [yH];exact iH c,λe d=>?_⟩;have a:=Mem.aH (ι:=ι) (ι':=ι) (λi I=>Mem.nQ (b':=.map (eY es k x p.1)) C.ok v rfl i I) λ_ _=>rfl;rcases uf d with d | d;rw [d];exact⟨o7.O6 a _ B,o7.O6 a _ D⟩;exact⟨o7.O6 a _ (f e d).1,o7.O6 a _ (f e d).2⟩
theorem JE {ι:K7}(k v:o7):∀(L:List MapEntry) (es:List (o7×o7)) (j:Nat),L.map uU=es.map (λe=>(u6 ι e.1,u6 ι e.2))->
  (L.modify j λe=>{e with key:=u6 ι k,val:=u6 ι v}).map uU=(eY es k v j).map λe=>(u6 ι e.1,u6 ι e.2)
 | [],[],j,_=>by simp [Gc]
 | [],_ :: _,_,h=>by cases h
 | _ :: _,[],_,h=>by cases h
 | x::L,e::es,0,h=>by simp only [Z5,ad3] at h;rw [mX];simp [uU];simpa [uU] using h.2
 | x::L,e::es,j+1,h=>by simp only [Z5,ad3] at h;rw [mY];simp [h.1,JE k v L es j h.2]
def OE (u:List UInt8)(x:o7)(e:o7×o7):o7×o7:=match e.1 with
 | .str t=>if t=u then (.str u,x) else e
 | _=>e
theorem XP (u:List UInt8)(x:o7)(e:o7×o7):(OE u x e).1=e.1:=by
 obtain⟨k,v⟩:=e;cases k<;>simp only [OE]
 split;rename_i h;rw [h];rfl
theorem Tx {u:List UInt8}{x:o7}:∀{es:List (o7×o7)},(∀e∈es,e.1≠.str u)->es.map (OE u x)=es
 | [],_=>rfl
 | e::es,h=>by
  rw [Z5,Tx λy hy=>h y (by simp [hy])];congr 1;have:=h e (by simp);obtain⟨k,v⟩:=e;cases k<;>simp only [OE]
  split;rename_i h';exact absurd (by simp [h']) this;rfl
theorem qG {u:List UInt8}{x v:o7}:∀{es:List (o7×o7)} {j:Nat},(es.map (·.1)).Nodup->es[j]?=some (.str u,v)->eY es (.str u) x j=es.map (OE u x)
 | [],j,_,h=>by simp at h
 | e::es,0,hn,h=>by simp at h;subst h;simp only [Z5,ad1] at hn;rw [mX,Z5,Tx λy hy hk=>hn.1 (by rw [← hk];exact adP.2 ⟨y,hy,rfl⟩)];simp [OE]
 | e::es,j+1,hn,h=>by
  simp only [Z5,ad1] at hn;have h:es[j]?=some (.str u,v):=by simpa using h
  rw [mY,Z5,qG hn.2 h];congr 1;have hne:e.1≠.str u:=λhk=>hn.1 (by rw [hk];exact adP.2 ⟨_,Xb h,rfl⟩);obtain⟨k,w⟩:=e;cases k<;>simp only [OE]
  split;rename_i h';exact absurd (by simp [h']) hne;rfl
theorem Cj (hm:RM P G ι m w.heap){t kt e:TypeId}{kk:BJ}(hu:P.underlying t=some (.map kt e))(Z:uT P kt=some kk){id:Nat}{u:List UInt8}{x:o7}{es:List (o7×o7)}
  (O:m.lim<=id) (Y:m.get id=some (.mapU es)) {r:Option (Nat×o7)} (hf:V9 (nA kk) (BP kk) (.str u) es=some r) (W:x.lt (m.nm ι)) {B:List (o7×o7)}
  (hr:(r=none∧B=es ++ [(.str u,x)])∨∃p,r=some p∧B=eY es (.str u) x p.1):
  ∃w',(Instr.mapUpdate t (.map (some (ι id).b)) (u6 ι (.str u)) (u6 ι x)).run P w=.ok () w'∧bA P G ι m w [⟨.undef,m.set id (.mapU B)⟩] undef w':=by
 obtain⟨h1,⟨y,b,h2⟩,C⟩:=kN hf;obtain⟨L,I,d,⟨hp,V,E⟩,q⟩:=hm.blk id _ Y;have s:=gU (P:=P) d (by intro _ _ _ e;cases e);have z:=λo=>tZ (P:=P) (o:=o) d (by intro _ _ _ e;cases e);obtain⟨g,p1,p2⟩:=Du _ hp;obtain⟨r',q1,q2⟩:=adh Z p1 V E hf;have a5:(J5 ι g 0).map uU=L.map uU:=by rw [yX];exact p2.symm
 have D:=mE (ι:=ι) Z q1 w;rw [FV kt (u6 ι (.str u)) a5] at D;have N:=EG (ι:=ι) Z h1 h2 false w;have f:∀b',dO b'=false->(m.nm ι).le ((m.set id b').nm ι):=λb' a0=>Mem.aH (ι:=ι) (ι':=ι) (λi hi=>Mem.nQ (b':=b') hm.ok Y a0 i hi) λ_ _=>rfl;have S:es≠[]->nA kk=eqStr:=λF=>by
  cases es with
  | nil=>exact absurd rfl F
  | cons A es=>obtain⟨s0,a7⟩:=V A (by simp);rw [eO,a7] at C;obtain⟨b0,a2,_⟩:=D5 C;rw [(Tw Z a2).1];rfl
 rcases hr with⟨rfl,rfl⟩ | ⟨p,rfl,rfl⟩;obtain rfl:r'=none:=by cases r'<;>simp at q2 ⊢
 refine⟨{w with heap:=w.heap.setIfInBounds (ι id).b (.map (L ++ [(⟨u6 ι (.str u),u6 ι x,I⟩:MapEntry)]).toArray (I+1))},?_,_,aA.2 rfl,ι,Step.set hm O Y rfl rfl (o:=.map (L ++ [(⟨u6 ι (.str u),u6 ι x,I⟩:MapEntry)]).toArray (I+1)) ⟨rfl,rfl,rfl,rfl⟩ ?_ (by intro _ _ _ h;cases h),trivial,rfl⟩;simp only [Instr.mapUpdate,J8,run_underlying hu,s,J2,N,D,nL,afy,z];simp;refine⟨_,_,iH d,⟨?_,λe c=>?_,?_⟩,λe c=>?_⟩;simp only [adJ,Z5,List.map_nil];exact hp.append_right _;rcases aau.1 c with c | c;exact V e c;rw [aA.1 c];exact⟨u,rfl⟩;simp only [adJ,Z5,List.map_nil];rw [List.nodup_append];refine⟨E,by simp,?_⟩;intro a ha b hb M;rw [aA.1 hb] at M;subst M;obtain⟨A,a3,a4⟩:=adP.1 ha;have Q:(o7.str u,A.2)∈es:=by rw [← a4];exact a3
 obtain⟨j,J,_⟩:=qE es 0 V E Q;rw [S (List.ne_nil_of_mem Q),J] at C;cases C;rcases aau.1 c with c | c;exact⟨o7.O6 (f _ rfl) _ (q e c).1,o7.O6 (f _ rfl) _ (q e c).2⟩;rw [aA.1 c];exact⟨trivial,o7.O6 (f _ rfl) _ W⟩;obtain⟨p',rfl⟩:∃p',r'=some p':=by cases r' with
  | none=>simp at q2
  | some p'=>exact⟨p',rfl⟩
 have F:es≠[]:=by rintro rfl;rw [eH] at C;cases C
 have c:=S F;have k:∃v,es[p.1]?=some (.str u,v):=by
  obtain⟨j,A,J,g2,_,K⟩:=lV C;rw [c] at K;obtain⟨a1,b1,g5,g6,g7⟩:=jS K;cases g5;have:u=b1:=by simpa using g7.symm
  subst this;exact⟨A.2,by rw [J,Z9,g2,← g6]⟩
 have n:∃v,g[p'.1]?=some (.str u,v):=by
  obtain⟨j,A,J,g2,_,K⟩:=lV q1;rw [c] at K;obtain⟨a1,b1,g5,g6,g7⟩:=jS K;cases g5;have:u=b1:=by simpa using g7.symm
  subst this;exact⟨A.2,by rw [J,Z9,g2,← g6]⟩
 obtain⟨v1,k⟩:=k;obtain⟨v2,n⟩:=n;have hL:∃X,L[p'.1]?=some X∧X.key=u6 ι (.str u):=by
  have:=congrArg (λl=>l[p'.1]?) p2;simp only [aaB,n,aa1] at this;cases hl:L[p'.1]? with
  | none=>rw [hl] at this;cases this
  | some X=>rw [hl] at this;simp at this;exact⟨X,rfl,this.1⟩
 obtain⟨X,T,U⟩:=hL;have H:Instr.sameBits 10000 (u6 ι (.str u)) (u6 ι (.str u))=true:=by simp [u6,Instr.sameBits,mD]
 have a6:(g.map (·.1)).Nodup:=(p1.map _).nodup_iff.2 E;refine⟨{w with heap:=w.heap.setIfInBounds (ι id).b (.map (L.modify p'.1 λe=>{e with key:=u6 ι (.str u),val:=u6 ι x}).toArray I)},?_,_,aA.2 rfl,ι,Step.set hm O Y rfl rfl (o:=.map (L.modify p'.1 λe=>{e with key:=u6 ι (.str u),val:=u6 ι x}).toArray I) ⟨rfl,rfl,rfl,rfl⟩ ?_ (by intro _ _ _ h;cases h),trivial,rfl⟩;have R:((L.toArray[p'.1]?).map (·.key)).getD (u6 ι (.str u))=u6 ι (.str u):=by simp [T,U]
 simp only [Instr.mapUpdate,J8,run_underlying hu,s,J2,N,D,nL,aa1,R,Instr.keyThatStays,H,if_true,Z7,z];rw [List.modify_toArray];refine⟨_,_,iH d,⟨?_,λe c=>?_,?_⟩,λe c=>?_⟩;rw [show (L.modify p'.1 λe=>{e with key:=u6 ι (.str u),val:=u6 ι x}).map (λx=>(x.key,x.val))=(eY g (.str u) x p'.1).map (λe=>(u6 ι e.1,u6 ι e.2)) from JE (.str u) x L g p'.1 p2,qG a6 n,qG E k];exact (p1.map _).map _;rcases uf c with c | c;rw [c];exact⟨u,rfl⟩;exact V e c;rw [qG E k,ae5];rw [show ((λx=>x.1)∘OE u x:o7×o7->o7)=λe=>e.1 from funext λe=>XP u x e];exact E;rcases uf c with c | c;rw [c];exact⟨trivial,o7.O6 (f _ rfl) _ W⟩;exact⟨o7.O6 (f _ rfl) _ (q e c).1,o7.O6 (f _ rfl) _ (q e c).2⟩
theorem JF {id:Nat}{k:o7}{es a:List (o7×o7)}(h:m.get id=some (.map es)):oI m id k a=one .undef (m.set id (.map a)):=by unfold oI;rw [h]
theorem Gd {id:Nat}{k:o7}{es a:List (o7×o7)}(h:m.get id=some (.mapU es)):oI m id k a=mO k λ_=>one .undef (m.set id (.mapU a)):=by unfold oI;rw [h]
theorem Al (s:St P ι (m.nm ι) slots done ls env a.tmps)(N:RM P G ι m w.heap){t S e:TypeId}{kk:BJ}(O:P.underlying t=some (.map S e))(M:uT P S=some kk)
  {x k y:Operand} {E d n:Q8} (Q:N8 P slots done x=some E) (B:N8 P slots done k=some d) (R:N8 P slots done y=some n)
  {cf:F8} {outs:List VM} (T:om (.mapSet kk E d n) cf ls env m=some outs):
  ∀o:Oper,(o.op=.mapUpdate t x k y∨o.op=.insert t x k y)->Does P a.eval o w (bA P G ι m w outs):=by
 intro o f;rcases xE T with⟨_,h⟩ | ⟨id,v,h⟩;cases h;obtain⟨L,h⟩:=kJ h;obtain⟨q,j | j,h⟩:=EH h
 case inr=>
  obtain⟨r,D,b⟩:=D5 h;have v:G9 E ls env=.map id:=v;obtain⟨F,_⟩:=A9 s Q;obtain⟨H,z⟩:=A9 s B;obtain⟨I,g⟩:=A9 s R;have K:∃u,G9 d ls env=.str u∧∃c,outs=[⟨.undef,m.set id (.mapU c)⟩]∧((r=none∧c=q ++ [(.str u,G9 n ls env)])∨∃p,r=some p∧c=eY q (.str u) (G9 n ls env) p.1):=by
   cases r with
   | none=>have b:oI m id (G9 d ls env) (aJ q [(G9 d ls env,G9 n ls env)])=some outs:=b;rw [Gd j] at b;obtain⟨u,l,b⟩:=jg b;cases b;rw [l,P8];exact⟨u,rfl,_,rfl,.inl ⟨rfl,rfl⟩⟩
   | some p=>obtain⟨U,_,b⟩:=D5 b;obtain⟨_,b⟩:=D8 b;rw [Gd j] at b;obtain⟨u,l,b⟩:=jg b;cases b;rw [l];exact⟨u,rfl,_,rfl,.inr ⟨p,rfl,rfl⟩⟩
  obtain⟨u,C,c,rfl,i⟩:=K;rw [C] at D;obtain⟨w',A,J⟩:=Cj N O M (ku L) j D g i;refine Ch (w':=w') ?_ J;rcases f with f | f<;>simp [execOp,f,F,H,I,v,C,u6,A]
  all_goals (simp only [u6] at A;simp [A])
 obtain⟨r,D,b⟩:=D5 h;have v:G9 E ls env=.map id:=v;obtain⟨F,_⟩:=A9 s Q;obtain⟨H,z⟩:=A9 s B;obtain⟨I,g⟩:=A9 s R;have b:Option.rec (one .undef (m.set id (.map (aJ q [(G9 d ls env,G9 n ls env)])))) (λp=>ob (nO p.1 q) λe=>
   bi (Nat.beq (len' e.1.cells) (BP kk)) (one .undef (m.set id (.map (eY q (G9 d ls env) (G9 n ls env) p.1)))) none) r=some outs:=by
  cases r with
  | none=>rw [← JF (k:=G9 d ls env) j];exact b
  | some p=>simp only [← JF (k:=G9 d ls env) j];exact b
 obtain⟨w',A,J⟩:=Eo N O M (ku L) j D z g b;refine Ch (w':=w') ?_ J;rcases f with f | f<;>simp [execOp,f,F,H,I,v,u6,A]
theorem run_newObj (o:Obj)(w:World):(newObj o).run P w=.ok w.heap.size {w with heap:=w.heap.push o}:=by simp [newObj,Sem.run]
theorem OG (d:RM P G ι m w.heap)(mp:Option Nat)(since:Nat)(a:∀x,mp=some x->m.has x):
  bA P G ι m w [⟨.ptr m.nx 0,m.new (.iter mp since [])⟩] (.pointer (some ⟨w.heap.size,0,none⟩)) {w with heap:=w.heap.push (.mapIter (mp.map λx=>(ι x).b) since #[] since)}:=by
 have c:=Laid.new d.ok d.limn (.iter mp since []) rfl;refine⟨_,aA.2 rfl,ι.upd m.nx ⟨w.heap.size,0,0,none⟩,Step.lay (w':={w with heap:=w.heap.push (.mapIter (mp.map λx=>(ι x).b) since #[] since)}) d c (o:=.mapIter (mp.map λx=>(ι x).b) since #[] since) ⟨rfl,rfl,rfl,rfl⟩ rfl rfl ?_ (by intro _ _ _ h;cases h),c.self,by simp [u6,K7.at]⟩;refine⟨rfl,λx f=>c.has x (a x f),#[],since,?_,rfl,λ_=>rfl⟩;show (w.heap.push _)[w.heap.size]?=_;rw [eB];cases mp with
 | none=>rfl
 | some x=>simp [ι.upd_ne ⟨w.heap.size,0,0,none⟩ (λe=>c.free (e▸a x rfl):x≠m.nx)]
theorem OH (s:St P ι (m.nm ι) slots done ls env a.tmps)(d:RM P G ι m w.heap){t k e:TypeId}(l:P.underlying t=some (.map k e))
  {x:Operand} {c:Q8} (f:N8 P slots done x=some c) {cf:F8} {outs:List VM} (q:om (.range c) cf ls env m=some outs):
  ∀o:Oper,o.op=.range t x->Does P a.eval o w (bA P G ι m w outs):=by
 intro o j;obtain⟨g,n⟩:=A9 s f;rcases xE q with⟨b,h⟩ | ⟨id,b,h⟩;cases h;have b:G9 c ls env=.nilMap:=b;refine O9 (v:=.pointer (some ⟨w.heap.size,0,none⟩)) ?_ (OG d none 0 (by simp));simp [execOp,j,Instr.range,run_underlying l,g,b,u6];obtain⟨p,i,h⟩:=Ce h;cases h;have b:G9 c ls env=.map id:=b;obtain⟨r,u⟩:=LD d i;rw [I9];refine O9 (v:=.pointer (some ⟨w.heap.size,0,none⟩)) ?_ (OG d (some id) p.length (by intro x f;cases f;exact⟨_,i,rfl⟩));simp [execOp,j,Instr.range,run_underlying l,g,b,u6,r]
theorem LH (n:Nat):∀l:List Nat,tF n l=l.contains n
 | []=>rfl
 | x::l=>by show bi (Nat.beq x n) true (tF n l)=_;rw [LH n l,vU,ajT];by_cases h:x=n;subst h;simp;rw [if_neg h,beq_eq_false_iff_ne.2 (λe=>h e.symm),amx]
theorem za (m:Mem)(id mp since:Nat)(a:List Nat)(e:o7×o7)(es:List (o7×o7))(i:Nat):
  nexts m id mp since a (e::es) i=bi (tF i a) (nexts m id mp since a es (i+1))
   (⟨.tuple [.bool true,e.1,e.2],m.set id (.iter (some mp) since (i::a))⟩::nexts m id mp since a es (i+1)):=rfl
theorem Ck {m:Mem}{id mp since:Nat}{seen:List Nat}:∀{es:List (o7×o7)} {i j:Nat} {e:o7×o7},es[j]?=some e->seen.contains (i+j)=false->
  (⟨.tuple [.bool true,e.1,e.2],m.set id (.iter (some mp) since ((i+j)::seen))⟩:VM)∈nexts m id mp since seen es i
 | [],i,j,e,h,_=>by simp at h
 | x::es,i,0,e,h,hs=>by simp at h;subst h;rw [za,LH,show seen.contains i=false from hs];exact ab1
 | x::es,i,j+1,e,h,hs=>by
  rw [za];have:=Ck (es:=es) (i:=i+1) (j:=j) (m:=m) (id:=id) (mp:=mp) (since:=since) (by simpa using h) (by rw [show i+1+j=i+(j+1) from by omega];exact hs);rw [show i+1+j=i+(j+1) from by omega] at this;cases tF i seen with
  | true=>exact this
  | false=>exact Z4 _ this
theorem Gf {m:Mem}{id mp since:Nat}{seen:List Nat}:∀{es:List (o7×o7)} {i:Nat},(∀j,j<es.length->seen.contains (i+j)=true)->nexts m id mp since seen es i=[]
 | [],i,h=>rfl
 | e::es,i,h=>by rw [za,LH,show seen.contains i=true from h 0 (by simp)];exact Gf λj hj=>by rw [show i+1+j=i+(j+1) from by omega];exact h (j+1) (by simpa using hj)
theorem Gg (n:Nat)(a:0<n)(w:World):∃k w',(choose (.mapNext n)).run P w=.ok k w'∧k<n∧(w'=w∨w'={w with drawn:=w.drawn+1}):=by rw [run_choose];by_cases h:n<=1;exact⟨0,w,by simp [Question.forced,h],a,.inl rfl⟩;exact⟨_,_,by simp only [Question.forced,h,decide_false,Xd,if_false];rfl,aiW _ a,.inr rfl⟩
theorem XQ (u:RM P G ι m w.heap){id mp since:Nat}{seen:List Nat}{es:List (o7×o7)}(V:m.lim<=id)(q:m.get id=some (.iter (some mp) since seen))
  (D:m.get mp=some (.map es)) (J:es.length=since) (t:TypeId):
  ∃v w',(Instr.next (.pointer (some ⟨(ι id).b,0,none⟩)) false t).run P w=.ok v w'∧bA P G ι m w (La m (nexts m id mp since seen es 0)) v w':=by
 obtain⟨b1,b2,A,st,S,b4,b5⟩:=u.blk id _ q;obtain⟨c1,c2⟩:=u.blk mp _ D;have a1:st=since:=b5 (by simp);subst a1;subst J;have T:=gU (P:=P) S (by intro _ _ _ e;cases e);have U:=gU (P:=P) c1 (by intro _ _ _ e;cases e);generalize hL:J5 ι es 0=L at *;have a:∀x∈L,x.born<es.length:=by
  intro x p;obtain⟨j,g⟩:=aax p;rw [← hL,mW] at g;cases he:es[j]? with
  | none=>simp [he] at g
  | some e=>simp [he] at g;rw [← g];simpa using (y8.1 he).1
 have B:(!A.isEmpty && !L.toArray.isEmpty&&L.toArray.all (λe=>decide (e.born≥es.length)))=false:=by
  cases L with
  | nil=>simp
  | cons x L=>have:=a x (by simp);simp;intro _ h;omega
 have O:∀l:List MapEntry,(∀x∈l,x∈L)->l.filter (λe=>decide (e.born<es.length))=l:=λl Y=>ahx.2 λx p=>by simpa using a x (Y x p)
 have N:∀l:List MapEntry,(∀x∈l,x∈L)->l.filter (λe=>decide (e.born≥es.length))=[]:=λl Y=>ahL.2 λx p=>by have:=a x (Y x p);simp;omega
 have n:=λx (p:x∈L.filter (λe=>!A.contains e.born))=>(ad2.1 p).1;simp only [Instr.next,J8,T,J2,aa1,U];rw [if_neg (by rw [B];simp)];simp only [List.filter_toArray,O _ n,N _ n];generalize hlf:L.filter (λe=>!A.contains e.born)=left at *;generalize hc:((if left.toArray.isEmpty=true then #[none] else #[])++Array.map some (left.toArray ++ [].toArray):Array (Option MapEntry))=cands;have c:cands=(if left=[] then #[none] else (left.map some).toArray):=by rw [← hc];cases left<;>simp
 have Q:0<cands.size:=by rw [c];split<;>simp_all;exact ahB (by simp;assumption)
 obtain⟨k,w1,X,r,s⟩:=Gg (P:=P) cands.size Q w;simp only [J8,X,J2];have f:w1.heap=w.heap:=by rcases s with rfl | rfl<;>rfl
 have z:w1.os=w.os∧w1.output=w.output∧w1.tape=w.tape:=by rcases s with rfl | rfl<;>exact⟨rfl,rfl,rfl⟩
 have F:∀x,x∈A.toList↔x∈seen:=λx=>by rw [← b4];simp
 by_cases hl0:left=[];rw [if_pos hl0] at c;have W:k=0:=by rw [c] at r;simpa using r
 rw [c,W];have y:nexts m id mp es.length seen es 0=[]:=Gf λj g=>by
  have p:(J5 ι es 0)[j]?=some {key:=u6 ι es[j].1,val:=u6 ι es[j].2,born:=0+j}:=by rw [mW];simp [g]
  have d:({key:=u6 ι es[j].1,val:=u6 ι es[j].2,born:=0+j}:MapEntry)∈L:=by rw [← hL];exact Xb p
  rw [hl0] at hlf;have:=ahL.1 hlf _ d;simp at this ⊢;rw [← F];simpa using this
 refine⟨.tuple #[.bool false],w1,by simp,⟨.tuple [.bool false],m⟩,by rw [y];exact aA.2 rfl,ι,?_,by simp [o7.lt,bB],by simp [u6,z8]⟩;rcases s with rfl | rfl;exact Step.refl u;exact Step.drew u _;rw [if_neg hl0] at c;have H:k<left.length:=by rw [c] at r;simpa using r
 have E:cands[k]?=some (some left[k]):=by rw [c];simp [H]
 have d:left[k]∈L∧A.contains left[k].born=false:=by have:=ad2.1 (show left[k]∈L.filter (λe=>!A.contains e.born) from by rw [hlf];exact abD H);simpa using this
 generalize left[k]=x at *;obtain⟨j,g⟩:=aax d.1;rw [← hL,mW] at g;cases he:es[j]? with
 | none=>simp [he] at g
 | some e=>
  simp [he] at g;subst g;have M:seen.contains (0+j)=false:=by have h2:=d.2;rw [aa4] at h2 ⊢;intro C;apply h2;simp at C ⊢;have:=(F j).2 C;simpa using this
  have Z:(nexts m id mp es.length seen es 0)≠[]:=List.ne_nil_of_mem (Ck he M);have a0:La m (nexts m id mp es.length seen es 0)=nexts m id mp es.length seen es 0:=by
   cases h:nexts m id mp es.length seen es 0 with
   | nil=>exact absurd h Z
   | cons=>rfl
  have R:=tZ (P:=P) (w:=w1) (o:=.mapIter (some (ι mp).b) es.length (A.push j) es.length) (by rw [f];exact S) (by intro _ _ _ e;cases e);refine⟨.tuple #[.bool true,u6 ι e.1,u6 ι e.2],{w1 with heap:=w1.heap.setIfInBounds (ι id).b (.mapIter (some (ι mp).b) es.length (A.push j) es.length)},?_,_,by rw [a0];exact Ck he M,ι,Step.set (w':={w1 with heap:=w1.heap.setIfInBounds (ι id).b (.mapIter (some (ι mp).b) es.length (A.push j) es.length)}) u V q rfl rfl (o:=.mapIter (some (ι mp).b) es.length (A.push j) es.length) ⟨by rw [f],z.1,z.2.1,z.2.2⟩ ?_ (by intro _ _ _ h;cases h),?_,?_⟩;rw [E];simp [R];refine⟨b1,λx p=>?_,A.push j,es.length,?_,?_,λ_=>rfl⟩;cases p;exact Mem.nQ u.ok q rfl mp ⟨_,D,rfl⟩;simpa using iH S;simp [b4];have K:=c2 e (Xb he);have I:=Mem.aH (ι:=ι) (ι':=ι) (λi hi=>Mem.nQ (b':=.iter (some mp) es.length ((0+j)::seen)) u.ok q rfl i hi) λ_ _=>rfl;exact⟨trivial,o7.O6 I _ K.1,o7.O6 I _ K.2,trivial⟩;simp [u6,z8]
theorem Ru (s:St P ι (m.nm ι) slots done ls env a.tmps)(d:RM P G ι m w.heap)
  {x:Operand} {n:Q8} (C:N8 P slots done x=some n) {cf:F8} {outs:List VM} (B:om (.next n) cf ls env m=some outs):
  ∀o:Oper,o.op=.next x false->Does P a.eval o w (bA P G ι m w outs):=by
 intro o q;obtain⟨p,t⟩:=A9 s C;obtain⟨id,off,f,h⟩:=fG B;have f:G9 n ls env=.ptr id off:=f;obtain⟨A,h⟩:=D8 h;obtain rfl:off=0:=q9 A;obtain⟨l,h⟩:=kJ h;rcases FX h with⟨sn',l',hit,h⟩ | ⟨mp,since,seen,hit,h⟩;cases h;obtain⟨g,D,H,I,r,E,F⟩:=d.blk id _ hit;have k:=gU (P:=P) r (by intro _ _ _ e;cases e);have c:a.eval x=.pointer (some ⟨(ι id).b,0,none⟩):=by rw [p,f];simp [u6,K7.at,g,d.spot _ _ hit rfl]
 refine O9 (v:=.tuple #[.bool false]) (w':=w) ?_ ⟨_,aA.2 rfl,ι,Step.refl d,by simp [o7.lt,bB],by simp [u6,z8]⟩;simp [execOp,q,c,Instr.next,k];obtain⟨u,j,h⟩:=Ce h;obtain⟨i,h⟩:=D8 h;have i:u.length=since:=by rw [← I9];exact q9 i
 cases h;obtain⟨g,_⟩:=d.blk id _ hit;have c:a.eval x=.pointer (some ⟨(ι id).b,0,none⟩):=by rw [p,f];simp [u6,K7.at,g,d.spot _ _ hit rfl]
 obtain⟨v,w',y,z⟩:=XQ d (ku l) hit j i o.type;refine O9 (v:=v) (w':=w') ?_ z;simp [execOp,q,c,y]
end
section
variable {P:Program}{G:Mem}{ι:K7}{m:Mem}{w:World}{slots:List Nat}{done:List (Option Nat)}{ls:List o7}{env:T o7}{a:Act}
theorem pq (l:List UInt8):bytesOf l=l.map λb=>o7.int .u8 b.toNat:=by
 induction l with
 | nil=>rfl
 | cons b l ih=>simp [bytesOf,ih]
theorem wm {v:o7}{n:Nat}(h:lenOf v=some n)(w:World):(Builtin.lenOf (u6 ι v)).run P w=.ok n w:=by cases v<;>simp only [lenOf,Hl,reduceCtorEq] at h<;>subst h<;>simp [u6,Builtin.lenOf,oQ]
theorem jF (e:RM P G ι m w.heap){es n:Nat}{v:o7}{l:List o7}(h:gN m es n v=some l):
  (Builtin.firstCells es n (u6 ι v)).run P w=.ok (z8 ι l).toArray w∧bB (m.nm ι) l:=by
 cases v<;>simp only [gN,Hl,reduceCtorEq] at h
 subst h;refine⟨?_,by rw [pq,dR];intro v f;obtain⟨b,_,rfl⟩:=adP.1 f;simp [o7.lt]⟩;simp only [u6,Builtin.firstCells,Z7];congr 1;simp [pq,bQ,u6,Function.comp_def,ByteArray.data_extract,ahA];subst h;exact⟨by simp [u6,Builtin.firstCells,z8],trivial⟩;obtain⟨a,c,d⟩:=kM e h;exact⟨iW a d,c⟩;obtain⟨a,c,d⟩:=kM e h;exact⟨iW a d,c⟩
theorem Rv (s:St P ι (m.nm ι) slots done ls env a.tmps)(z:RM P G ι m w.heap){c:Call}{t u e:TypeId}{x y:Operand}{l p:Q8}{es:Nat}(I:c.callee=.builtin .copy)
  (j:c.argTypes.toList=[t,u]) (g:c.args.toList=[x,y]) (L:P.underlying t=some (.slice e)) (q:aY P e=some es)
  (U:N8 P slots done x=some l) (V:N8 P slots done y=some p) {cf:F8} {outs:List VM} (D:om (.copy es l p) cf ls env m=some outs):
  ∀o:Oper,o.op=.call c->Does P a.eval o w (bA P G ι m w outs):=by
 intro o K;have j:c.argTypes=#[t,u]:=by rw [← j,aaw]
 have g:c.args=#[x,y]:=by rw [← g,aaw]
 obtain⟨E,_⟩:=A9 s U;obtain⟨F,_⟩:=A9 s V;obtain⟨n,B,D⟩:=D5 D;have J:=wm (P:=P) (ι:=ι) B w;have H:∀id b d cap,u6 ι (G9 l ls env)=.slice (some (ι.at id b)) d cap->Xq.go es m n id b d (G9 p ls env)=some outs->Does P a.eval o w (bA P G ι m w outs):=by intro id b d cap f h;obtain⟨A,Q,h⟩:=D5 h;obtain⟨M,N⟩:=jF z Q;obtain⟨X,w',T,r,k⟩:=nG z h N;cases T;refine O9 (v:=.int .i64 (Nat.min n d)) (w':=w') ?_ ⟨_,aA.2 rfl,ι,k,trivial,rfl⟩;simp [execOp,K,resolve,I,g,j,invoke,builtin,Builtin.copy_,run_underlying L,E,F,f,J,run_sizeOf q,M,r,goInt]
 rcases tJ D with⟨f,h⟩ | ⟨id,b,d,cap,f,h⟩ | ⟨id,b,d,cap,f,h⟩;cases h;have f:G9 l ls env=.nilSlice:=f;have S:∃C,(Builtin.firstCells es 0 (u6 ι (G9 p ls env))).run P w=.ok C w:=by
  have W:gN m es 0 (G9 p ls env)=some []:=by generalize G9 p ls env=v at B;have O:∀i b,aC m i b 0=some []:=λi b=>rfl;cases v<;>simp only [lenOf,reduceCtorEq] at B<;>simp [gN,bytesOf,O]
  exact⟨_,(jF z W).1⟩
 obtain⟨C,R⟩:=S;refine O9 (v:=.int .i64 0) (w':=w) ?_ ⟨_,aA.2 rfl,ι,Step.refl z,trivial,rfl⟩;simp [execOp,K,resolve,I,g,j,invoke,builtin,Builtin.copy_,run_underlying L,E,F,f,J,run_sizeOf q,u6,goInt,R];have f:G9 l ls env=.slice id b d cap:=f;exact H id b d cap (by rw [f];rfl) h;have f:G9 l ls env=.sliceU id b d cap:=f;exact H id b d (((ι id).cap-b) / cap) (by rw [f];simp only [u6]) h
theorem Ao (z:List o7)(k:Nat):Builtin.zeroCells (z8 ι z).toArray k=(z8 ι (U7 z k)).toArray:=by have:=Ga (ι:=ι) z k;rw [← this];simp [Builtin.zeroCells]
theorem OI (s:St P ι (m.nm ι) slots done ls env a.tmps)(C:RM P G ι m w.heap){c:Call}{t e:TypeId}{x:Operand}{l:Q8}{z:List o7}(p:c.callee=.builtin .clear)
  (j:c.argTypes.toList=[t]) (i:c.args.toList=[x]) (r:P.underlying t=some (.slice e)) (I:rM P e=some z)
  (H:N8 P slots done x=some l) {cf:F8} {outs:List VM} (F:om (.clear z l) cf ls env m=some outs):
  ∀o:Oper,o.op=.call c->Does P a.eval o w (bA P G ι m w outs):=by
 intro o q;have j:c.argTypes=#[t]:=by rw [← j,aaw]
 have i:c.args=#[x]:=by rw [← i,aaw]
 obtain⟨n,_⟩:=A9 s H;obtain⟨J,u,y,A⟩:=dZ (P:=P) (w:=w) I ι;have B:∀id d b cap,u6 ι (G9 l ls env)=.slice (some (ι.at id d)) b cap->jX m id d (U7 z b) (λD=>one (.tuple []) D)=some outs->Does P a.eval o w (bA P G ι m w outs):=by
  intro id d b cap f h;obtain⟨D,w',E,g,k⟩:=nG C h (tX (A _) b);cases E;refine O9 (v:=.tuple #[]) (w':=w') ?_ ⟨_,aA.2 rfl,ι,k,by simp [o7.lt,bB],by simp [u6,z8]⟩;cases b with
  | zero=>
   rw [Ah] at g;have:w'=w:=by simp [z8,storeCells] at g;exact g.symm
   subst this;simp [execOp,q,resolve,p,i,j,invoke,builtin,Builtin.clear_,run_underlying r,n,f]
  | succ b=>simp [execOp,q,resolve,p,i,j,invoke,builtin,Builtin.clear_,run_underlying r,n,f,u,y,Ao,g]
 rcases tJ F with⟨f,h⟩ | ⟨id,d,b,cap,f,h⟩ | ⟨id,d,b,cap,f,h⟩;cases h;have f:G9 l ls env=.nilSlice:=f;refine O9 (v:=.tuple #[]) (w':=w) ?_ ⟨_,aA.2 rfl,ι,Step.refl C,by simp [o7.lt,bB],by simp [u6,z8]⟩;simp [execOp,q,resolve,p,i,j,invoke,builtin,Builtin.clear_,run_underlying r,n,f,u6];have f:G9 l ls env=.slice id d b cap:=f;exact B id d b cap (by rw [f];rfl) h;have f:G9 l ls env=.sliceU id d b cap:=f;exact B id d b (((ι id).cap-d) / cap) (by rw [f];simp only [u6]) h
end
section
variable {P:Program}{G:Mem}{ι:K7}{m:Mem}{w:World}
theorem Step.adi {G:Mem}(h:RM P G ι m w.heap){id:Nat}{b b':P9}(A:m.lim<=id)(E:m.get id=some b)(H:U8 b=true)(V:dO b'=false){o:Obj}{w':World}
  (C:Put w w' (ι id).b o) {l:Loc} (B:l.b=(ι id).b) (Q:l.spot=none)
  (I:dN P (ι.upd m.nx l) ((((m.set id .dead).new b')).nm (ι.upd m.nx l)) (w.heap.setIfInBounds (ι id).b o) l b')
  (W:∀c e fz,o=.cells c e fz->∀k,k<c.size->¬ (fz.1<=k∧k<fz.2)):
  Step P G ι m w (ι.upd m.nx l) ((m.set id .dead).new b') w':=by
 have L:=Mem.I8 h.ok E;have s:=Mem.aB h.ok L .dead;have r:T.Ok (m.set id .dead).t (m.set id .dead).nx:=h.ok.put id .dead L;have g:∀i,((m.set id .dead).new b').get i=if i=m.nx then some b' else if i=id then some .dead else m.get i:=λi=>by rw [Mem.K6 r,s];rfl
 have F:∀i x,m.get i=some x->i≠m.nx:=λi x d e=>by have:=Mem.I8 h.ok d;omega
 have q:∀j,m.has j->ι.upd m.nx l j=ι j:=λj ⟨x,d,_⟩=>ι.upd_ne l (F j x d);have u:∀i,m.has i->((m.set id .dead).new b').has i:=λi ⟨x,d,hv⟩=>by by_cases he:i=id;exact⟨.dead,by rw [g,if_neg (F i x d),if_pos he],rfl⟩;exact⟨x,by rw [g,if_neg (F i x d),if_neg he];exact d,hv⟩
 have z:=h.own id b A E H;have J:(ι id).b<w.heap.size:=eG (h.blk id b E) H;have f:∀i x,((m.set id .dead).new b').get i=some x->U8 x=true->(i=m.nx∧x=b')∨(i≠m.nx∧i≠id∧m.get i=some x):=λi x d a=>by rw [g] at d;split at d;cases d;exact .inl ⟨by assumption,rfl⟩;split at d;cases d;cases a;exact .inr ⟨by assumption,by assumption,d⟩
 refine⟨⟨r.push b',?_,?_,h.glim,aj3 h.limn,h.gle,λi p=>by rw [g,if_neg (by have:=h.glim;have:=h.limn;omega),if_neg (by have:=h.glim;omega)];exact h.base i p,λi p=>u i (h.ghas i p),λi p=>by rw [q i (h.ghas i p)];exact h.glob i p,λi x d a=>by
   rcases f i x d a with⟨rfl,_⟩ | ⟨h1,_,h3⟩;rw [ι.U3];exact Q;rw [ι.upd_ne l h1];exact h.spot i x h3 a,h.Om λD N R=>by
   rw [C.heap,getElem?_set_ne];intro e;exact R ⟨id,b,A,E,H,e⟩⟩,q,u,amj _,rfl,?_,by rw [C.heap];simp,?_,?_,C.os,C.out,C.tape⟩
 intro i x d;rw [g] at d;rw [C.heap];split at d;rename_i e;subst e;cases d;simpa using I;rename_i e;split at d;cases d;trivial;rename_i U;rw [ι.upd_ne l e];exact (h.blk i x d).mono (n:=m.nm ι) q (Mem.aH u q) (λa=>getElem?_set_ne _ _ _ _ (λM=>z.alone i x U d a M.symm));intro i x p d a;have p:m.lim<=i:=p;rcases f i x d a with⟨rfl,rfl⟩ | ⟨h1,h2,h3⟩;refine⟨λj y O S v=>?_,λc e fz K=>?_⟩;rcases f j y S v with⟨h4,_⟩ | ⟨h4,h5,h6⟩;exact absurd h4 O;rw [ι.upd_ne l h4,ι.U3,B];exact z.alone j y h5 h6 v;rw [ι.U3,B,C.heap,Y6 J] at K;exact W c e fz (Y5 K);refine⟨λj y O S v=>?_,λc e fz K=>?_⟩;rw [ι.upd_ne l h1];rcases f j y S v with⟨rfl,_⟩ | ⟨h4,h5,h6⟩;rw [ι.U3,B];exact (h.own i x p h3 a).alone id b (λe=>h2 e.symm) E H;rw [ι.upd_ne l h4];exact (h.own i x p h3 a).alone j y O h6 v;rw [ι.upd_ne l h1,C.heap,getElem?_set_ne _ _ _ _ (λM=>z.alone i x h2 h3 a M.symm)] at K;exact (h.own i x p h3 a).free c e fz K;intro i p;rw [g,if_neg (by have:=h.limn;omega),if_neg (by omega)];intro D _ R;rw [C.heap,getElem?_set_ne];intro e;exact R ⟨id,b,A,E,H,e⟩;rintro D ⟨i,x,p,d,a,rfl⟩;rcases f i x d a with⟨rfl,rfl⟩ | ⟨h1,h2,h3⟩;rw [ι.U3,B];exact .inl ⟨id,b,A,E,H,rfl⟩;rw [ι.upd_ne l h1];exact .inl ⟨i,x,p,h3,a,rfl⟩
def Fits (P:Program)(ι:K7)(m:Mem)(es need:Nat)(cells:List o7)(b':P9):Prop:=
 dO b'=false∧∀(ι':K7) (n':Nm) (h':Array Obj) (l':Loc) (c':Array Value) (e:TypeId) (fz:Nat×Nat),(m.nm ι).le n'->(∀i,m.has i->ι' i=ι i)->
  h'[l'.b]?=some (.cells c' e fz)->l'.base+l'.cap<=c'.size->need*es<=l'.cap->(∀(j:Nat) (v:o7),cells[j]?=some v->c'[l'.base+j]?=some (u6 ι v))->dN P ι' n' h' l' b'
theorem xH {es need:Nat}{cells:List o7}{h:List (List o7)}(C:rowsOf es need cells=some h)(f:bB (m.nm ι) cells):Fits P ι m es need cells (.cells es need (T.ofList h)):=by
 refine⟨rfl,λD G E F t e u o c B b a k=>?_⟩;obtain⟨x,y,z⟩:=iX _ _ _ _ C;refine⟨t,e,u,B,b,⟨a,h.length,by omega,T.fO h,by rw [← y];exact vQ (T.fO h)⟩,λi s=>?_⟩;obtain⟨p,w,q,r⟩:=z i s;refine⟨p,by rw [T.au];exact w,q,dR.2 λv g=>?_,λj d=>?_⟩;obtain⟨j,d⟩:=aax g;have l:j<es:=afA (y8.1 d).1 q;rw [r j l] at d;exact o7.O6 o _ (P5 f (Xb d));rw [r j d];have A:i*es+j<cells.length:=by
  rw [x]
  calc i*es+j<i*es+es:=by omega
   _=(i+1)*es:=by rw [abF]
   _<=need*es:=aas _ s
 have g:=y7 A;rw [k _ _ g,g,aa1,U0 (n:=m.nm ι) c _ (P5 f (Xb g))]
theorem Vf (o:RM P G ι m w.heap){id es k:Nat}{rows:T (List o7)}(n:m.get id=some (.cells es k rows)):∀len,len<=k->
  ∃l:List o7,l.length=len*es∧bB (m.nm ι) l∧oV ι w id 0 l∧∀i,i<len->∃row,rows.get i=some row∧row.length=es∧∀j,j<es->l[i*es+j]?=row[j]?:=by
 intro len;induction len with
 | zero=>intro _;exact⟨[],by simp,trivial,λj v a=>by simp at a,λi u=>by omega⟩
 | succ len ih=>
  intro y;obtain⟨l,h,q,r,s⟩:=ih (by omega);obtain⟨c,e,C,_,_,_,t⟩:=o.blk id _ n;obtain⟨row,f,g,p,_⟩:=t len (by omega);refine⟨l++row,by simp [h,g,abF],dR.2 λv a=>?_,λj v a=>?_,λi u=>?_⟩;rcases aau.1 a with a | a;exact P5 q a;exact P5 p a;by_cases d:j<l.length;rw [aan d] at a;exact r j v a;rw [aaC (by omega)] at a;have x:=(y8.1 a).1;have:=(LB o n (i:=len) (by omega) (by omega:j-l.length<es) f a).1
  rwa [show len*es+(j-l.length)=0+j from by omega] at this
  by_cases hil:i<len;obtain⟨b,z,A,B⟩:=s i hil;refine⟨b,z,A,λj d=>?_⟩;have:i*es+j<l.length:=by
   rw [h]
   calc i*es+j<i*es+es:=by omega
    _=(i+1)*es:=by rw [abF]
    _<=len*es:=aas _ hil
  rw [aan this];exact B j d;obtain rfl:i=len:=by omega
  refine⟨row,f,g,λj d=>?_⟩;rw [aaC (by omega)];congr 1;omega
theorem XR (K:RM P G ι m w.heap){id es k len:Nat}{rows:T (List o7)}(I:m.get id=some (.cells es k rows))(y:len<=k)(z:0<len){l new:List o7}(J:l.length=len*es)
  (p:∀i,i<len->∃row,rows.get i=some row∧row.length=es∧∀j,j<es->l[i*es+j]?=row[j]?) (x:new.length=es) (t:bB (m.nm ι) l) (g:bB (m.nm ι) new):
  Fits P ι m es (len+1) (l++new) (.cells es (len+1) (rows.put len new)):=by
 obtain⟨_,_,_,_,_,⟨_,N,R,c,_⟩,_⟩:=K.blk id _ I;refine⟨rfl,λO V Q U C e D s f H r o q=>⟨C,e,D,H,r,⟨o,?_⟩,λi S=>?_⟩⟩;rcases ae9 len N with h | h;exact⟨N,by omega,c.put _ _ h,λM E=>by omega⟩;obtain rfl:len=N:=by omega
 exact⟨len+1,aP _,c.push _,λM E=>by omega⟩;by_cases hil:i=len;subst hil;refine⟨new,T.bM c _ _ (by omega),x,eF s _ g,λj a=>?_⟩;have d:new[j]?=some new[j]:=y7 (by omega);have:(l++new)[i*es+j]?=some new[j]:=by rw [aaC (by omega),← d];congr 1;omega
 rw [q _ _ this,d,aa1,U0 (n:=m.nm ι) f _ (P5 g (Xb d))];obtain⟨row,L,A,B⟩:=p i (by omega);have b:∀j,j<es->i*es+j<l.length:=λj a=>by
  rw [J]
  calc i*es+j<i*es+es:=by omega
   _=(i+1)*es:=by rw [abF]
   _<=len*es:=aas _ (by omega)
 refine⟨row,by rw [T.bY c _ _ _ (by omega) (λe=>hil e.symm)];exact L,A,dR.2 λv d=>?_,λj a=>?_⟩;obtain⟨j,a⟩:=aax d;have u:j<es:=afA (y8.1 a).1 A;rw [← B j u] at a;exact o7.O6 s _ (P5 t (Xb a));have d:l[i*es+j]?=some (l[i*es+j]'(b j a)):=y7 (b j a);have F:(l++new)[i*es+j]?=some (l[i*es+j]'(b j a)):=by rw [aan (b j a)];exact d
 rw [q _ _ F,← B j a,d,aa1,U0 (n:=m.nm ι) f _ (P5 t (Xb d))]
end
section
variable {P:Program}{G:Mem}{ι:K7}{m:Mem}{w:World}{a:Act}
theorem JG (need:Nat):∀(r c:Nat),Builtin.growBy need r c<=max c (need+(need+768) / 4)
 | 0,c=>by simp only [Builtin.growBy];omega
 | r+1,c=>by simp only [Builtin.growBy];split;omega;have:=JG need r (c+(c+768) / 4);omega
theorem nextslicecap_le (need old:Nat)(h:old<need):Builtin.nextslicecap need old<=2*need+2048:=by unfold Builtin.nextslicecap;split;omega;split;omega;have:=JG need 4 old;omega
def Gh:TypeDesc->Bool
 | .int _=>true
 | _=>false
def aeH (P:Program)(w:World)(zs:Bool)(by' n:Nat)(x:Value):Prop:=
 (zs=false∧(Builtin.lenOf x).run P w=.ok n w)∨(zs=true∧(∃k,x=.int k n)∧n<9223372036854775808∧n*by'<=281474976710656)
def kP (zs:Bool)(e:TypeId)(es sLen sCap:Nat)(base:Option Addr)(x:Value)(n:Nat):Sem Value:=do
 let appended:Sem (Array Value):=
  if !zs then Builtin.firstCells es n x
  else if n*es=0 then pure #[]
  else do pure (Builtin.zeroCells (← zeroValue e).cells n)
 let need:=sLen+n
 if need<=sCap then
  let new ← appended
  if let some a:=base then storeCells (a.add (sLen*es)) new.toList
  pure (.slice base need sCap)
 else
  if (need:Int)>IntKind.i64.max∧(zs∨(← typeInfo e).bytes=0) then runtimePanic (.error "growslice: len out of range")
  if Builtin.nextslicecap need sCap*(← typeInfo e).bytes>2^48 then (if zs then runtimePanic (.error "growslice: len out of range") else do
   if !(← Builtin.mayShare es sLen n base x) then mark .noRoom
   unsupported (.resourceLimit "append: a slice or a string whose bytes no memory bears"))
  let newCap ← choose (.appendCap need sCap e)
  askRoom (newCap*(← typeInfo e).bytes)
  let old ← Builtin.firstCells es sLen (.slice base sLen sCap)
  let new ← appended
  let rest:=Builtin.zeroCells (← zeroValue e).cells (newCap-need)
  pure (.slice (some (← newRow e (old++new++rest))) need newCap)
theorem Dv {t u e T:TypeId}{d:TypeDesc}{es a n sLen sCap:Nat}{base:Option Addr}{x:Value}(o:P.underlying t=some (.slice e))(c:aY P e=some es)(m:P.underlying u=some d)
  (i:gZ P e=some a) (p:aeH P w (Gh d) a n x):
  (Builtin.append_ #[t,u] T #[.slice base sLen sCap,x]).run P w=(kP (Gh d) e es sLen sCap base x n).run P w:=by
 obtain⟨g,j,l⟩:=xD (w:=w) i;rcases p with⟨hz,h1⟩ | ⟨hz,⟨k,rfl⟩,h2,h3⟩;cases d with
 | int=>cases hz
 | _=>simp only [Builtin.append_,adL,ahH,abB,J8,run_underlying o,J2,run_sizeOf c,run_underlying m,Z7,Xd,if_false,h1,kP,Gh];rfl
 cases d with
 | int k'=>
  have q:IntKind.i64.wrap (n:Int)=n:=zY _ ⟨by omega,by omega⟩;have b:¬ ((n:Int)*(g.bytes:Int)>2^48):=by
   rw [l];have:((n*a:Nat):Int)=(n:Int)*(a:Int):=by simp
   rw [← this];have h:(2:Int)^48=281474976710656:=rfl;rw [h];omega
  have f:¬ ((n:Int)<0):=by omega
  simp only [Builtin.append_,adL,ahH,abB,J8,run_underlying o,J2,run_sizeOf c,run_underlying m,Z7,if_true,asInt,asIntOf,q,f,if_false,j,b,aj4,kP,Gh];rfl
 | _=>cases hz
theorem kQ {zs:Bool}{e:TypeId}{es sLen sCap n:Nat}{base:Option Addr}{x:Value}{new:List Value}{w':World}(b:sLen+n<=sCap)
  (c:(if (!zs)=true then Builtin.firstCells es n x else if n*es=0 then pure #[] else do pure (Builtin.zeroCells (← zeroValue e).cells n):Sem (Array Value)).run P w=.ok new.toArray w)
  (a:match base with | some ad=>(storeCells (ad.add (sLen*es)) new 0).run P w=.ok () w' | none=>w'=w):
  (kP zs e es sLen sCap base x n).run P w=.ok (.slice base (sLen+n) sCap) w':=by
 unfold kP;simp only [b,if_true];rw [J8,c,J2];cases base with
 | none=>subst a;simp
 | some ad=>simp only [] at a;simp [a]
theorem kR {zs:Bool}{e:TypeId}{es by' sLen sCap n:Nat}{base:Option Addr}{x:Value}{z:List o7}{old new:List Value}(i:gZ P e=some by')(G:rM P e=some z)
  (f:¬ sLen+n<=sCap) (A:(2*(sLen+n)+2048)*by'<=281474976710656) (j:1<=by')
  (m:∀w':World,w'.heap=w.heap->(Builtin.firstCells es sLen (.slice base sLen sCap)).run P w'=.ok old.toArray w')
  (l:∀w':World,w'.heap=w.heap->(if (!zs)=true then Builtin.firstCells es n x else if n*es=0 then pure #[] else do pure (Builtin.zeroCells (← zeroValue e).cells n):Sem (Array Value)).run P w'=.ok new.toArray w'):
  ∃(capN:Nat) (rest:List Value),sLen+n<=capN∧rest.length=(capN-(sLen+n))*z.length∧
   (kP zs e es sLen sCap base x n).run P w=.ok (.slice (some ⟨w.heap.size,0,none⟩) (sLen+n) capN)
    {w with heap:=w.heap.push (.cells (old++new++rest).toArray e),drawn:=w.drawn+1}:=by
 obtain⟨g,s,t⟩:=xD (w:=w) i;have F:(2*(sLen+n)+2048)*1<=(2*(sLen+n)+2048)*by':=Nat.mul_le_mul_left _ j;have h:=nextslicecap_le (sLen+n) sCap (by omega);have B:Builtin.nextslicecap (sLen+n) sCap*by'<=(2*(sLen+n)+2048)*by':=aas _ h;have C:¬ (((sLen+n:Nat):Int)>IntKind.i64.max):=by have:IntKind.i64.max=9223372036854775807:=rfl;rw [this];omega
 have D:¬ (Builtin.nextslicecap (sLen+n) sCap*g.bytes>2^48):=by rw [t];have o:(2:Nat)^48=281474976710656:=rfl;rw [o];omega
 obtain⟨H,u,v,_⟩:=dZ (P:=P) (w:={w with drawn:=w.drawn+1}) G (λ_=>⟨0,0,0,none⟩);refine⟨sLen+n+w.tape w.drawn (.appendCap (sLen+n) sCap e)%(2^63-(sLen+n)),(Builtin.zeroCells H.cells (sLen+n+w.tape w.drawn (.appendCap (sLen+n) sCap e)%(2^63-(sLen+n))-(sLen+n))).toList,by omega,?_,?_⟩;simp [Builtin.zeroCells,v];unfold kP;simp only [f,if_false];have k:∀w',(typeInfo e).run P w'=.ok g w':=by
  intro w';obtain⟨I,y,_⟩:=xD (w:=w') i;have E:∀c d:World,∀a b,(typeInfo e).run P c=.ok a c->(typeInfo e).run P d=.ok b d->a=b:=by intro c d a b p q;unfold typeInfo at p q;simp only [J8,run_program,J2] at p q;split at p<;>split at q<;>simp_all
  rw [y,E w' w _ _ y s]
 have r:∀w':World,(choose (.appendCap (sLen+n) sCap e)).run P w'=.ok (sLen+n+w'.tape w'.drawn (.appendCap (sLen+n) sCap e)%(2^63-(sLen+n))) {w' with drawn:=w'.drawn+1}:=by intro w';rw [run_choose];simp [Question.forced,Question.cut]
 simp only [J8,k,J2,C,D,false_and,if_false,Z7,r,run_askRoom,m {w with drawn:=w.drawn+1} rfl,l {w with drawn:=w.drawn+1} rfl,u,eZ];simp only [ame,← List.append_toArray,aaw]
theorem Gi (l:RM P G ι m w.heap){es need capN:Nat}{cells:List o7}{b':P9}(f:Fits P ι m es need cells b'){c:Array Value}{e:TypeId}{w':World}
  (p:XH w w' (.cells c e)) (n:c.size=capN*es) (d:need<=capN) (g:∀(j:Nat) (v:o7),cells[j]?=some v->c[j]?=some (u6 ι v)):
  Step P G ι m w (ι.upd m.nx ⟨w.heap.size,0,capN*es,none⟩) (m.new b') w':=by
 obtain⟨o,f⟩:=f;have a:=Laid.new l.ok l.limn b' o;have b:∀j,m.has j->(ι.upd m.nx ⟨w.heap.size,0,capN*es,none⟩) j=ι j:=λj i=>ι.upd_ne _ λh=>a.free (h▸i);refine Step.lay l a p rfl rfl ?_ ?_;refine f _ _ _ _ c e _ (Mem.aH a.has b) b eB ?_ ?_ λj v i=>?_;show 0+capN*es<=c.size;omega;exact aas _ d;rw [Z9];exact g j v i;intro q r s h k t;cases h;simp
theorem Fits.kill (o:RM P G ι m w.heap){es need q:Nat}{cells:List o7}{b' g:P9}(d:Fits P ι m es need cells b')(p:m.lim<=q)(l:m.get q=some g):Fits P ι (m.set q .dead) es need cells b':=by have f:=Step.kill o p l;refine⟨d.1,λc s k r h e j b a=>d.2 c s k r h e j (Nm.le_trans (Mem.aH f.has λ_ _=>rfl) b) λi n=>a i (f.has i n)⟩
theorem Vg (f:RM P G ι m w.heap){es need capN q:Nat}{cells:List o7}{b' i:P9}(k:Fits P ι m es need cells b')(g:m.lim<=q)(d:m.get q=some i){c:Array Value}{e:TypeId}{w':World}
  (l:XH w w' (.cells c e)) (h:c.size=capN*es) (a:need<=capN) (b:∀(j:Nat) (v:o7),cells[j]?=some v->c[j]?=some (u6 ι v)):
  Step P G ι m w (ι.upd m.nx ⟨w.heap.size,0,capN*es,none⟩) ((m.set q .dead).new b') w':=
 (Step.kill f g d).trans (Gi (Step.kill f g d).rm (Fits.kill f k g d) l h a b)
theorem aaT (A:RM P G ι m w.heap){q rs k:Nat}{rows:T (List o7)}(K:m.lim<=q)(H:m.get q=some (.cells rs k rows)){c:Array Value}{e:TypeId}{f:Nat×Nat}(F:w.heap[(ι q).b]?=some (.cells c e f))
  {B C len n es:Nat} {old new:List o7} {b':P9} (D:B+C<=c.size) (g:(len+n)*es<=C) (Q:old.length=len*es) (O:new.length=n*es) (s:N7 new=true)
  (r:∀(j:Nat) (v:o7),old[j]?=some v->c[B+j]?=some (u6 ι v)) (E:Fits P ι m es (len+n) (old++new) b'):
  ∃w',(storeCells ⟨(ι q).b,B+len*es,none⟩ (z8 ι new) 0).run P w=.ok () w'∧
   Step P G ι m w (ι.upd m.nx ⟨(ι q).b,B,C,none⟩) ((m.set q .dead).new b') w':=by
 have t:=A.own q _ K H rfl;have l:=t.free c e f F;have L:(len+n)*es=len*es+n*es:=adU _ _ _;have x:=oZ (P:=P) (z8 ι new) c (B+len*es) 0 w F (by simp;omega) l (λv z=>by
  rw [bQ] at z;obtain⟨u,R,rfl⟩:=adP.1 z;exact Ci (qF s u R))
 refine⟨_,x,?_⟩;obtain⟨z,E⟩:=E;have I:=Step.kill A K H;have d:=Laid.new I.rm.ok I.rm.limn b' z;have a:∀j,m.has j->(ι.upd m.nx ⟨(ι q).b,B,C,none⟩) j=ι j:=λj ⟨y,hy,_⟩=>ι.upd_ne _ λh=>by have:=Mem.I8 A.ok hy;omega
 refine Step.adi (o:=.cells (over c (B+len*es+0) (z8 ι new)) e f) (w':={w with heap:=w.heap.setIfInBounds (ι q).b (.cells (over c (B+len*es+0) (z8 ι new)) e f)}) A K H rfl z ⟨rfl,rfl,rfl,rfl⟩ rfl rfl ?_ ?_;refine E _ _ _ _ _ e f (Mem.aH (λi N=>d.has i (I.has i N)) a) a (iH F) ?_ g λj v p=>?_;simpa using D;show (over c (B+len*es+0) (z8 ι new))[B+j]?=some (u6 ι v);rw [Aj _ _ _ (by simp;omega)];by_cases h1:j<old.length;rw [aan h1] at p;rw [if_pos (by omega)];exact r j v p;rw [aaC (by omega)] at p;have W:=(y8.1 p).1;rw [if_neg (by omega),if_pos (by simp;omega),aX,show B+j-(B+len*es+0)=j-old.length from by omega,p];rfl;intro U V M h S J;cases h;exact l S (by simpa using J)
theorem oz {w':World}{l:Loc}{m':Mem}(d:l.spot=none)(f:Step P G ι m w (ι.upd m.nx l) m' w')(g:m'.has m.nx){es need:Nat}(c:1<=es)(e:need*es<=l.cap){cap:Nat}(a:cap=l.cap / es):
  bA P G ι m w [⟨.sliceU m.nx 0 need es,m'⟩] (.slice (some ⟨l.b,l.base,none⟩) need cap) w':=by
 refine⟨_,aA.2 rfl,_,f,⟨g,c,?_⟩,?_⟩;show 0+need*es<=((ι.upd m.nx l) m.nx).cap;rw [K7.U3];omega;simp [u6,K7.at,a,d]
theorem LJ (h:T.Ok m.t m.nx){b:P9}(hb:dO b=false):(m.new b).has m.nx:=⟨b,by rw [Mem.K6 h,if_pos rfl],hb⟩
theorem wo {n bytes es:Nat}(h:big n bytes es=true):(2*n+2048)*bytes<=281474976710656∧1<=es∧1<=bytes:=by
 unfold big at h;cases h1:Nat.ble (Nat.mul (Nat.add (Nat.mul 2 n) 2048) bytes) 281474976710656 with
 | false=>rw [h1] at h;cases h
 | true=>
  rw [h1] at h;cases h2:Nat.ble 1 es with
  | false=>rw [h2] at h;cases h
  | true=>rw [h2] at h;exact⟨U9 h1,U9 h2,U9 h⟩
theorem XT {β:Type}{b:Option P9}{c:Nat->Nat->T (List o7)->Option β}{k:Nat->Option β}{r:β}(h:Js b c k=some r):
  (∃rs n rows,b=some (.cells rs n rows)∧c rs n rows=some r)∨∃p,b=some (.tail p)∧k p=some r:=by
 unfold Js at h;split at h;exact .inl ⟨_,_,_,rfl,h⟩;exact .inr ⟨_,rfl,h⟩;cases h
theorem Ap {es n:Nat}{cells:List o7}{outs:List VM}(h:grown m es n cells=some outs):∃rl,rowsOf es n cells=some rl∧outs=[⟨.sliceU m.nx 0 n es,m.new (.cells es n (T.ofList rl))⟩]:=by obtain⟨rl,a,h⟩:=D5 h;cases h;exact⟨rl,a,rfl⟩
theorem OJ {α:Type}{b:Bool}{x y:Option α}{r:α}(h:bi b x y=some r):(b=true∧x=some r)∨(b=false∧y=some r):=by
 cases b with
 | true=>exact .inl ⟨rfl,h⟩
 | false=>exact .inr ⟨rfl,h⟩
theorem JH {a b:Nat}(h:Nat.ble a b=false):¬ a<=b:=λc=>by rw [Q6 c] at h;cases h
end
section
variable {P:Program}{G:Mem}{ι:K7}{m:Mem}{w:World}{slots:List Nat}{done:List (Option Nat)}{ls:List o7}{env:T o7}{a:Act}
theorem Tz (f:RM P G ι m w.heap){id rs k:Nat}{rows:T (List o7)}(d:m.get id=some (.cells rs k rows)):∃c e fz,w.heap[(ι id).b]?=some (.cells c e fz)∧(ι id).base+(ι id).cap<=c.size∧
  ∀j v,w.cell? (ι.at id j)=some v->c[(ι id).base+j]?=some v:=by
 obtain⟨c,e,fz,a,g,_⟩:=f.blk id _ d;refine⟨c,e,fz,a,g,λj v h=>?_⟩;simpa [World.cell?,K7.at,a,f.spot id _ d rfl] using h
theorem OL (o:RM P G ι m w.heap){e:TypeId}{es E n:Nat}{z:List o7}(hz:Ej P e=some z)(ad:aY P e=some es)(U:gZ P e=some E)
  {zs:Bool} {x:Value} {new:List o7} (i:bB (m.nm ι) new) (a2:n=0->new=[])
  (g:∀w':World,w'.heap=w.heap->(if (!zs)=true then Builtin.firstCells es n x else if n*es=0 then pure #[] else do pure (Builtin.zeroCells (← zeroValue e).cells n):Sem (Array Value)).run P w'=.ok (z8 ι new).toArray w')
  {sv:o7} (a9:sv.lt (m.nm ι)) {outs:List VM} (h:Dj m es E n new sv=some outs):
  ∃base sLen sCap v w',u6 ι sv=.slice base sLen sCap∧(kP zs e es sLen sCap base x n).run P w=.ok v w'∧bA P G ι m w outs v w':=by
 obtain⟨Z,aa⟩:=ow hz;obtain rfl:es=z.length:=by rw [ad] at aa;exact Y5 aa
 rcases tJ h with⟨rfl,h⟩ | ⟨id,off,len,cap,rfl,h⟩ | ⟨id,off,len,es',rfl,h⟩
 ·
  refine⟨none,0,0,?_⟩;cases n with
  | zero=>have h:one .nilSlice m=some outs:=h;cases h;obtain rfl:=a2 rfl;exact⟨.slice none 0 0,w,rfl,kQ (aP 0) (g w rfl) rfl,_,aA.2 rfl,ι,Step.refl o,trivial,rfl⟩
  | succ n=>
   have h:bi (big (n+1) E z.length) (grown m z.length (n+1) new) none=some outs:=h;obtain⟨L,h⟩:=D8 h;obtain⟨b1,D,b3⟩:=wo L;obtain⟨rl,I,rfl⟩:=Ap h;obtain⟨capN,f,r1,r2,r3⟩:=kR (P:=P) (w:=w) (zs:=zs) (e:=e) (es:=z.length) (sLen:=0) (sCap:=0) (base:=none) (x:=x) (n:=n+1) (old:=[]) U Z (by omega) (by simpa using b1) b3
    (λw' _=>by simp [Builtin.firstCells]) g
   have d:=(iX _ _ _ _ I).1;have s:=Gi o (xH I i) (c:=([]++z8 ι new++f).toArray) (e:=e) (w':={w with heap:=w.heap.push (.cells ([]++z8 ι new++f).toArray e),drawn:=w.drawn+1}) ⟨rfl,rfl,rfl,rfl⟩ (capN:=capN)
    (by simp only [ad5,J9,aay,Y9,d,r2,Z9];rw [← adU];congr 1;omega) (by omega)
    (λj v t=>by
     have y:=(y8.1 t).1;simp only [abX,adL];rw [aan (by simpa using y),aX,t];rfl)
   refine⟨_,_,rfl,r3,?_⟩;have:=oz rfl s (LJ o.ok rfl) D (need:=n+1) (aas _ (by omega)) (cap:=capN) (by show capN=capN*z.length / z.length;rw [ahD _ D]);simpa using this
 ·
  refine⟨some (ι.at id off),len,cap,?_⟩;have h:bi (Nat.ble (len+n) cap) (jX m id (off+len*z.length) new λm'=>one (.slice id off (len+n) cap) m')
   (bi (big (len+n) E z.length) (ob (aC m id off (len*z.length)) λold=>grown m z.length (len+n) (aJ old new)) none)=some outs:=h
  rcases OJ h with⟨hf,h⟩ | ⟨hf,h⟩;obtain⟨m',w',hk,a6,s⟩:=nG o h i;cases hk;exact⟨_,w',rfl,kQ (U9 hf) (g w rfl) (by simp only [K7.oP];exact a6),_,aA.2 rfl,ι,s,s.has id a9,by simp [u6]⟩;obtain⟨L,h⟩:=D8 h;obtain⟨b1,D,b3⟩:=wo L;obtain⟨old,ho,h⟩:=D5 h;rw [P8] at h;obtain⟨rl,I,rfl⟩:=Ap h;obtain⟨o1,o2,o3⟩:=kM o ho;obtain⟨capN,f,r1,r2,r3⟩:=kR (P:=P) (w:=w) (zs:=zs) (e:=e) (es:=z.length) (sLen:=len) (sCap:=cap) (base:=some (ι.at id off)) (x:=x) (n:=n) (old:=z8 ι old) U Z (JH hf) b1 b3
   (λw' hw=>iW o1 (λj v t=>by have:=o3 j v t;simpa [World.cell?,hw] using this)) g
  have W:bB (m.nm ι) (old++new):=dR.2 λv hv=>(aau.1 hv).elim (P5 o2) (P5 i);have d:=(iX _ _ _ _ I).1;have s:=Gi o (xH I W) (c:=(z8 ι old++z8 ι new++f).toArray) (e:=e) (w':={w with heap:=w.heap.push (.cells (z8 ι old++z8 ι new++f).toArray e),drawn:=w.drawn+1}) ⟨rfl,rfl,rfl,rfl⟩ (capN:=capN)
   (by
    rw [J9] at d;simp only [ad5,J9,Y9,d,r2];rw [← adU];congr 1;omega) (by omega)
   (λj v t=>by
    have y:=(y8.1 t).1;rw [J9] at y;rw [adL,aan (by simpa using y),bQ,bQ,← adJ,aaB,t];rfl)
  refine⟨_,_,rfl,r3,?_⟩;exact oz rfl s (LJ o.ok rfl) D (need:=len+n) (aas _ (by omega)) (cap:=capN) (by show capN=capN*z.length / z.length;rw [ahD _ D])
 ·
  obtain⟨ah,a7,Y⟩:=a9;have Y:off+len*es'<=(ι id).cap:=Y;have M:len<=((ι id).cap-off) / es':=(adW a7).2 (by omega);refine⟨some (ι.at id off),len,((ι id).cap-off) / es',?_⟩;cases n with
  | zero=>have h:one (.sliceU id off len es') m=some outs:=h;cases h;obtain rfl:=a2 rfl;refine⟨_,w,rfl,kQ (w':=w) M (g w rfl) (by simp [z8,storeCells]),_,aA.2 rfl,ι,Step.refl o,⟨ah,a7,Y⟩,by simp [u6]⟩
  | succ n=>
   have h:bi (Nat.beq z.length es') (bi (big (len+(n+1)) E z.length) (bi (Nat.ble m.lim id) (bi (N7 new)
    (Js (m.get id)
     (λJ k a=>
      bi (bi (Nat.beq J z.length) (bi (Nat.beq off 0) (bi (Nat.ble len k) (bi (Nat.beq (n+1) 1) (bi (Nat.beq (len' new) z.length) (Nat.blt 0 len) false) false) false) false) false)
       (one (.sliceU m.nx 0 (Nat.succ len) z.length) ((m.set id .dead).new (.cells z.length (Nat.succ len) (a.put len new))))
       (ob (U4 J k a (len*z.length) off) λold=>grown (m.set id .dead) z.length (len+(n+1)) (aJ old new)))
     (λp=>P6 (m.get p) λ_ _ _=>bi (Nat.ble m.lim p) (bi (Nat.beq len 0) (grown (m.set p .dead) z.length (n+1) new) none) none)) none) none) none) none=some outs:=h
   obtain⟨q1,k1⟩:=D8 h;clear h;obtain rfl:=q9 q1;obtain⟨q2,k2⟩:=D8 k1;obtain⟨b1,D,b3⟩:=wo q2;obtain⟨q3,k3⟩:=D8 k2;have Q:m.lim<=id:=U9 q3;obtain⟨a5,h⟩:=D8 k3;clear k1 k2 k3;have F:∀(q J k:Nat) (a:T (List o7)),m.lim<=q->m.get q=some (.cells J k a)->∀(B C:Nat) (old:List o7) (b':P9),C=(ι id).cap-off->
     ((ι id).b=(ι q).b∨C=0)->B=(ι id).base+off->(C≠0->B+C<=(ι q).base+(ι q).cap)->(C≠0->(ι id).spot=none)->old.length=len*z.length->new.length=(n+1)*z.length->bB (m.nm ι) old->oV ι w id off old->
     Fits P ι m z.length (len+(n+1)) (old++new) b'->outs=[⟨.sliceU m.nx 0 (len+(n+1)) z.length,(m.set q .dead).new b'⟩]->
     ∃v w',u6 ι (.sliceU id off len z.length)=.slice (some (ι.at id off)) len (((ι id).cap-off) / z.length)∧
      (kP zs e z.length len (((ι id).cap-off) / z.length) (some (ι.at id off)) x (n+1)).run P w=.ok v w'∧bA P G ι m w outs v w':=by
    intro q J k a hq u B C old b' hC L hB ac a8 X N ai a3 hF r;subst r;have a4:=(Step.kill o hq u).rm;have O:((m.set q .dead).new b').has m.nx:=LJ (m:=m.set q .dead) a4.ok hF.1;by_cases hfit:len+(n+1)<=((ι id).cap-off) / z.length;have H:(len+(n+1))*z.length<=C:=(by rw [hC];exact (adW D).1 hfit);have R:C≠0:=by have:1*1<=(len+(n+1))*z.length:=amq (by omega) D;omega
    have L:=L.resolve_right R;have A:=a8 R;obtain⟨c,a0,fz,c1,c2,c3⟩:=Tz o u;obtain⟨w',g1,g2⟩:=aaT o hq u c1 (B:=B) (C:=C) (len:=len) (n:=n+1) (es:=z.length) (old:=old) (new:=new) (b':=b') (by have:=ac R;omega) H X N a5
     (λj v t=>by
      have:=a3 j v t;simp only [World.cell?,K7.at,L,c1,A] at this;rw [hB,afp];simpa using this) hF
    refine⟨_,w',by simp [u6],kQ hfit (g w rfl) (by
     have:(ι.at id off).add (len*z.length)=⟨(ι q).b,B+len*z.length,none⟩:=(by simp [K7.at,Addr.add,L,hB,A]);simp only [this];exact g1),?_⟩
    have:=oz rfl g2 O D (need:=len+(n+1)) H (cap:=((ι id).cap-off) / z.length) (by show _=C / z.length;rw [hC]);have S:ι.at id off=⟨(ι q).b,B,none⟩:=(by simp [K7.at,L,hB,A]);rw [S];exact this;obtain⟨capN,f,r1,r2,r3⟩:=kR (P:=P) (w:=w) (zs:=zs) (e:=e) (es:=z.length) (sLen:=len) (sCap:=((ι id).cap-off) / z.length) (base:=some (ι.at id off)) (x:=x) (n:=n+1) (old:=z8 ι old) U Z hfit b1 b3
     (λw' hw=>iW X (λj v t=>by have:=a3 j v t;simpa [World.cell?,hw] using this)) g
    have s:=Vg o hF hq u (c:=(z8 ι old++z8 ι new++f).toArray) (e:=e) (w':={w with heap:=w.heap.push (.cells (z8 ι old++z8 ι new++f).toArray e),drawn:=w.drawn+1}) ⟨rfl,rfl,rfl,rfl⟩ (capN:=capN)
     (by
      simp only [ad5,J9,Y9,X,N,r2];rw [← adU,← adU];congr 1;omega) (by omega)
     (λj v t=>by
      have y:=(y8.1 t).1;rw [J9] at y;rw [adL,aan (by simpa using y),bQ,bQ,← adJ,aaB,t];rfl)
    refine⟨_,_,by simp [u6],r3,?_⟩;exact oz rfl s O D (need:=len+(n+1)) (aas _ (by omega)) (cap:=capN) (by show capN=capN*z.length / z.length;rw [ahD _ D])
   rcases XT h with⟨J,k,a,u,h⟩ | ⟨p,u,h⟩
   ·obtain⟨cc,a0,ab,c1,c2,c3⟩:=Tz o u;rcases OJ h with⟨hf,h9⟩ | ⟨_,h⟩
    ·
     clear h;have ae:J=z.length∧off=0∧len<=k∧n=0∧new.length=z.length∧0<len:=by
      cases p1:Nat.beq J z.length<;>rw [p1] at hf<;>simp only [Q9,U5] at hf<;>try (cases hf;done)
      cases p2:Nat.beq off 0<;>rw [p2] at hf<;>simp only [Q9,U5] at hf<;>try (cases hf;done)
      cases p3:Nat.ble len k<;>rw [p3] at hf<;>simp only [Q9,U5] at hf<;>try (cases hf;done)
      cases p4:Nat.beq (n+1) 1<;>rw [p4] at hf<;>simp only [Q9,U5] at hf<;>try (cases hf;done)
      cases p5:Nat.beq (len' new) z.length<;>rw [p5] at hf<;>simp only [Q9,U5] at hf<;>try (cases hf;done)
      have p4:=q9 p4;have p5:=q9 p5;rw [I9] at p5;exact⟨q9 p1,q9 p2,U9 p3,by omega,p5,Eq.mp Y3 hf⟩
     obtain⟨rfl,rfl,hk,rfl,N,af⟩:=ae;cases h9;obtain⟨l,l1,l2,l3,l4⟩:=Vf o u len hk;exact F id z.length k a Q u _ _ l _ rfl (.inl rfl) rfl (λ_=>by omega) (λ_=>o.spot id _ u rfl) l1 (by omega) l2 l3 (XR o u hk af l1 l4 N l2 i) rfl
    obtain⟨old,ho,h⟩:=D5 h;rw [P8] at h;obtain⟨rl,I,r⟩:=Ap h;obtain⟨o1,o2,o3⟩:=vV o u _ _ _ ho;have W:bB (m.nm ι) (old++new):=dR.2 λv hv=>(aau.1 hv).elim (P5 o2) (P5 i);have d:=(iX _ _ _ _ I).1;rw [J9,o1,adU] at d;exact F id J k a Q u _ _ old _ rfl (.inl rfl) rfl (λ_=>by omega) (λ_=>o.spot id _ u rfl) o1 (by omega) o2 o3 (xH I W) r
   obtain⟨J,k,a,a1,h⟩:=eu h;obtain⟨q4,h⟩:=D8 h;have V:=U9 q4;obtain⟨q5,h⟩:=D8 h;obtain rfl:=q9 q5;obtain⟨rl,I,r⟩:=Ap h;obtain⟨t1,K⟩:=o.blk id _ u;have d:=(iX _ _ _ _ I).1;refine F p J k a V a1 _ _ [] (.cells z.length (n+1) (T.ofList rl)) rfl ?_ rfl ?_ ?_ (by simp) d trivial (λj v t=>by simp at t) ?_ ?_;rcases K with K | K;exact .inr (by omega);exact .inl K.1;intro ag;rcases K with K | K;omega;omega;intro ag;rcases K with K | K;omega;exact K.2.2 (o.spot p _ a1 rfl);rw [abX,Z9];exact xH I i;rw [r,Z9];rfl
def amP (d:TypeDesc):Bool:=match d with | .int _=>true | _=>false
theorem aaU (d:TypeDesc):amP d=Gh d:=by cases d<;>rfl
theorem JI (s:St P ι (m.nm ι) slots done ls env a.tmps)(N:RM P G ι m w.heap){c:Call}{t u e:TypeId}{d:TypeDesc}{x y:Operand}{S A:Q8}{es g:Nat}{z:List o7}(hc:c.callee=.builtin .append)
  (q:c.argTypes.toList=[t,u]) (l:c.args.toList=[x,y]) (hu:P.underlying t=some (.slice e)) (hd:P.underlying u=some d) (p:aY P e=some es) (V:Ej P e=some z) (D:gZ P e=some g)
  (hx:N8 P slots done x=some S) (hy:N8 P slots done y=some A) {cf:F8} {outs:List VM} (f:om (.app es (Gh d) z g S A) cf ls env m=some outs):
  ∀o:Oper,o.op=.call c->Does P a.eval o w (bA P G ι m w outs):=by
 intro o ho;have q:c.argTypes=#[t,u]:=by rw [← q,aaw]
 have l:c.args=#[x,y]:=by rw [← l,aaw]
 obtain⟨Z,g1⟩:=A9 s hx;obtain⟨e2,g2⟩:=A9 s hy;obtain⟨I,H⟩:=ow V;have E:es=z.length:=by rw [p] at H;exact Y5 H
 have B:∀(n:Nat) (b:List o7),aeH P w (Gh d) g n (u6 ι (G9 A ls env))->bB (m.nm ι) b->(n=0->b=[])->
   (∀w':World,w'.heap=w.heap->(if (!Gh d)=true then Builtin.firstCells es n (u6 ι (G9 A ls env)) else if n*es=0 then pure #[] else do pure (Builtin.zeroCells (← zeroValue e).cells n):Sem (Array Value)).run P w'=.ok (z8 ι b).toArray w')->
   Dj m es g n b (G9 S ls env)=some outs->Does P a.eval o w (bA P G ι m w outs):=by
  intro n b hn M O F h;obtain⟨U,Y,X,v,w',q1,W,q3⟩:=OL N V p D M O F g1 h;refine O9 (v:=v) (w':=w') ?_ q3;rw [← Dv (T:=o.type) hu p hd D hn] at W;simp [execOp,ho,resolve,hc,l,q,invoke,builtin,Z,e2,q1,W]
 cases hi:Gh d with
 | true=>rw [hi] at f;obtain⟨k,n,C,f⟩:=gT f;obtain⟨j,f⟩:=D8 f;obtain⟨L,f⟩:=D8 f;have j:n*g<=281474976710656:=U9 j;have L:n<9223372036854775808:=Eq.mp Y3 L;have C:G9 A ls env=.int k n:=C;refine B n (U7 z n) (.inr ⟨hi,⟨k,by rw [C];rfl⟩,L,j⟩) (by obtain⟨_,_,_,J⟩:=dZ (P:=P) (w:=w) I ι;exact tX (J _) n) (λr=>by rw [r];rfl) (λw' _=>?_) f;obtain⟨zv,Q,R,J⟩:=dZ (P:=P) (w:=w') I ι;simp only [hi,aj0,Xd,if_false];split;rename_i r;have:U7 z n=[]:=Z8.1 (by rw [fP,← E];exact r);simp [this,z8];simp [Q,R,Ao]
 | false=>
  rw [hi] at f;obtain⟨n,C,f⟩:=D5 f;obtain⟨b,j,f⟩:=D5 f;refine B n b (.inl ⟨hi,wm C w⟩) (jF N j).2 (λr=>?_) (λw' hw=>?_) f;subst r;have r:∀i K,aC m i K 0=some []:=λi K=>rfl;generalize G9 A ls env=v at j;cases v<;>simp only [gN,reduceCtorEq] at j<;>simp_all [bytesOf]
  simp only [hi,Bool.not_false,if_true];exact (jF (w:=w') (by rw [hw];exact N) j).1
end
section
variable {P:Program}{G:Mem}{ι:K7}{m:Mem}{w:World}{slots:List Nat}{done:List (Option Nat)}{ls:List o7}{env:T o7}{a:Act}
theorem LK (s:St P ι (m.nm ι) slots done ls env a.tmps)(c:RM P G ι m w.heap){t:TypeId}(i:P.underlying t=some .string)
  {x:Operand} {d:Q8} (k:N8 P slots done x=some d) {cf:F8} {outs:List VM} (j:om (.rangeS d) cf ls env m=some outs):
  ∀o:Oper,o.op=.range t x->Does P a.eval o w (bA P G ι m w outs):=by
 intro o g;obtain⟨f,_⟩:=A9 s k;obtain⟨str,b,h⟩:=jg j;cases h;have b:G9 d ls env=.str str:=b;have e:=Laid.new c.ok c.limn (.siter str 0) rfl;refine O9 (v:=.pointer (some ⟨w.heap.size,0,none⟩)) (w':={w with heap:=w.heap.push (.stringIter ⟨str.toArray⟩ 0)}) ?_
  ⟨_,aA.2 rfl,ι.upd m.nx ⟨w.heap.size,0,0,none⟩,Step.lay (w':={w with heap:=w.heap.push (.stringIter ⟨str.toArray⟩ 0)}) c e (o:=.stringIter ⟨str.toArray⟩ 0) (l:=⟨w.heap.size,0,0,none⟩) ⟨rfl,rfl,rfl,rfl⟩ rfl rfl ⟨rfl,eB⟩ (by intro _ _ _ h;cases h),e.self,by simp [u6,K7.at]⟩
 simp [execOp,g,Instr.range,run_underlying i,f,b,u6,run_newObj]
theorem Vh {β:Type}{b:Option P9}{k:List UInt8->Nat->Option β}{r:β}(h:Lb b k=some r):∃s p,b=some (.siter s p)∧k s p=some r:=by
 match b,h with
 | some (.siter s p),h=>exact⟨s,p,rfl,h⟩
theorem OM (s:St P ι (m.nm ι) slots done ls env a.tmps)(k:RM P G ι m w.heap)
  {x:Operand} {u:Q8} (E:N8 P slots done x=some u) {cf:F8} {outs:List VM} (D:om (.nextS u) cf ls env m=some outs):
  ∀o:Oper,o.op=.next x true->Does P a.eval o w (bA P G ι m w outs):=by
 intro o z;obtain⟨A,_⟩:=A9 s E;obtain⟨id,off,n,h⟩:=fG D;have n:G9 u ls env=.ptr id off:=n;obtain⟨B,h⟩:=D8 h;obtain rfl:off=0:=q9 B;obtain⟨C,h⟩:=kJ h;have r:=ku C;obtain⟨c,p,q,h⟩:=Vh h;obtain⟨y,l⟩:=k.blk id _ q;have t:=k.spot id _ q rfl;have g:=gU (P:=P) l (by intro _ _ _ e;cases e);have i:=λo=>tZ (P:=P) (o:=o) l (by intro _ _ _ e;cases e);have j:ByteArray.size ⟨c.toArray⟩=c.length:=oQ c;have f:a.eval x=.pointer (some ⟨(ι id).b,0,none⟩):=by rw [A,n];simp [u6,K7.at,y,t]
 rw [I9] at h;cases d:Nat.blt p c.length with
 | false=>
  rw [d] at h;cases h;have d:¬ p<c.length:=by have:=ku d;omega
  refine O9 (v:=.tuple #[.bool false]) (w':=w) ?_ ⟨_,aA.2 rfl,ι,Step.refl k,by simp [o7.lt,bB],by simp [u6,z8]⟩;simp [execOp,z,f,Instr.next,g,j,d]
 | true=>
  rw [d] at h;cases h;have d:p<c.length:=Eq.mp Y3 d;refine O9 (v:=.tuple #[.bool true,.int .i64 p,.int .i32 (Utf8.decode ⟨c.toArray⟩ p).1]) (w':={w with heap:=w.heap.setIfInBounds (ι id).b (.stringIter ⟨c.toArray⟩ (p+(Utf8.decode ⟨c.toArray⟩ p).2))}) ?_
   ⟨_,aA.2 rfl,ι,Step.set k r q rfl rfl (o:=.stringIter ⟨c.toArray⟩ (p+(Utf8.decode ⟨c.toArray⟩ p).2)) ⟨rfl,rfl,rfl,rfl⟩ ⟨y,iH l⟩ (by intro _ _ _ h;cases h),by simp [o7.lt,bB],by simp [u6,z8]⟩
  simp [execOp,z,f,Instr.next,g,j,d,i,goInt]
theorem Gj {e:TypeId}(h:Dm P e=true):P.underlying e=some (.int .u8)∧aY P e=some 1∧gZ P e=some 1∧∃z,Ej P e=some z∧z.length=1:=by unfold Dm at h;simp only [l9,beq_iff_eq] at h;obtain⟨⟨⟨a,b⟩,d⟩,f⟩:=h;obtain⟨z,c⟩:=amd.1 f;refine⟨?_,b,d,z,c,?_⟩;split at a;assumption;cases a;have:=(ow c).2;rw [b] at this;exact (Y5 this).symm
theorem Vi (t:List UInt8):N7 (bytesOf t)=true:=by
 induction t with
 | nil=>rfl
 | cons b t ih=>show bi true (N7 (bytesOf t)) false=true;rw [ih];rfl
theorem Cm (ι:K7)(t:List UInt8)(j:Nat):(z8 ι (bytesOf t))[j]?=(t[j]?).map λb=>Value.int .u8 (b.toNat:Int):=by rw [aX,pq,aaB];cases t[j]? <;> simp [u6]
theorem jh (t:List UInt8):(bytesOf t).length=t.length:=by rw [pq,adK]
theorem Rx (s:St P ι (m.nm ι) slots done ls env a.tmps)(E:RM P G ι m w.heap){c:Call}{t u e:TypeId}{x y:Operand}{H R:Q8}(hc:c.callee=.builtin .append)
  (a2:c.argTypes.toList=[t,u]) (U:c.args.toList=[x,y]) (hu:P.underlying t=some (.slice e)) (hd:P.underlying u=some .string) (ab:Dm P e=true)
  (hx:N8 P slots done x=some H) (hy:N8 P slots done y=some R) {cf:F8} {outs:List VM} (g:om (.appB e H R) cf ls env m=some outs):
  ∀o:Oper,o.op=.call c->Does P a.eval o w (bA P G ι m w outs):=by
 obtain⟨_,Z,F,z,hz,af⟩:=Gj ab;have old:om (.app 1 false z 1 H R) cf ls env m=some outs->∀o:Oper,o.op=.call c->Does P a.eval o w (bA P G ι m w outs):=
  λh=>JI s E hc a2 U hu hd Z hz F hx hy h
 obtain⟨e1,g1⟩:=A9 s hx;obtain⟨e2,g2⟩:=A9 s hy;have a3:c.argTypes=#[t,u]:=by rw [← a2,aaw]
 have V:c.args=#[x,y]:=by rw [← U,aaw]
 obtain⟨a9,_⟩:=ow hz;have I:∀{d:List UInt8} {base:Option Addr} {sLen sCap:Nat} {v:Value} {w':World},G9 R ls env=.str d->u6 ι (G9 H ls env)=.slice base sLen sCap->
   (kP false e 1 sLen sCap base (u6 ι (.str d)) d.length).run P w=.ok v w'->bA P G ι m w outs v w'->∀o:Oper,o.op=.call c->Does P a.eval o w (bA P G ι m w outs):=by
  intro d base sLen sCap v w' S q2 q3 q4 o ho;refine O9 (v:=v) (w':=w') ?_ q4;have hn:aeH P w (Gh .string) 1 d.length (u6 ι (.str d)):=.inl ⟨rfl,wm (v:=.str d) (by simp [lenOf]) w⟩;have h3:(kP (Gh .string) e 1 sLen sCap base (u6 ι (.str d)) d.length).run P w=.ok v w':=q3;rw [← Dv (T:=o.type) hu Z hd F hn] at h3;simp [execOp,ho,resolve,hc,V,a3,invoke,builtin,e1,e2,S,q2,h3]
 have C:∀(d:List UInt8) (w':World),w'.heap=w.heap->(if (!false)=true then Builtin.firstCells 1 d.length (u6 ι (.str d)) else if d.length*1=0 then pure #[] else do pure (Builtin.zeroCells (← zeroValue e).cells d.length):Sem (Array Value)).run P w'=.ok (z8 ι (bytesOf d)).toArray w':=by
  intro d w' hw;have:gN m 1 d.length (.str d)=some (bytesOf d):=by simp [gN]
  exact (jF (w:=w') (by rw [hw];exact E) this).1
 have aa:∀{m0:Mem} (st:Step P G ι m w ι m0 w) (f d:List UInt8) (capN:Nat) (i:List Value),m0.nx=m.nx->f.length+d.length<=capN->i.length=(capN-(f.length+d.length))*z.length->
   outs=[⟨.sliceU m.nx 0 (f.length+d.length) 1,m0.new (.buf e (f++d))⟩]->
   bA P G ι m w outs (.slice (some ⟨w.heap.size,0,none⟩) (f.length+d.length) capN) {w with heap:=w.heap.push (.cells (z8 ι (bytesOf f)++z8 ι (bytesOf d)++i).toArray e),drawn:=w.drawn+1}:=by
  intro m0 st f d capN i ac X N p;subst p;have hl:=Laid.new st.rm.ok st.rm.limn (.buf e (f++d)) rfl;rw [ac] at hl;have ad:(z8 ι (bytesOf f)++z8 ι (bytesOf d)++i).toArray.size=capN:=by simp only [ad5,J9,Y9,jh,N,af];omega
  have Q:=st.trans (Step.lay (w':={w with heap:=w.heap.push (.cells (z8 ι (bytesOf f)++z8 ι (bytesOf d)++i).toArray e),drawn:=w.drawn+1}) st.rm hl (o:=.cells (z8 ι (bytesOf f)++z8 ι (bytesOf d)++i).toArray e) ⟨rfl,rfl,rfl,rfl⟩ (l:=⟨w.heap.size,0,capN,none⟩) rfl rfl
   ⟨rfl,_,_,eB,by simp;omega,by rw [ad];exact aP _,λj b q=>?_⟩ (by intro c' e' fz h k hk;cases h;simp))
  exact oz rfl Q hl.self (by omega) (need:=f.length+d.length) (by simpa using X) (by simp);have L:=(y8.1 q).1;rw [adL,aan (by simpa [jh] using L)];by_cases h1:j<f.length;rw [aan h1] at q;rw [aan (by simpa [jh] using h1),Cm,q];rfl;rw [aaC (by omega)] at q;rw [aaC (by simp [jh];omega),Cm];simp only [Y9,jh];rw [q];rfl
 change yu e (G9 H) (G9 R) cf ls env m=some outs at g
 unfold yu at g;split at g;rename_i D;obtain⟨d,A,g⟩:=jg g;cases d with
 | nil=>refine old ?_;show rG 1 1 (G9 H) (G9 R) cf ls env m=some outs;unfold rG;rw [A,D];exact g
 | cons b0 t0=>
  generalize hstr:b0::t0=d at *;have g:bi (big (len' d) 1 1) (one (.sliceU m.nx 0 (len' d) 1) (m.new (.buf e d))) none=some outs:=by rw [← hstr] at g ⊢;exact g
  obtain⟨W,g⟩:=D8 g;rw [I9] at W g;obtain⟨b1,_,b3⟩:=wo W;have p:outs=[⟨.sliceU m.nx 0 (([]:List UInt8).length+d.length) 1,m.new (.buf e ([]++d))⟩]:=by cases g;simp
  have a0:0<d.length:=by rw [← hstr];simp
  obtain⟨capN,i,r1,r2,r3⟩:=kR (P:=P) (w:=w) (zs:=false) (e:=e) (es:=1) (sLen:=0) (sCap:=0) (base:=none) (x:=u6 ι (.str d)) (n:=d.length) (old:=[]) F a9 (by omega) (by simpa using b1) b3
   (λw' _=>by simp [Builtin.firstCells]) (C d)
  refine I A (by rw [D];rfl) r3 ?_;have:=aa (Step.refl E) [] d capN i rfl (by simpa using r1) (by simpa using r2) p;simpa [bytesOf,z8] using this
 rename_i id off len es D;split at g;rename_i ty' f K;obtain⟨d,A,g⟩:=jg g;obtain⟨k1,a4⟩:=D8 g;obtain⟨k2,a5⟩:=D8 a4;obtain⟨k3,a6⟩:=D8 a5;obtain⟨k4,a7⟩:=D8 a6;obtain⟨k5,a8⟩:=D8 a7;clear g a4 a5 a6 a7;rw [I9] at k4;have r:m.lim<=id:=U9 k5;obtain rfl:e=ty':=q9 k1;obtain rfl:off=0:=q9 k2;obtain rfl:es=1:=q9 k3;obtain rfl:len=f.length:=q9 k4;have g:=a8;clear a8;cases d with
 | nil=>refine old ?_;show rG 1 1 (G9 H) (G9 R) cf ls env m=some outs;unfold rG;rw [A,D];exact g
 | cons b0 t0=>
  generalize hstr:b0::t0=d at *;have g:bi (big (Nat.add f.length (len' d)) 1 1) (one (.sliceU m.nx 0 (Nat.add f.length (len' d)) 1) ((m.set id .dead).new (.buf e (aJ f d)))) none=some outs:=by rw [← hstr] at g ⊢;exact g
  obtain⟨W,g⟩:=D8 g;rw [I9] at W g;rw [P8] at g;obtain⟨b1,_,b3⟩:=wo W;have p:outs=[⟨.sliceU m.nx 0 (f.length+d.length) 1,(m.set id .dead).new (.buf e (f++d))⟩]:=by cases g;rfl
  have a0:0<d.length:=by rw [← hstr];simp
  obtain⟨q0,cs,fz,S,q2,q3,q4⟩:=E.blk id _ K;have O:=E.spot id _ K rfl;have Y:u6 ι (G9 H ls env)=.slice (some ⟨(ι id).b,0,none⟩) f.length (ι id).cap:=by rw [D];simp [u6,K7.at,q0,O]
  have B:=(E.own id _ r K rfl).free cs e fz S;have J:∀w':World,w'.heap=w.heap->∀(j:Nat) (v:o7),(bytesOf f)[j]?=some v->w'.cell? (ι.at id (0+j))=some (u6 ι v):=by
   intro w' hw j v q;rw [pq,aaB] at q;cases hb':f[j]? with
   | none=>rw [hb'] at q;cases q
   | some b'=>rw [hb'] at q;cases q;have:=q4 j b' hb';simp [World.cell?,hw,K7.at,q0,O,S,u6,this]
  by_cases hfit:f.length+d.length<=(ι id).cap
  ·
   have a1:=oZ (P:=P) (z8 ι (bytesOf d)) cs (f.length*1) 0 w S (by simp [jh];omega) B (λv g=>by
    rw [bQ] at g;obtain⟨u',ae,rfl⟩:=adP.1 g;exact Ci (qF (Vi d) u' ae))
   refine I A Y (kQ hfit (C d w rfl) (by
    have:(⟨(ι id).b,0,none⟩:Addr).add (f.length*1)=⟨(ι id).b,f.length*1,none⟩:=(by simp [Addr.add];intro h;simp [h]);simp only [this];exact a1)) ?_
   subst p;have M:=Laid.new (Step.kill E r K).rm.ok (Step.kill E r K).rm.limn (.buf e (f++d)) rfl;have Q:=Step.adi (l:=⟨(ι id).b,0,(ι id).cap,none⟩) (o:=.cells (over cs (f.length*1+0) (z8 ι (bytesOf d))) e fz) (w':={w with heap:=w.heap.setIfInBounds (ι id).b (.cells (over cs (f.length*1+0) (z8 ι (bytesOf d))) e fz)})
    (b':=.buf e (f++d)) E r K rfl rfl ⟨rfl,rfl,rfl,rfl⟩ rfl rfl ⟨rfl,_,_,iH S,by simpa using hfit,by simpa using q3,λj b q=>?_⟩ (by intro c' e' ag h k hk;cases h;exact B k (by simpa using hk))
   have:=oz rfl Q M.self (aP 1) (need:=f.length+d.length) (by simpa using hfit) (cap:=(ι id).cap) (by simp);simpa using this;have L:=(y8.1 q).1;rw [J9] at L;rw [Aj _ _ _ (by simp [jh];omega)];by_cases h1:j<f.length;rw [aan h1] at q;rw [if_pos (by omega)];exact q4 j b q;rw [aaC (by omega)] at q;rw [if_neg (by omega),if_pos (by simp [jh];omega),Cm,show j-(f.length*1+0)=j-f.length from by omega,q];rfl
  obtain⟨capN,i,r1,r2,r3⟩:=kR (P:=P) (w:=w) (zs:=false) (e:=e) (es:=1) (sLen:=f.length) (sCap:=(ι id).cap) (base:=some ⟨(ι id).b,0,none⟩) (x:=u6 ι (.str d)) (n:=d.length) (old:=z8 ι (bytesOf f)) F a9 hfit b1 b3
   (λw' hw=>by
    have:=iW (P:=P) (ι:=ι) (w:=w') (id:=id) (off:=0) (len:=f.length) (cap:=(ι id).cap) (es:=1) (n:=f.length) (l:=bytesOf f) (by rw [jh,aml]) (J w' hw);simpa [K7.at,q0,O] using this) (C d)
  exact I A Y r3 (aa (Step.kill E r K) f d capN i rfl r1 r2 p)
 exact old g;exact old g
theorem Ry {w:World}{b:Nat}{c:Array Value}{e:TypeId}{fz:Nat×Nat}(h:w.heap[b]?=some (.cells c e fz))(n:Nat):∃fz',w.freeze ⟨b,0,none⟩ n={w with heap:=w.heap.setIfInBounds b (.cells c e fz')}:=by
 have g:=(J4.1 h).1;have i:w.heap[b]=.cells c e fz:=(J4.1 h).2;have a:∀(f:Obj->Obj) fz',f (.cells c e fz)=.cells c e fz'->w.heap.modify b f=w.heap.setIfInBounds b (.cells c e fz'):=by intro f fz' k;apply adO;intro j;rw [ahR,Array.getElem?_setIfInBounds];by_cases hj:b=j;subst hj;simp [h,k,g,i];simp [hj]
 unfold World.freeze;split;refine⟨fz,?_⟩;have d:w.heap.modify b id=w.heap:=by apply adO;intro j;rw [ahR];split<;>simp
 rw [← a id fz rfl,d];obtain⟨m,l⟩:=fz;exact⟨_,by congr 1;exact a _ _ rfl⟩
theorem aaV {β:Type}{v:o7}{k:Nat->Option β}{r:β}(h:aaJ v k=some r):∃n:Nat,v=.int .i64 (n:Int)∧k n=some r:=by unfold aaJ at h;split at h;exact⟨_,rfl,h⟩;cases h
theorem Rz (s:St P ι (m.nm ι) slots done ls env a.tmps)(C:RM P G ι m w.heap){c:Call}{t u e:TypeId}{x y:Operand}{U V:Q8}(L:c.callee=.builtin .unsafeString)
  (g:c.argTypes.toList=[t,u]) (f:c.args.toList=[x,y]) (hu:P.underlying t=some (.pointer e)) (K:Dm P e=true)
  (hx:N8 P slots done x=some U) (hy:N8 P slots done y=some V) {cf:F8} {outs:List VM} (i:om (.ustr e U V) cf ls env m=some outs):
  ∀o:Oper,o.op=.call c->Does P a.eval o w (bA P G ι m w outs):=by
 intro o Q;obtain⟨_,M,_⟩:=Gj K;obtain⟨X,_⟩:=A9 s hx;obtain⟨E,_⟩:=A9 s hy;have g:c.argTypes=#[t,u]:=by rw [← g,aaw]
 have f:c.args=#[x,y]:=by rw [← f,aaw]
 obtain⟨n,q,i⟩:=aaV i;have q:G9 V ls env=.int .i64 (n:Int):=q
 change (match G9 U ls env with
  | .nilPtr=>bi (Nat.beq n 0) (one (.str []) m) none
  | .ptr id p=>bi (Nat.beq p 0) (bi (Nat.ble m.lim id) (match m.get id with
   | some (.buf ty' s)=>bi (Nat.beq e ty') (bi (Nat.beq n (len' s)) (bi (Nat.ble n 9223372036854775807) (one (.str s) (m.set id .dead)) none) none) none
   | _=>none) none) none
  | _=>none)=some outs at i
 split at i;rename_i H;obtain⟨I,k⟩:=D8 i;clear i;cases k;obtain rfl:n=0:=q9 I;refine O9 (v:=.string .empty) (w':=w) ?_ ⟨_,aA.2 rfl,ι,Step.refl C,trivial,rfl⟩;have:=Lib.run_unsafeString_none (P:=P) w t u o.type none;simp [execOp,Q,resolve,L,f,g,invoke,builtin,X,E,q,H,u6,this];rename_i id p H;obtain⟨I,k⟩:=D8 i;obtain⟨Z,l⟩:=D8 k;clear i k;obtain rfl:p=0:=q9 I;have z:m.lim<=id:=U9 Z;split at l;rename_i ty' d O;obtain⟨h5,A⟩:=D8 l;obtain⟨Y,B⟩:=D8 A;obtain⟨h7,T⟩:=D8 B;clear l A B;rw [I9] at Y;cases T;obtain rfl:e=ty':=q9 h5;obtain rfl:n=d.length:=q9 Y;have J:d.length<=9223372036854775807:=U9 h7;obtain⟨q0,W,fz,D,q2,q3,q4⟩:=C.blk id _ O;have R:=C.spot id _ O rfl;obtain⟨F,N⟩:=Ry D d.length;have S:Step P G ι m w ι (m.set id .dead) (w.freeze ⟨(ι id).b,0,none⟩ d.length):=by rw [N];exact Step.set' C z O rfl rfl (o:=.cells W e F) ⟨rfl,rfl,rfl,rfl⟩ trivial (λh=>by cases h)
 refine O9 (v:=.string ⟨d.toArray⟩) (w':=w.freeze ⟨(ι id).b,0,none⟩ d.length) ?_ ⟨_,aA.2 rfl,ι,S,trivial,rfl⟩;have r:a.eval x=.pointer (some ⟨(ι id).b,0,none⟩):=by rw [X,H];simp [u6,K7.at,q0,R]
 by_cases h0:d=[];subst h0;have:=Lib.run_unsafeString_none (P:=P) w t u o.type (some ⟨(ι id).b,0,none⟩);simp [execOp,Q,resolve,L,f,g,invoke,builtin,r,E,q,u6,this,World.freeze];rfl;have:=Lib.run_unsafeString_row (P:=P) w t u o.type e hu (yZ M) (ι id).b W.size (by simp [World.shape?,D]) d h0 (by omega) J (λj b hj=>by
  have:=q4 j b hj;by_cases h0:j=0;subst h0;simpa [World.cell?,Addr.add,D] using this;simpa [World.cell?,Addr.add,D,h0] using this)
 simp [execOp,Q,resolve,L,f,g,invoke,builtin,r,E,q,u6,this];cases l;cases i
end
section
variable {P:Program}{G:Mem}{ι:K7}{m:Mem}{w:World}{slots:List Nat}{done:List (Option Nat)}{ls:List o7}{env:T o7}{a:Act}
def Cn (P:Program)(f:FuncId):Prop:=∃fn,P.funcs[f]?=some fn∧fn.body.isSome=true∧fn.name≠ "runtime.NumGoroutine"
def S9 (P:Program)(G:Mem)(ι:K7)(m:Mem)(w:World)(outs:List VM)(e:Ending)(w':World):Prop:=
 (∃v,e=.returned v∧bA P G ι m w outs v w')∨
  ∃r∈outs,∃x ι',r.v=.nN x∧Step P G ι m w ι' r.m w'∧x.lt (r.m.nm ι')∧e=.panicked [{v:=u6 ι' x,recovered:=false}]
def lJ (P:Program)(ρ:Operand->Value)(o:Oper)(w:World)(R:Ending->World->Prop):Prop:=
 match (execOp ρ o).run P w with
 | .ok (.value v) w'=>R (.returned v) w'
 | .ok .skip w'=>R (.returned undef) w'
 | .ok (.enter f args) w'=>CallsIn Fence.wide 0 P f args w' R
 | .ok (.round l f tmps assign body) w'=>RoundIn Fence.wide 0 P l f tmps assign body w' R
 | .halt (.panic v) w'=>R (.panicked [{v,recovered:=false}]) w'
 | _=>False
theorem aL {c:Operand->Value}{o:Oper}{outs:List VM}(h:Does P c o w (bA P G ι m w outs)):lJ P c o w (S9 P G ι m w outs):=by
 unfold Does at h;unfold lJ;generalize (execOp c o).run P w=res at h;cases res with
 | halt=>exact h.elim
 | ok x w'=>
  cases x with
  | value v=>exact .inl ⟨_,rfl,h⟩
  | skip=>exact .inl ⟨_,rfl,h⟩
  | enter f args=>exact aj8 h λe b a=>.inl a
  | round l f tmps assign body=>exact RoundIn.mono h λe b a=>.inl a
  | _=>exact h.elim
theorem RA {a:Operand->Value}{o:Oper}{R:Value->World->Prop}(h:Does P a o w R):lJ P a o w (λe w'=>∃v,e=.returned v∧R v w'):=by
 unfold Does at h;unfold lJ;generalize (execOp a o).run P w=res at h;cases res with
 | halt=>exact h.elim
 | ok x w'=>
  cases x with
  | value v=>exact⟨_,rfl,h⟩
  | skip=>exact⟨_,rfl,h⟩
  | enter f args=>exact h
  | round l f tmps assign body=>exact h
  | _=>exact h.elim
structure nR (P:Program)(G:Mem)(cf:F8):Prop where
 func:∀{f:FuncId} {args:List o7} {m:Mem} {outs:List VM},cf (.func f) args m=some outs->Cn P f∧∀{ι:K7} {w:World},RM P G ι m w.heap->bB (m.nm ι) args->
  CallsIn Fence.wide 0 P f (z8 ι args).toArray w (S9 P G ι m w outs)
 yield:∀{l:Nat} {args:List o7} {m:Mem} {outs:List VM},cf (.yield l) args m=some outs->∀{ι:K7} {w:World},RM P G ι m w.heap->bB (m.nm ι) args->
  ∃L:Loop,w.heap[(ι l).b]?=some (.loop L)∧args.length=L.params.size∧
   RoundIn Fence.wide 0 P (ι l).b L.fn ((L.params.zip (z8 ι args).toArray).foldl (λt (p,v)=>t.setIfInBounds p v) L.tmps) L.assign L.body w (S9 P G ι m w outs)
 other:∀{fn:Fn} {args:List o7} {m:Mem} {outs:List VM},cf fn args m=some outs->(∃f,fn=.func f)∨∃l,fn=.yield l
theorem nT {f:FuncId}(h:Cn P f)(args:Array Value)(w:World):(callFunc f args).run P w=.ok (.enter f args) w:=by
 obtain⟨b,d,a,e⟩:=h;cases hb:b.body with
 | none=>rw [hb] at a;cases a
 | some c=>simp [callFunc,d,e,hb]
theorem kS (ι:K7)(l r:List o7):z8 ι (l++r)=z8 ι l++z8 ι r:=by simp [bQ]
theorem jT {n:Nm}{l r:List o7}(h:bB n l)(h':bB n r):bB n (l++r):=dR.2 λv a=>(aau.1 a).elim (P5 h) (P5 h')
theorem LM (s:St P ι (m.nm ι) slots done ls env a.tmps){c:Array Operand}{b:List Q8}(h:jY P slots done c.toList=some b):
  c.map a.eval=(z8 ι (evs (gY b) ls env)).toArray∧bB (m.nm ι) (evs (gY b) ls env):=by
 obtain⟨d,e⟩:=lT s h;refine⟨?_,e⟩;rw [← d,← aj7,aaw]
theorem RB {cf:F8}(h:nR P G cf)(s:St P ι (m.nm ι) slots done ls env a.tmps)(p:RM P G ι m w.heap){c:Call}{f:FuncId}{e:List Q8}(l:c.callee=.value (.func f))
  (g:jY P slots done c.args.toList=some e) {outs:List VM} (i:om (.call f e) cf ls env m=some outs):
  ∀o:Oper,o.op=.call c->lJ P a.eval o w (S9 P G ι m w outs):=by
 intro o q;obtain⟨j,k⟩:=LM s g;have i:cf (.func f) (evs (gY e) ls env) m=some outs:=i;obtain⟨n,b⟩:=h.func i;have d:(execOp a.eval o).run P w=.ok (.enter f (z8 ι (evs (gY e) ls env)).toArray) w:=by simp [execOp,q,resolve,l,Act.eval,Deferred.ofValue,invoke,j,nT n]
 unfold lJ;rw [d];exact b p k
theorem OO {cf:F8}(j:nR P G cf)(s:St P ι (m.nm ι) slots done ls env a.tmps)(F:RM P G ι m w.heap){c:Call}{f:Operand}{q:Q8}{e:List Q8}(E:c.callee=.value f)
  (z:N8 P slots done f=some q) (u:jY P slots done c.args.toList=some e) {outs:List VM} (O:om (.callv q e) cf ls env m=some outs):
  ∀o:Oper,o.op=.call c->lJ P a.eval o w (S9 P G ι m w outs):=by
 intro o H;obtain⟨A,B⟩:=LM s u;obtain⟨n,C⟩:=A9 s z;obtain⟨D,x,y,r,h⟩:=Ll O;have r:G9 q ls env=.func D x y:=r;rw [r] at n C;obtain⟨_,I,k⟩:=C;cases D with
 | func g=>
  have h:cf (.func g) (aJ x (aJ (evs (gY e) ls env) y)) m=some outs:=h;rw [P8,P8] at h;obtain⟨N,i⟩:=j.func h;have d:(execOp a.eval o).run P w=.ok (.enter g (z8 ι (x++(evs (gY e) ls env++y))).toArray) w:=by simp [execOp,H,resolve,E,n,u6,jR,Deferred.ofValue,invoke,A,nT N,kS]
  unfold lJ;rw [d];exact i F (jT I (jT B k))
 | yield l=>
  have h:cf (.yield l) (aJ x (evs (gY e) ls env)) m=some outs:=h;rw [P8] at h;obtain⟨L,J,K,M⟩:=j.yield h F (jT I B);have d:(execOp a.eval o).run P w=.ok (.round (ι l).b L.fn ((L.params.zip (z8 ι (x++evs (gY e) ls env)).toArray).foldl (λt (p,v)=>t.setIfInBounds p v) L.tmps) L.assign L.body) w:=by have k:=run_yield (P:=P) (args:=(z8 ι (x++evs (gY e) ls env)).toArray) J (by simpa using K);rw [kS,← List.append_toArray] at k ⊢;simp only [execOp,H,resolve,E,n,u6,jR,Deferred.ofValue,invoke,A,J8,Z7,J2,k]
  unfold lJ;rw [d];exact M
 | method=>cases h
 | methodOf=>cases h
 | via=>cases h
theorem OP (s:St P ι (m.nm ι) slots done ls env a.tmps)(g:RM P G ι m w.heap){x:Operand}{d:Q8}(i:N8 P slots done x=some d){cf:F8}{outs:List VM}(b:om (.panic d) cf ls env m=some outs):
  ∀o:Oper,o.op=.panic x->lJ P a.eval o w (S9 P G ι m w outs):=by
 intro o h;obtain⟨e,f⟩:=A9 s i;have b:Xu (G9 d ls env) m=some outs:=b;generalize G9 d ls env=v at *;cases v with
 | iface t y=>
  have b:some [(⟨.nN (.iface t y),m⟩:VM)]=some outs:=b;cases b;have c:(execOp a.eval o).run P w=.halt (.panic (u6 ι (.iface t y))) w:=by simp [execOp,h,e,u6,Instr.panic,goPanic]
  unfold lJ;rw [c];exact .inr ⟨_,aA.2 rfl,_,ι,rfl,Step.refl g,f,rfl⟩
 | _=>cases b
theorem Co {cf:F8}(f:nR P G cf)(s:St P ι (m.nm ι) slots done ls env a.tmps)(d:RM P G ι m w.heap){i:Op}{g:WT}(h:iA P slots done i=some (.e g)){outs:List VM}(c:om g cf ls env m=some outs):
  ∀o:Oper,o.op=i->lJ P a.eval o w (S9 P G ι m w outs):=by
 cases Ad h with
 | store h1 h2 h3=>exact λo b=>aL (OD s d h1 h2 h3 c o b)
 | mapUpdate h1 h2 h3 h4 h5=>exact λo b=>aL (Al s d h1 h2 h3 h4 h5 c o (.inl b))
 | insert h1 h2 h3 h4 h5=>exact λo b=>aL (Al s d h1 h2 h3 h4 h5 c o (.inr b))
 | range h1 h2=>exact λo b=>aL (OH s d h1 h2 c o b)
 | next h1=>exact λo b=>aL (Ru s d h1 c o b)
 | app h1 h2 h3 h4 h5 h6 h7 h8 h9 h10=>exact λo b=>aL (JI s d h2 h3 h4 h5 h1 h6 h7 h8 h9 h10 (by rw [← aaU];exact c) o b)
 | copy h1 h2 h3 h4 h5 h6 h7=>exact λo b=>aL (Rv s d h1 h2 h3 h4 h5 h6 h7 c o b)
 | clear h1 h2 h3 h4 h5 h6=>exact λo b=>aL (OI s d h1 h2 h3 h4 h5 h6 c o b)
 | call h1 h2 h3 h4 h5=>exact RB f s d h1 h5 c
 | callv h1 h2 h3=>exact OO f s d h1 h2 h3 c
 | panic h1=>exact OP s d h1 c
 | rangeS h1 h2=>exact λo b=>aL (LK s d h1 h2 c o b)
 | nextS h1=>exact λo b=>aL (OM s d h1 c o b)
 | appB h1 h2 h3 h4 h5 h6 h7 h8=>exact λo b=>aL (Rx s d h2 h3 h4 h5 h1 h6 h7 h8 c o b)
 | ustr h1 h2 h3 h4 h5 h6 h7=>exact λo b=>aL (Rz s d h1 h2 h3 h4 h5 h6 h7 c o b)
 | defer=>cases c
 | recover=>cases c
end
end Go.AM
