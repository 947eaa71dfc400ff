/- A part of an evaluator for the model, proved sound: what it answers holds of the model; it speaks of every program, no condition. -/
import Derived.Test.YteecnooaopfkeaaGreatDoorPA1
import Derived.Lib.Builder
import Derived.Laws.NewFold
import Derived.CallsIn
import Derived.Lib.UnsafeStr
import Derived.RangeFuncLeaves
import Derived.RangeFuncRecord
import Derived.RangeFuncNested
import Derived.LoopNIn
set_option linter.all false
namespace Go.AM
open Go
section
variable {P:Program}{G:Mem}{ι:K4}{m:Mem}{w:World}
theorem dB {β:Type}{b:Option Q6}{k:Nat->Nat->T (List d9)->Option β}{r:β}(h:P8 b k=some r):∃rs n rows,b=some (.cells rs n rows)∧k rs n rows=some r:=by
 match b,h with
 | some (.cells rs n rows),h=>exact⟨rs,n,rows,rfl,h⟩
theorem AA {β:Type}{b:Option Q6}{k:List (d9×d9)->Option β}{r:β}(h:Ov b k=some r):∃es,b=some (.map es)∧k es=some r:=by
 match b,h with
 | some (.map es),h=>exact⟨es,rfl,h⟩
theorem JL (d:RM P G ι m w.heap){id rs k:Nat}{rows:T (List d9)}(b:m.get id=some (.cells rs k rows)){i j:Nat}(p:i<k)(q:j<rs){row:List d9}
  (r:rows.get i=some row) {v:d9} (f:row[j]?=some v):w.cell? (ι.at id (i*rs+j))=some (l9 ι v)∧v.lt (m.nm ι):=by
 obtain⟨c,e,s,n,u,x,o⟩:=d.blk id _ b;obtain⟨g,a,t,h,l⟩:=o i p;rw [r] at a;cases a;have:=l j q;rw [f] at this;refine⟨?_,O8 h (Y6 f)⟩;simp only [World.cell?,K4.at,n,d.spot id _ b rfl];simpa using this
theorem OX {rs n off:Nat}{rows:T (List d9)}{v:d9}(h:cell1 rs n rows off=some v):
  off / rs<n∧∃row,rows.get (off / rs)=some row∧row[off%rs]?=some v:=by
 obtain⟨b,c⟩:=D9 h;obtain⟨row,d,a⟩:=A8 c;rw [jf] at a;exact⟨Eq.mp Y5 b,row,d,a⟩
theorem BQ (j:RM P G ι m w.heap){id rs k off:Nat}{rows:T (List d9)}(i:m.get id=some (.cells rs k rows)){v:d9}(h:cell1 rs k rows off=some v):
  w.cell? (ι.at id off)=some (l9 ι v)∧v.lt (m.nm ι):=by
 obtain⟨d,p,f,g⟩:=OX h;obtain⟨c,e,q,_,_,_,o⟩:=j.blk id _ i;obtain⟨l,b,n,_,_⟩:=o _ d;rw [f] at b;cases b;have a:off%rs<rs:=ae7 (J3.1 g).1 n;have:=JL j i d a f g
 rwa [show off / rs*rs+off%rs=off from by rw [adu];exact aiF off rs] at this
def om (ι:K4)(w:World)(id off:Nat)(l:List d9):Prop:=∀j v,l[j]?=some v->w.cell? (ι.at id (off+j))=some (l9 ι v)
theorem JM (s:RM P G ι m w.heap){id rs n off k:Nat}{rows:T (List d9)}(p:m.get id=some (.cells rs n rows)){l:List d9}(h:jO rs n rows off k=some l):
  l.length=k∧bg (m.nm ι) l∧om ι w id off l:=by
 obtain⟨f,z⟩:=D9 h;obtain⟨row,g,a⟩:=A8 z;have f:off / rs<n:=Eq.mp Y5 f;obtain⟨c,e,C,_,_,_,A⟩:=s.blk id _ p;obtain⟨u,o,x,y,_⟩:=A _ f;have g:rows.get (off / rs)=some row:=g;rw [g] at o;cases o;have i:l=(row.drop (off%rs)).take k∧(off%rs+k<=rs∨k=0):=by have b:Nat.mod off rs=off%rs:=rfl;rw [b] at a;rw [uG] at a;split at a;rename_i t;rw [uG] at a;split at a;rename_i q;have e:row=l:=Y8 a;rw [t,q,← e];refine⟨?_,by omega⟩;rw [q9,← x,afE];obtain⟨e,r⟩:=kT _ _ _ a;rw [t];exact⟨by rw [q9];exact e,by omega⟩;obtain⟨e,r⟩:=kT _ _ _ a;simp only [lT,List.length_drop] at r e;exact⟨e,by omega⟩
 obtain⟨rfl,q⟩:=i;refine⟨by simp;omega,bX.2 λv d=>O8 y (afD (aeI d)),λj v d=>?_⟩;have B:j<k:=by have:=(J3.1 d).1;simp at this;omega
 rw [ad3,if_pos B,ae6] at d;have:=(JL s p f (show off%rs+j<rs by omega) g d).1
 rwa [show off / rs*rs+(off%rs+j)=off+j from by have:=aiF off rs;rw [adu] at this;omega] at this
theorem Gw (rs n:Nat)(rows:T (List d9))(off:Nat):L9 rs n rows 0 off=some []:=rfl
theorem Gx (rs n:Nat)(rows:T (List d9))(k off:Nat):L9 rs n rows (k+1) off=ob (cell1 rs n rows off) λv=>ob (L9 rs n rows k (off+1)) λl=>some (v::l):=rfl
theorem uH (p:RM P G ι m w.heap){id rs n:Nat}{rows:T (List d9)}(o:m.get id=some (.cells rs n rows)):
  ∀(k off:Nat) (l:List d9),L9 rs n rows k off=some l->l.length=k∧bg (m.nm ι) l∧om ι w id off l:=by
 intro k;induction k with
 | zero=>intro off l h;rw [Gw] at h;cases h;exact⟨rfl,trivial,λj v q=>by simp at q⟩
 | succ k ih=>
  intro off l h;rw [Gx] at h;obtain⟨v,g,h⟩:=A8 h;obtain⟨r,i,h⟩:=A8 h;cases h;obtain⟨b,c⟩:=BQ p o g;obtain⟨d,e,f⟩:=ih _ _ i;refine⟨by simp [d],⟨c,e⟩,λj u a=>?_⟩;cases j with
  | zero=>simp at a;subst a;exact b
  | succ j=>rw [show off+(j+1)=off+1+j from by omega];exact f j u (by simpa using a)
theorem jT (e:RM P G ι m w.heap){id off k:Nat}{l:List d9}(h:R9 m id off k=some l):
  l.length=k∧bg (m.nm ι) l∧om ι w id off l:=by
 cases k with
 | zero=>cases h;exact⟨rfl,trivial,λj v f=>by simp at f⟩
 | succ k=>have h:P8 (m.get id) (λb n a=>L9 b n a (k+1) off)=some l:=h;obtain⟨b,n,a,c,d⟩:=dB h;exact uH e c _ _ _ d
theorem Me {a:Addr}{v:Value}(h:w.cell? a=some v):(load a).run P w=.ok v w:=by simp [h]
theorem yT {id off:Nat}:∀(l:List d9) (i:Nat) (acc:Array Value),(∀j v,l[j]?=some v->w.cell? (ι.at id (off+(i+j)))=some (l9 ι v))->
  (loadCellsFrom (ι.at id off) i l.length acc).run P w=.ok (acc++(p8 ι l).toArray) w:=by
 intro l;induction l with
 | nil=>intro i acc _;simp [loadCellsFrom,p8]
 | cons v l ih=>intro i acc h;have a:w.cell? (ι.at id (off+i))=some (l9 ι v):=h 0 v rfl;simp only [Y1,loadCellsFrom,X8,K4.nY];rw [Me a,K9,ih (i+1) _ (λj u b=>by rw [show i+1+j=i+(j+1) from by omega];exact h (j+1) u (by simpa using b))];simp [p8]
theorem qb {id off:Nat}{l:List d9}(h:om ι w id off l):(loadCells (ι.at id off) l.length).run P w=.ok (p8 ι l).toArray w:=by have:=yT (P:=P) (ι:=ι) (w:=w) (id:=id) (off:=off) l 0 #[] (λj v a=>by simpa using h j v a);simpa [loadCells] using this
theorem gW {id off len cap es n:Nat}{l:List d9}(a:l.length=n*es)(h:om ι w id off l):
  (Builtin.firstCells es n (.slice (some (ι.at id off)) len cap)).run P w=.ok (p8 ι l).toArray w:=by
 simp only [Builtin.firstCells];rw [← a];exact qb h
end
section
variable {P:Program}{G:Mem}{ι:K4}{m:Mem}{w:World}{slots:List Nat}{done:List (Option Nat)}{ls:List d9}{env:T d9}{a:Act}
theorem wN {t:TypeId}{e:Option Nat}(j:partT P t=some e)(d:RM P G ι m w.heap){id off:Nat}{v:d9}
  (o:P8 (m.get id) (λrs n rows=>match e with | none=>cell1 rs n rows off | some k=>ob (jO rs n rows off k) λl=>some (.agg l))=some v):
  (loadVar t (ι.at id off)).run P w=.ok (l9 ι v) w∧v.lt (m.nm ι):=by
 obtain⟨rs,n,rows,c,h⟩:=dB o;rcases Ea j with⟨rfl,ha,k,hk⟩ | ⟨k,rfl,ha,hk⟩;obtain⟨a,b⟩:=BQ d c h;exact⟨by simp [loadVar,qC ha,a],b⟩;obtain⟨l,a,b⟩:=A8 h;cases b;obtain⟨f,g,i⟩:=JM d c a;refine⟨?_,g⟩;have:=qb (P:=P) i;rw [f] at this;simp [loadVar,qC ha,run_sizeOf hk,this,l9]
theorem fT {t:TypeId}(h:P.underlying t=some .bool∨(∃k,P.underlying t=some (.int k))∨P.underlying t=some .string)(e:Bool)(d:Nat)(v:Value)(w:World):
  (Instr.checkKey e (d+1) t v).run P w=.ok () w:=by
 rcases h with h | ⟨k,h⟩ | h<;>simp [Instr.checkKey,run_underlying h]
def pG (e:Bool)(d:Nat)(X:Array Value):List Field->Sem Unit
 | []=>pure ()
 | f::l=>do
  if f.name≠ "_" then Instr.checkKey e d f.type (← part f.type X f.offset)
  pG e d X l
theorem OY (e:Bool)(d:Nat)(X:Array Value)(l:List Field):
  (forIn l PUnit.unit λf _=>do
    if f.name≠ "_" then Instr.checkKey e d f.type (← part f.type X f.offset)
    pure (ForInStep.yield PUnit.unit):Sem PUnit)=pG e d X l:=by
 induction l with
 | nil=>simp [pG]
 | cons f l ih=>rw [ahe];simp only [pG];rw [← ih];by_cases hf:f.name= "_";simp [hf];simp [hf]
theorem CP {t:TypeId}{a:Array Field}(h:P.underlying t=some (.struct a))(e:Bool)(d:Nat)(X:Array Value)(w:World):
  (Instr.checkKey e (d+1) t (.agg X)).run P w=(pG e d X a.toList).run P w:=by
 simp only [Instr.checkKey,X8,run_underlying h,K9];rw [← ahj,← OY];generalize (forIn a.toList PUnit.unit _:Sem PUnit)=r;simp;cases r.run P w<;>rfl
theorem OZ:∀(d:Nat) (t:TypeId) (ks:List PK),fA P d t=some ks->∃agg,wC P t=some agg∧aS P t=some ks.length∧(agg=false->ks.length=1)∧
  ∀D,d<=D->∀(l:List d9),ks.length<=l.length->∀(e:Bool) w,(Instr.checkKey e D t (mkV ι agg l)).run P w=.ok () w:=by
 intro d;induction d with
 | zero=>intro t ks h;simp [fA] at h
 | succ d ih=>
  intro t ks h;obtain⟨agg,k,i,n,_⟩:=Ho (P:=P) (ι:=ι) (d+1) t ks h;refine⟨agg,k,i,n,λD s l v e w=>?_⟩;obtain⟨D,rfl⟩:∃D',D=D'+1:=⟨D-1,by omega⟩;simp only [fA] at h;cases hu:P.underlying t with
  | none=>simp [hu] at h
  | some u=>
   rw [hu] at h;cases u<;>try (simp at h;done)
   exact fT (.inl hu) e D _ w;exact fT (.inr (.inl ⟨_,hu⟩)) e D _ w;exact fT (.inr (.inr hu)) e D _ w;rename_i p;rw [pE hu] at k;cases k;simp only at h;cases hf:nW (fA P d) p.toList 0 with
   | none=>simp [hf] at h
   | some ks'=>
    simp only [hf] at h;split at h;rename_i x;cases h;simp only [mkV,if_true];rw [CP hu];have o:∀(j:List Field) (c:Nat) (a:List PK),c+a.length<=l.length->nW (fA P d) j c=some a->
      (pG e D (p8 ι l).toArray j).run P w=.ok () w:=by
     intro j;induction j with
     | nil=>intro c a _ _;simp [pG]
     | cons f j ihl=>
      intro c a m b;simp only [nW] at b;split at b;rename_i q;cases hk:fA P d f.type with
      | none=>simp [hk] at b
      | some kf=>
       simp only [hk] at b;cases hrest:nW (fA P d) j (c+kf.length) with
       | none=>simp [hrest] at b
       | some kr=>
        simp only [hrest,J4] at b;subst b;simp only [Z5] at m;obtain⟨agg,k,i,n,r⟩:=ih f.type kf hk;simp only [pG,if_pos q.1,X8];rw [q.2,uE k i _ _ (λg=>⟨by have:=n g;omega,n g⟩),K9,
         r D (by omega) _ (by simp;omega) e w,K9]
        exact ihl (c+kf.length) kr (by omega) hrest
      cases b
    exact o p.toList 0 _ (by omega) hf;cases h
end
section
variable {P:Program}{G:Mem}{ι:K4}
theorem Hr {t:TypeId}{k:Ad}(h:sZ P t=some k):UQ P false t=some k∧((∃j,k=.prim j)∨∃ks,k=.flat ks):=by simp only [sZ] at h;split at h;cases h;exact⟨by assumption,.inl ⟨_,rfl⟩⟩;cases h;exact⟨by assumption,.inr ⟨_,rfl⟩⟩;cases h
theorem dJ (f:Gd)(k:d9)(i:Nat):findKey f k [] i=some none:=rfl
theorem dK (f:Gd)(k:d9)(e:d9×d9)(es:List (d9×d9))(i:Nat):
  findKey f k (e::es) i=ob (f k e.1) λb=>bi b (some (some (i,e.2))) (findKey f k es (i+1)):=rfl
def mO (ι:K4)(r:Option (Nat×d9)):Option (Nat×Value):=r.map λp=>(p.1,l9 ι p.2)
theorem wO {f:Gd}{d:TypeDesc}(hs:∀x y r,f x y=some r->Instr.sameNow d (l9 ι x) (l9 ι y)=some r)(k:d9):
  ∀(es:List (d9×d9)) (i j:Nat) (r:Option (Nat×d9)),findKey f k es i=some r->Instr.findNow d (l9 ι k) (J6 ι es j) i=some (mO ι r)
 | [],i,j,r,h=>by rw [dJ] at h;cases h;rfl
 | e::es,i,j,r,h=>by
  rw [dK] at h;obtain⟨b,h1,h2⟩:=A8 h;simp only [J6,Instr.findNow,hs _ _ _ h1];cases b with
  | true=>cases h2;rfl
  | false=>exact wO hs k es (i+1) (j+1) r h2
theorem qF {f:Gd}{t:TypeId}(hs:∀x y r,f x y=some r->∀w,(Op.equal t (l9 ι x) (l9 ι y)).run P w=.ok r w)(k:d9)(w:World):
  ∀(es:List (d9×d9)) (i j:Nat) (r:Option (Nat×d9)),findKey f k es i=some r->(Instr.findAsking t (l9 ι k) (J6 ι es j) i).run P w=.ok (mO ι r) w
 | [],i,j,r,h=>by rw [dJ] at h;cases h;simp [J6,Instr.findAsking,mO]
 | e::es,i,j,r,h=>by
  rw [dK] at h;obtain⟨b,h1,h2⟩:=A8 h;simp only [J6,Instr.findAsking,X8,hs _ _ _ h1 w,K9];cases b with
  | true=>cases h2;simp [mO]
  | false=>simpa using qF hs k w es (i+1) (j+1) r h2
theorem jU {f:Gd}{n:Nat}{k:d9}{es:List (d9×d9)}{r:Option (Nat×d9)}(h:R8 f n k es=some r):
  k.cells.length=n∧(∃y b,f k y=some b)∧findKey f k es 0=some r:=by
 obtain⟨a,h⟩:=D9 h;have a:=q8 a;rw [I9] at a;refine⟨a,?_⟩;cases es with
 | nil=>obtain⟨b,c,d⟩:=A8 (show ob (f k k) (λ_=>some none)=some r from h);exact⟨⟨_,_,c⟩,by rw [dJ];exact d⟩
 | cons e es=>have h:findKey f k (e::es) 0=some r:=h;refine⟨?_,h⟩;rw [dK] at h;obtain⟨b,c,_⟩:=A8 h;exact⟨_,_,c⟩
theorem vM {kk:Ad}{t:TypeId}(d:sZ P t=some kk):
  (kk=.prim .b∧P.underlying t=some .bool)∨(∃k,kk=.prim .i∧P.underlying t=some (.int k))∨(kk=.prim .s∧P.underlying t=some .string)∨
  ∃fs ks,kk=.flat ks∧P.underlying t=some (.struct fs)∧fA P 10 t=some ks:=by
 obtain⟨a,c⟩:=Hr d;simp only [UQ] at a;cases hu:P.underlying t with
 | none=>simp [hu] at a
 | some u=>
  rw [hu] at a;cases u<;>try (simp at a;done)
  simp only [J4] at a;subst a;simp;simp only [J4] at a;subst a;simp;simp only [J4] at a;subst a;simp;simp only at a;split at a;cases a;rcases c with⟨_,c⟩ | ⟨_,c⟩<;>cases c
  cases a;simp only [J4] at a;subst a;rcases c with⟨_,c⟩ | ⟨_,c⟩<;>cases c
  simp only [J4] at a;subst a;rcases c with⟨_,c⟩ | ⟨_,c⟩<;>cases c
  rename_i fs;simp only at a;cases hf:fA P 10 t with
  | none=>simp [hf] at a
  | some ks=>simp only [hf] at a;split at a;cases a;exact .inr (.inr (.inr ⟨fs,ks,rfl,rfl,rfl⟩));cases a
  simp only [J4] at a;subst a;rcases c with⟨_,c⟩ | ⟨_,c⟩<;>cases c
theorem Db {kk:Ad}{t:TypeId}(f:sZ P t=some kk){k y:d9}{b:Bool}(g:k.cells.length=Ap kk)(h:mo kk k y=some b)(e:Bool)(w:World):
  (Instr.checkKey e 10000 t (l9 ι k)).run P w=.ok () w:=by
 rcases vM f with⟨rfl,hu⟩ | ⟨_,rfl,hu⟩ | ⟨rfl,hu⟩ | ⟨fs,ks,rfl,hu,hf⟩;exact fT (.inl hu) e _ _ w;exact fT (.inr (.inl ⟨_,hu⟩)) e _ _ w;exact fT (.inr (.inr hu)) e _ _ w;obtain⟨l,rfl,_⟩:=dX h;obtain⟨c,a,_,_,d⟩:=OZ (P:=P) (ι:=ι) 10 t ks hf;rw [pE hu] at a;cases a;have:=d 10000 (by decide) l (Nat.le_of_eq g.symm) e w;simpa [mkV,l9] using this
theorem RS {kk:Ad}{d:TypeDesc}(h:(kk=.prim .b∧d=.bool)∨(∃k,kk=.prim .i∧d=.int k)∨(kk=.prim .s∧d=.string))(x y:d9)(r:Bool)(c:mo kk x y=some r):
  Instr.sameNow d (l9 ι x) (l9 ι y)=some r:=by
 rcases h with⟨rfl,rfl⟩ | ⟨k,rfl,rfl⟩ | ⟨rfl,rfl⟩;obtain⟨a,b,rfl,rfl,rfl⟩:=gV c;simp [l9,Instr.sameNow];obtain⟨k,a,b,rfl,rfl,rfl⟩:=oh c;simp [l9,Instr.sameNow];obtain⟨a,b,rfl,rfl,rfl⟩:=jm c;simp [l9,Instr.sameNow,lI]
theorem lJ {kk:Ad}{t:TypeId}(f:sZ P t=some kk){k:d9}{es:List (d9×d9)}{r:Option (Nat×d9)}(h:findKey (mo kk) k es 0=some r)(w:World):
  (Instr.findKey t (l9 ι k) (J6 ι es 0)).run P w=.ok (mO ι r) w:=by
 have a:∀d,P.underlying t=some d->((kk=.prim .b∧d=.bool)∨(∃k,kk=.prim .i∧d=.int k)∨(kk=.prim .s∧d=.string))->
   (Instr.findKey t (l9 ι k) (J6 ι es 0)).run P w=.ok (mO ι r) w:=by
  intro d c j;simp [Instr.findKey,run_underlying c,wO (RS j) k es 0 0 r h]
 rcases vM f with⟨rfl,c⟩ | ⟨_,rfl,c⟩ | ⟨rfl,c⟩ | ⟨fs,ks,rfl,c,hf⟩;exact a _ c (.inl ⟨rfl,rfl⟩);exact a _ c (.inr (.inl ⟨_,rfl,rfl⟩));exact a _ c (.inr (.inr ⟨rfl,rfl⟩));have g:=qF (P:=P) (ι:=ι) (t:=t) (λx y r l w=>BP (Hr f).1 l w) k w es 0 0 r h;cases es with
 | nil=>rw [dJ] at h;cases h;simp [Instr.findKey,run_underlying c,J6,Instr.findNow,mO]
 | cons e es=>simp only [Instr.findKey,X8,run_underlying c,K9];simp only [J6,Instr.findNow,Instr.sameNow];exact g
theorem kX {f:Gd}{k:d9}:∀{es:List (d9×d9)} {i:Nat} {p:Nat×d9},findKey f k es i=some (some p)->
  ∃j e,p.1=i+j∧es[j]?=some e∧e.2=p.2∧f k e.1=some true
 | [],i,p,h=>by rw [dJ] at h;cases h
 | e::es,i,p,h=>by
  rw [dK] at h;obtain⟨b,h1,h2⟩:=A8 h;cases b with
  | true=>cases h2;exact⟨0,e,rfl,rfl,rfl,h1⟩
  | false=>obtain⟨j,e',h3,h4,h5⟩:=kX h2;exact⟨j+1,e',by omega,by simpa using h4,h5⟩
end
section
variable {P:Program}{G:Mem}{slots:List Nat}{done:List (Option Nat)}
inductive qc (P:Program)(slots:List Nat)(done:List (Option Nat)):Op->OG->Prop
 | load {t x sz x'}:partT P t=some sz->N8 P slots done x=some x'->qc P slots done (.load t x) (.load sz x')
 | look {t kt e kk z ok x k x' k'}:P.underlying t=some (.map kt e)->sZ P kt=some kk->zeroV P e=some z->N8 P slots done x=some x'->N8 P slots done k=some k'->
   qc P slots done (.lookup t x k ok) (.look kk z ok x' k')
 | lenM {c t kt e x x'}:c.callee=.builtin .len->c.argTypes.toList=[t]->c.args.toList=[x]->P.underlying t=some (.map kt e)->N8 P slots done x=some x'->
   qc P slots done (.call c) (.lenM x')
 | slData {c t e x x'}:c.callee=.builtin .unsafeSliceData->c.argTypes.toList=[t]->c.args.toList=[x]->P.underlying t=some (.slice e)->N8 P slots done x=some x'->qc P slots done (.call c) (.slData x')
 | toUns {a b t x x' k}:P.underlying a=some (.pointer t)->P.underlying b=some .unsafePointer->aS P t=some k->k≠0->N8 P slots done x=some x'->qc P slots done (.convert a b x) (.toUns x')
 | fromUns {a b u x x' k}:P.underlying a=some .unsafePointer->P.underlying b=some (.pointer u)->aS P u=some k->k≠0->N8 P slots done x=some x'->qc P slots done (.convert a b x) (.fromUns (LJ P u) x')
 | bytesStr {a b e x x'}:P.underlying a=some (.slice e)->P.underlying b=some .string->P.underlying e=some (.int .u8)->N8 P slots done x=some x'->
   qc P slots done (.convert a b x) (.bytesStr x')
 | entry {x x'}:N8 P slots done x=some x'->qc P slots done (.entry x) (.entry x')
set_option maxHeartbeats 1000000 in
theorem uI {n:Op}{ro:OG}(h:fQ P slots done n=some (.r ro)):qc P slots done n ro:=by
 cases n with
 | load t x=>obtain⟨B,g,h⟩:=bind_eq h;obtain⟨i,d,h⟩:=bind_eq h;cases h;exact .load g d
 | lookup t x k ok=>obtain⟨u,e,h⟩:=bind_eq h;split at h;obtain⟨A,g,h⟩:=bind_eq h;obtain⟨z,d,h⟩:=bind_eq h;obtain⟨i,p,h⟩:=bind_eq h;obtain⟨y,q,h⟩:=bind_eq h;cases h;exact .look e g d p q;cases h
 | entry x=>obtain⟨i,d,h⟩:=bind_eq h;cases h;exact .entry d
 | convert a b x=>obtain⟨u,e,h⟩:=bind_eq h;obtain⟨v,l,h⟩:=bind_eq h;split at h;obtain⟨_,_,h⟩:=bind_eq h;cases h;obtain⟨_,_,h⟩:=bind_eq h;split at h;obtain⟨_,_,h⟩:=bind_eq h;cases h;cases h;obtain⟨w,s,h⟩:=bind_eq h;split at h;obtain⟨i,f,h⟩:=bind_eq h;cases h;exact .bytesStr e l s f;cases h;obtain⟨k,j,h⟩:=bind_eq h;split at h;cases h;obtain⟨i,f,h⟩:=bind_eq h;cases h;exact .toUns e l j (by assumption) f;obtain⟨k,j,h⟩:=bind_eq h;split at h;cases h;obtain⟨i,f,h⟩:=bind_eq h;cases h;exact .fromUns e l j (by assumption) f;cases h
 | call c=>
  simp only [fQ] at h;split at h
  ·rename_i b o;simp only [um] at h;split at h;rename_i g d;obtain⟨u,e,h⟩:=bind_eq h;split at h;obtain⟨_,_,h⟩:=bind_eq h;cases h;obtain⟨_,_,h⟩:=bind_eq h;cases h;cases h;obtain⟨i,f,h⟩:=bind_eq h;cases h;exact .lenM o g d e f;cases h
   case h_9 g d=>obtain⟨u,e,h⟩:=bind_eq h;split at h;obtain⟨i,f,h⟩:=bind_eq h;cases h;exact .slData o g d e f;cases h
   all_goals (repeat' (first | (cases h;done) | (obtain⟨_,_,h⟩:=bind_eq h) | split at h))
  ·obtain⟨_,_,h⟩:=bind_eq h;repeat' (first | (cases h;done) | (obtain⟨_,_,h⟩:=bind_eq h) | split at h)
  obtain⟨_,_,h⟩:=bind_eq h;obtain⟨_,_,h⟩:=bind_eq h;cases h;cases h
 | build t parts=>simp only [fQ,xD] at h;repeat' (first | (cases h;done) | split at h)
 | slice t x lo hi mx=>
  cases mx with
  | some m=>simp only [fQ] at h;cases h
  | none=>simp only [fQ] at h;repeat' (first | (cases h;done) | (obtain⟨_,_,h⟩:=bind_eq h) | split at h)
 | next it str=>
  cases str with
  | true=>simp only [fQ] at h;obtain⟨_,_,h⟩:=bind_eq h;cases h
  | false=>simp only [fQ] at h;obtain⟨_,_,h⟩:=bind_eq h;cases h
 | _=>simp only [fQ] at h;repeat' (first | (cases h;done) | (obtain⟨_,_,h⟩:=bind_eq h) | split at h)
inductive mH (P:Program)(slots:List Nat)(done:List (Option Nat)):Op->RA->Prop
 | alloc {t z}:qA P t=some z->mH P slots done (.alloc t) (.alloc z)
 | box {t x x'}:N8 P slots done x=some x'->mH P slots done (.box t x) (.box x')
 | allocT {t z}:CJ P t=some z->mH P slots done (.alloc t) (.allocT t z)
 | boxT {t k x x'}:aS P t=some k->N8 P slots done x=some x'->mH P slots done (.box t x) (.boxT t k x')
 | buildSlice {t len parts e es ps z}:P.underlying t=some (.slice e)->aS P e=some es->uj P slots done (λi=>some (i*es,es)) parts.toList=some ps->len*es<=16777216->
   qA P e=some z->mH P slots done (.buildSlice t len parts) (.buildSlice es len z ps)
 | mkMap {t}:mH P slots done (.makeMap t none) .mkMap
 | mkMapN {t k n kt e}:P.underlying t=some (.map kt e)->mH P slots done (.makeMap t (some (.const (.int k n)))) .mkMap
 | mkSlice {t l c e es by' z l' c'}:P.underlying t=some (.slice e)->aS P e=some es->fI P e=some by'->CJ P e=some z->N8 P slots done l=some l'->N8 P slots done c=some c'->
   mH P slots done (.makeSlice t l c) (.mkSlice es by' z l' c')
 | strBytes {a b e x x'}:P.underlying a=some .string->P.underlying b=some (.slice e)->P.underlying e=some (.int .u8)->N8 P slots done x=some x'->
   mH P slots done (.convert a b x) (.strBytes x')
 | sl {t x lo hi e es x' lo' hi'}:P.underlying t=some (.slice e)->aS P e=some es->N8 P slots done x=some x'->cOpt P slots done lo=some lo'->cOpt P slots done hi=some hi'->
   mH P slots done (.slice t x lo hi none) (.sl es x' lo' hi')
set_option maxHeartbeats 1000000 in
theorem yU {n:Op}{lo:RA}(h:fQ P slots done n=some (.a lo)):mH P slots done n lo:=by
 cases n with
 | alloc t=>simp only [fQ] at h;split at h;obtain⟨z,d,h⟩:=bind_eq h;cases h;exact .allocT d;obtain⟨z,d,h⟩:=bind_eq h;cases h;exact .alloc d
 | box t x=>simp only [fQ] at h;split at h;obtain⟨k,d,h⟩:=bind_eq h;obtain⟨z,f,h⟩:=bind_eq h;cases h;exact .boxT d f;obtain⟨z,d,h⟩:=bind_eq h;cases h;exact .box d
 | buildSlice t len parts=>obtain⟨u,e,h⟩:=bind_eq h;split at h;obtain⟨y,d,h⟩:=bind_eq h;obtain⟨A,f,h⟩:=bind_eq h;split at h;rename_i j;obtain⟨z,g,h⟩:=bind_eq h;cases h;exact .buildSlice e d f j g;cases h;cases h
 | makeMap t r=>simp only [fQ] at h;split at h;cases h;exact .mkMap;split at h;rename_i e;cases h;exact .mkMapN e;cases h;cases h
 | makeSlice t l c=>obtain⟨u,e,h⟩:=bind_eq h;split at h;obtain⟨_,d,h⟩:=bind_eq h;obtain⟨_,f,h⟩:=bind_eq h;obtain⟨_,g,h⟩:=bind_eq h;obtain⟨_,i,h⟩:=bind_eq h;obtain⟨_,q,h⟩:=bind_eq h;cases h;exact .mkSlice e d f g i q;cases h
 | convert a b x=>obtain⟨u,e,h⟩:=bind_eq h;obtain⟨v,s,h⟩:=bind_eq h;split at h;obtain⟨_,_,h⟩:=bind_eq h;cases h;obtain⟨w,o,h⟩:=bind_eq h;split at h;obtain⟨_,p,h⟩:=bind_eq h;cases h;exact .strBytes e s o p;cases h;obtain⟨w,o,h⟩:=bind_eq h;split at h;obtain⟨B,p,h⟩:=bind_eq h;cases h;cases h;all_goals (repeat' (first | (cases h;done) | (obtain⟨_,_,h⟩:=bind_eq h) | split at h))
 | slice t x lo hi mx=>
  cases mx with
  | some m=>simp only [fQ] at h;cases h
  | none=>simp only [fQ] at h;obtain⟨u,e,h⟩:=bind_eq h;split at h;obtain⟨_,_,h⟩:=bind_eq h;obtain⟨_,_,h⟩:=bind_eq h;obtain⟨_,_,h⟩:=bind_eq h;cases h;obtain⟨_,d,h⟩:=bind_eq h;obtain⟨_,f,h⟩:=bind_eq h;obtain⟨_,g,h⟩:=bind_eq h;obtain⟨_,i,h⟩:=bind_eq h;cases h;exact .sl e d f g i;obtain⟨_,_,h⟩:=bind_eq h;obtain⟨_,_,h⟩:=bind_eq h;obtain⟨_,_,h⟩:=bind_eq h;obtain⟨_,_,h⟩:=bind_eq h;cases h;cases h
 | call c=>
  simp only [fQ] at h;split at h
  ·simp only [um] at h;split at h;all_goals (repeat' (first | (cases h;done) | (obtain⟨_,_,h⟩:=bind_eq h) | split at h))
  ·obtain⟨_,_,h⟩:=bind_eq h;repeat' (first | (cases h;done) | (obtain⟨_,_,h⟩:=bind_eq h) | split at h)
  obtain⟨_,_,h⟩:=bind_eq h;obtain⟨_,_,h⟩:=bind_eq h;cases h;cases h
 | build t parts=>simp only [fQ,xD] at h;repeat' (first | (cases h;done) | split at h)
 | next it str=>
  cases str with
  | true=>simp only [fQ] at h;obtain⟨_,_,h⟩:=bind_eq h;cases h
  | false=>simp only [fQ] at h;obtain⟨_,_,h⟩:=bind_eq h;cases h
 | _=>simp only [fQ] at h;repeat' (first | (cases h;done) | (obtain⟨_,_,h⟩:=bind_eq h) | split at h)
inductive kL (P:Program)(slots:List Nat)(done:List (Option Nat)):Op->Uf->Prop
 | store {t a x k a' x'}:aS P t=some k->N8 P slots done a=some a'->N8 P slots done x=some x'->kL P slots done (.store t a x) (.store k a' x')
 | mapUpdate {t m k x kt e kk m' k' x'}:P.underlying t=some (.map kt e)->sZ P kt=some kk->N8 P slots done m=some m'->N8 P slots done k=some k'->N8 P slots done x=some x'->
   kL P slots done (.mapUpdate t m k x) (.mapSet kk m' k' x')
 | insert {t m k x kt e kk m' k' x'}:P.underlying t=some (.map kt e)->sZ P kt=some kk->N8 P slots done m=some m'->N8 P slots done k=some k'->N8 P slots done x=some x'->
   kL P slots done (.insert t m k x) (.mapSet kk m' k' x')
 | range {t x k e x'}:P.underlying t=some (.map k e)->N8 P slots done x=some x'->kL P slots done (.range t x) (.range x')
 | next {x x'}:N8 P slots done x=some x'->kL P slots done (.next x false) (.next x')
 | app {c t u s x e es z by' s' x' d}:P.underlying u=some d->c.callee=.builtin .append->c.argTypes.toList=[t,u]->c.args.toList=[s,x]->P.underlying t=some (.slice e)->
   aS P e=some es->CJ P e=some z->fI P e=some by'->N8 P slots done s=some s'->N8 P slots done x=some x'->
   kL P slots done (.call c) (.app es (match d with | .int _=>true | _=>false) z by' s' x')
 | copy {c t u d s e es d' s'}:c.callee=.builtin .copy->c.argTypes.toList=[t,u]->c.args.toList=[d,s]->P.underlying t=some (.slice e)->
   aS P e=some es->N8 P slots done d=some d'->N8 P slots done s=some s'->kL P slots done (.call c) (.copy es d' s')
 | clear {c t x e z x'}:c.callee=.builtin .clear->c.argTypes.toList=[t]->c.args.toList=[x]->P.underlying t=some (.slice e)->
   qA P e=some z->N8 P slots done x=some x'->kL P slots done (.call c) (.clear z x')
 | call {c f fn as}:c.callee=.value (.func f)->P.funcs[f]?=some fn->fn.body.isSome=true->fn.name≠ "runtime.NumGoroutine"->jB P slots done c.args.toList=some as->
   kL P slots done (.call c) (.call f as)
 | rangeS {t x x'}:P.underlying t=some .string->N8 P slots done x=some x'->kL P slots done (.range t x) (.rangeS x')
 | nextS {x x'}:N8 P slots done x=some x'->kL P slots done (.next x true) (.nextS x')
 | appB {c t u s x e s' x'}:P.underlying u=some .string->c.callee=.builtin .append->c.argTypes.toList=[t,u]->c.args.toList=[s,x]->P.underlying t=some (.slice e)->BM P e=true->
   N8 P slots done s=some s'->N8 P slots done x=some x'->kL P slots done (.call c) (.appB e s' x')
 | ustr {c t u p n e p' n'}:c.callee=.builtin .unsafeString->c.argTypes.toList=[t,u]->c.args.toList=[p,n]->P.underlying t=some (.pointer e)->BM P e=true->
   N8 P slots done p=some p'->N8 P slots done n=some n'->kL P slots done (.call c) (.ustr e p' n')
 | panic {x x'}:N8 P slots done x=some x'->kL P slots done (.panic x) (.panic x')
 | defer {c f f' as}:c.callee=.value f->N8 P slots done f=some f'->jB P slots done c.args.toList=some as->kL P slots done (.defer c) (.defer f' as)
 | recover {c}:c.callee=.builtin .recover->kL P slots done (.call c) .recover
 | callv {c f f' as}:c.callee=.value f->N8 P slots done f=some f'->jB P slots done c.args.toList=some as->
   kL P slots done (.call c) (.callv f' as)
set_option maxHeartbeats 1000000 in
theorem yV {y:Op}{eo:Uf}(h:fQ P slots done y=some (.e eo)):kL P slots done y eo:=by
 cases y with
 | store t a x=>obtain⟨_,g,h⟩:=bind_eq h;obtain⟨_,i,h⟩:=bind_eq h;obtain⟨_,l,h⟩:=bind_eq h;cases h;exact .store g i l
 | mapUpdate t m k x=>obtain⟨u,j,h⟩:=bind_eq h;split at h;obtain⟨_,g,h⟩:=bind_eq h;obtain⟨_,i,h⟩:=bind_eq h;obtain⟨_,l,h⟩:=bind_eq h;obtain⟨_,n,h⟩:=bind_eq h;cases h;exact .mapUpdate j g i l n;cases h
 | insert t m k x=>obtain⟨u,j,h⟩:=bind_eq h;split at h;obtain⟨_,g,h⟩:=bind_eq h;obtain⟨_,i,h⟩:=bind_eq h;obtain⟨_,l,h⟩:=bind_eq h;obtain⟨_,n,h⟩:=bind_eq h;cases h;exact .insert j g i l n;cases h
 | range t x=>obtain⟨u,j,h⟩:=bind_eq h;split at h;obtain⟨_,g,h⟩:=bind_eq h;cases h;exact .range j g;obtain⟨_,g,h⟩:=bind_eq h;cases h;exact .rangeS j g;cases h
 | next it str=>
  cases str with
  | true=>simp only [fQ] at h;obtain⟨_,g,h⟩:=bind_eq h;cases h;exact .nextS g
  | false=>simp only [fQ] at h;obtain⟨_,g,h⟩:=bind_eq h;cases h;exact .next g
 | panic x=>obtain⟨_,g,h⟩:=bind_eq h;cases h;exact .panic g
 | defer c=>simp only [fQ] at h;split at h;obtain⟨_,g,h⟩:=bind_eq h;obtain⟨_,i,h⟩:=bind_eq h;cases h;exact .defer (by assumption) g i;cases h
 | convert a b x=>obtain⟨u,j,h⟩:=bind_eq h;obtain⟨v,D,h⟩:=bind_eq h;repeat' (first | (cases h;done) | (obtain⟨_,_,h⟩:=bind_eq h) | split at h)
 | slice t x lo hi mx=>
  cases mx with
  | some m=>simp only [fQ] at h;cases h
  | none=>simp only [fQ] at h;repeat' (first | (cases h;done) | (obtain⟨_,_,h⟩:=bind_eq h) | split at h)
 | call c=>
  simp only [fQ] at h;split at h
  ·rename_i b p;simp only [um] at h;split at h
   ·repeat' (first | (cases h;done) | (obtain⟨_,_,h⟩:=bind_eq h) | split at h)
   ·repeat' (first | (cases h;done) | (obtain⟨_,_,h⟩:=bind_eq h) | split at h)
   rename_i g i;obtain⟨u,j,h⟩:=bind_eq h;split at h;obtain⟨d,z,h⟩:=bind_eq h;split at h;rename_i o;obtain⟨_,r,h⟩:=bind_eq h;obtain⟨_,s,h⟩:=bind_eq h;cases h;rw [U9] at o;have:d=.string:=by have:=o.1;cases d<;>first | rfl | cases this
   exact .appB (by rw [z,this]) p g i j o.2 r s;obtain⟨_,l,h⟩:=bind_eq h;obtain⟨_,n,h⟩:=bind_eq h;obtain⟨_,q,h⟩:=bind_eq h;obtain⟨_,r,h⟩:=bind_eq h;obtain⟨_,s,h⟩:=bind_eq h;cases h;exact .app z p g i j l n q r s;cases h;rename_i g i;obtain⟨u,j,h⟩:=bind_eq h;split at h;obtain⟨_,l,h⟩:=bind_eq h;obtain⟨_,n,h⟩:=bind_eq h;obtain⟨_,q,h⟩:=bind_eq h;cases h;exact .copy p g i j l n q;cases h;rename_i g i;obtain⟨u,j,h⟩:=bind_eq h;split at h;obtain⟨_,l,h⟩:=bind_eq h;obtain⟨_,n,h⟩:=bind_eq h;cases h;exact .clear p g i j l n;cases h
   case h_10 g i=>obtain⟨u,j,h⟩:=bind_eq h;split at h;split at h;rename_i o;obtain⟨_,l,h⟩:=bind_eq h;obtain⟨_,n,h⟩:=bind_eq h;cases h;exact .ustr p g i j o l n;cases h;cases h
   all_goals (first | (cases h;exact .recover p;done) | (repeat' (first | (cases h;done) | (obtain⟨_,_,h⟩:=bind_eq h) | split at h)))
  ·rename_i f A;obtain⟨C,g,h⟩:=bind_eq h;split at h;rename_i w;obtain⟨B,i,h⟩:=bind_eq h;cases h;simp only [U9,bne_iff_ne,ne_eq] at w;exact .call A g w.1 w.2 i
   ·repeat' (first | (cases h;done) | (obtain⟨_,_,h⟩:=bind_eq h) | split at h)
  rename_i f A _;obtain⟨_,g,h⟩:=bind_eq h;obtain⟨_,i,h⟩:=bind_eq h;cases h;exact .callv (by assumption) g i;cases h
 | build t parts=>simp only [fQ,xD] at h;repeat' (first | (cases h;done) | split at h)
 | _=>simp only [fQ] at h;repeat' (first | (cases h;done) | (obtain⟨_,_,h⟩:=bind_eq h) | split at h)
end
section
variable {P:Program}{G:Mem}{ι:K4}{m:Mem}{w:World}{slots:List Nat}{done:List (Option Nat)}{ls:List d9}{env:T d9}{a:Act}
def QB (P:Program)(ρ:Operand->Value)(op:Op)(v:Value)(w:World):Prop:=
 ∀(o:Oper),o.op=op->(execOp ρ o).run P w=.ok (.value v) w
theorem fC {r:Nat}{o:Obj}(h:w.heap[r]?=some o)(a:∀c e fz,o≠.cells c e fz):(getObj r).run P w=.ok o w:=by simp only [getObj,Sem.run,h]
theorem JN (f:RM P G ι m w.heap){id:Nat}{es:List (d9×d9)}(d:m.get id=some (.map es)):
  (getObj (ι id).b).run P w=.ok (.map (J6 ι es 0).toArray es.length) w∧∀e∈es,e.1.lt (m.nm ι)∧e.2.lt (m.nm ι):=by
 obtain⟨a,c⟩:=f.blk id _ d;exact⟨fC a (by intro _ _ _ e;cases e),c⟩
def uJ (ι:K4)(ok:Bool)(z:d9)(r:Option (Nat×d9)):Value:=match r with
 | some p=>if ok then .tuple #[l9 ι p.2,.bool true] else l9 ι p.2
 | none=>if ok then .tuple #[l9 ι z,.bool false] else l9 ι z
theorem BR {ok:Bool}{z v:d9}{r:Option (Nat×d9)}(h:found ok z r=some v){n:Nm}(b:z.lt n)(a:∀p,r=some p->p.2.lt n):
  v.lt n∧l9 ι v=uJ ι ok z r:=by
 cases r with
 | none=>have h:some (bi ok (.tuple [z,.bool false]) z)=some v:=h;cases h;cases ok<;>simp [bi,d9.lt,bg,l9,p8,b,uJ]
 | some p=>have h:some (bi ok (.tuple [p.2,.bool true]) p.2)=some v:=h;cases h;have:=a p rfl;cases ok<;>simp [bi,d9.lt,bg,l9,p8,this,uJ]
theorem yX (w:World){t f e:TypeId}{kk:Ad}{z:d9}(o:P.underlying t=some (.map f e))(m:sZ P f=some kk)(I:zeroV P e=some z){ok:Bool}{k v:d9}
  {es:List (d9×d9)} {r:Option (Nat×d9)} {n:Nm} (h:∀e∈es,e.1.lt n∧e.2.lt n) (E:R8 (mo kk) (Ap kk) k es=some r) (G:found ok z r=some v):
  v.lt n∧∀x,(x=.map none∧es=[])∨(∃b,x=.map (some b)∧∀w',w'=w->(getObj b).run P w'=.ok (.map (J6 ι es 0).toArray es.length) w')->
   (Instr.lookup t x (l9 ι k) ok).run P w=.ok (l9 ι v) w:=by
 obtain⟨A,⟨y,b,B⟩,d⟩:=jU E;obtain⟨c,i⟩:=nI (w:=w) I ι;obtain⟨u,g⟩:=BR (ι:=ι) G (i n) (λp F=>by
  subst F;obtain⟨j,s,_,C,D,_⟩:=kX d;rw [← D];exact (h s (Y6 C)).2)
 refine⟨u,λx H=>?_⟩;have l:=λq=>Db (ι:=ι) m A B q w;have a:=lJ (ι:=ι) m d w;rcases H with⟨rfl,rfl⟩ | ⟨b,rfl,hb⟩;simp only [Instr.lookup,X8,run_underlying o,K9,aaS,l];rw [show Instr.findKey f (l9 ι k) []=Instr.findKey f (l9 ι k) (J6 ι [] 0) from rfl,a];simp only [K9];rw [dJ] at d;cases d;simp [mO,c,g,uJ];simp only [Instr.lookup,X8,run_underlying o,K9,hb w rfl,aaS,l];rw [a];simp only [K9];cases r with
 | none=>simp [mO,c,g,uJ]
 | some p=>simp [mO,g,uJ]
theorem Dc {β:Type}{b:Option Q6}{k:List (d9×d9)->Option β}{r:β}(h:Cw b k=some r):∃es,(b=some (.map es)∨b=some (.mapU es))∧k es=some r:=by
 match b,h with
 | some (.map es),h=>exact⟨es,.inl rfl,h⟩
 | some (.mapU es),h=>exact⟨es,.inr rfl,h⟩
def tq (x:MapEntry):Value×Value:=(x.key,x.val)
theorem Ef (d:TypeDesc)(k:Value):∀(L M:List MapEntry) (i:Nat),L.map tq=M.map tq->Instr.findNow d k L i=Instr.findNow d k M i
 | [],[],_,_=>rfl
 | [],_ :: _,_,h=>by cases h
 | _ :: _,[],_,h=>by cases h
 | x::L,y::M,i,h=>by simp only [Z7,aeg,tq,ag0] at h;obtain⟨⟨h1,h2⟩,h3⟩:=h;simp only [Instr.findNow,h1,h2,Ef d k L M (i+1) h3]
theorem wP (t:TypeId)(k:Value):∀(L M:List MapEntry) (i:Nat),L.map tq=M.map tq->Instr.findAsking t k L i=Instr.findAsking t k M i
 | [],[],_,_=>rfl
 | [],_ :: _,_,h=>by cases h
 | _ :: _,[],_,h=>by cases h
 | x::L,y::M,i,h=>by simp only [Z7,aeg,tq,ag0] at h;obtain⟨⟨h1,h2⟩,h3⟩:=h;simp only [Instr.findAsking,h1,h2,wP t k L M (i+1) h3]
theorem Eh (t:TypeId)(k:Value){L M:List MapEntry}(h:L.map tq=M.map tq):Instr.findKey t k L=Instr.findKey t k M:=by unfold Instr.findKey;congr 1;funext d;rw [Ef d k L M 0 h,wP t k L M 0 h]
theorem BS {α β:Type}(f:α->β):∀{l:List β} {es:List α},l.Perm (es.map f)->∃es':List α,es'.Perm es∧l=es'.map f:=by
 intro l es h;generalize hm:es.map f=m at h;induction h generalizing es with
 | nil=>exact⟨[],by simp at hm;subst hm;exact .nil,rfl⟩
 | cons x h ih=>
  cases es with
  | nil=>cases hm
  | cons e es=>simp only [Z7,aeg] at hm;obtain⟨es',d,g⟩:=ih hm.2;exact⟨e::es',d.cons e,by rw [g,← hm.1];rfl⟩
 | swap x y l=>
  match es,hm with
  | a::b::es,hm=>simp only [Z7,aeg] at hm;exact⟨b::a::es,.swap _ _ _,by rw [← hm.1,← hm.2.1,← hm.2.2];rfl⟩
  | [],hm=>cases hm
  | [_],hm=>simp at hm
 | trans d g ih1 ih2=>obtain⟨i,j,n⟩:=ih2 hm;obtain⟨c,k,o⟩:=ih1 n.symm;exact⟨c,k.trans j,o⟩
theorem xK (ι:K4):∀(es:List (d9×d9)) (i:Nat),(J6 ι es i).map tq=es.map λe=>(l9 ι e.1,l9 ι e.2)
 | [],_=>rfl
 | e::es,i=>by simp [J6,tq,xK ι es]
theorem xL {s:List UInt8}:∀(es:List (d9×d9)) (i:Nat),(∀e∈es,∃t,e.1=.str t)->(∀e∈es,e.1≠.str s)->findKey eqStr (.str s) es i=some none
 | [],_,_,_=>rfl
 | e::es,i,h1,h2=>by obtain⟨t,ht⟩:=h1 e (by simp);have hne:s≠t:=λh=>h2 e (by simp) (by rw [ht,h]);rw [dK,ht];show ob (some (strEq s t)) _=_;rw [gU,beq_eq_false_iff_ne.2 hne];exact xL es (i+1) (λx hx=>h1 x (by simp [hx])) (λx hx=>h2 x (by simp [hx]))
theorem pI {s:List UInt8}{v:d9}:∀(es:List (d9×d9)) (i:Nat),(∀e∈es,∃t,e.1=.str t)->(es.map (·.1)).Nodup->(.str s,v)∈es->∃j,findKey eqStr (.str s) es i=some (some (i+j,v))∧es[j]?=some (.str s,v)
 | [],_,_,_,h=>by cases h
 | e::es,i,h1,h2,h3=>by
  obtain⟨t,ht⟩:=h1 e (by simp);rw [dK,ht];have hq:∀k:Bool->Option (Option (Nat×d9)),ob (eqStr (.str s) (.str t)) k=k (s==t):=λk=>by show k (strEq s t)=_;rw [gU]
  rw [hq];simp only [Z7,ads] at h2;rcases Z9.1 h3 with h3 | h3;have:s=t:=by rw [← h3] at ht;simpa using ht
  subst this;refine⟨0,?_,by rw [← h3];rfl⟩;rw [beq_self_eq_true,← h3];rfl;have hne:s≠t:=λh=>h2.1 (by rw [ht,← h];exact ab1.2 ⟨_,h3,rfl⟩);rw [beq_eq_false_iff_ne.2 hne];obtain⟨j,q1,q2⟩:=pI es (i+1) (λx hx=>h1 x (by simp [hx])) h2.2 h3;exact⟨j+1,by rw [show i+(j+1)=i+1+j from by omega];exact q1,q2⟩
theorem QC {kk:Ad}{t:TypeId}(c:sZ P t=some kk){k:d9}{s:List UInt8}{b:Bool}(h:mo kk k (.str s)=some b):kk=.prim .s∧∃u,k=.str u:=by rcases vM c with⟨rfl,_⟩ | ⟨_,rfl,_⟩ | ⟨rfl,_⟩ | ⟨fs,ks,rfl,_,_⟩;obtain⟨_,_,_,h,_⟩:=gV h;cases h;obtain⟨_,_,_,_,h,_⟩:=oh h;cases h;obtain⟨a,_,h,_⟩:=jm h;exact⟨rfl,a,h⟩;obtain⟨_,_,h⟩:=dX h;obtain⟨_,h,_⟩:=dX h;cases h
theorem aaZ {kk:Ad}{t:TypeId}(A:sZ P t=some kk){k:d9}{es a:List (d9×d9)}(hp:a.Perm es)(i:∀e∈es,∃s,e.1=.str s)(w:(es.map (·.1)).Nodup){r:Option (Nat×d9)}(z:R8 (mo kk) (Ap kk) k es=some r):
  ∃r',findKey (mo kk) k a 0=some r'∧r'.map (·.2)=r.map (·.2):=by
 obtain⟨_,_,c⟩:=jU z;cases es with
 | nil=>rw [List.Perm.eq_nil hp];rw [dJ] at c;cases c;exact⟨none,dJ ..,rfl⟩
 | cons e es=>
  obtain⟨C,o⟩:=i e (by simp);have:∃b,mo kk k (.str C)=some b:=by rw [dK,o] at c;obtain⟨b,n,_⟩:=A8 c;exact⟨b,n⟩
  obtain⟨b,n⟩:=this;obtain⟨rfl,u,rfl⟩:=QC A n;have f:∀x∈a,∃s,x.1=.str s:=λx d=>i x (hp.mem_iff.1 d);have m:(a.map (·.1)).Nodup:=(hp.map _).nodup_iff.2 w;have c:findKey eqStr (.str u) (e::es) 0=some r:=c;by_cases hin:∃v,(d9.str u,v)∈e::es;obtain⟨v,y⟩:=hin;obtain⟨j,p,_⟩:=pI (e::es) 0 i w y;obtain⟨D,q,_⟩:=pI a 0 f m (hp.mem_iff.2 y);rw [p] at c;cases c;exact⟨_,q,rfl⟩;have g:∀(l:List (d9×d9)),(∀x∈l,x∈e::es)->∀x∈l,x.1≠.str u:=λl B x d h=>hin ⟨x.2,by rw [← h];exact B x d⟩;have p:=xL (e::es) 0 i (g _ λx d=>d);have q:=xL a 0 f (g _ λx d=>hp.mem_iff.1 d);rw [p] at c;cases c;exact⟨none,q,rfl⟩
theorem RU {ok:Bool}{z:d9}{r a:Option (Nat×d9)}(h:a.map (·.2)=r.map (·.2)):found ok z a=found ok z r:=by
 cases r<;>cases a<;>simp at h
 rfl;rename_i p q;show some (bi ok (d9.tuple [q.2,.bool true]) q.2)=some (bi ok (d9.tuple [p.2,.bool true]) p.2);rw [h]
theorem Gy (w:World){t l e:TypeId}{kk:Ad}{z:d9}(M:P.underlying t=some (.map l e))(f:sZ P l=some kk)(N:zeroV P e=some z){ok:Bool}{k v:d9}
  {es:List (d9×d9)} {r:Option (Nat×d9)} {n:Nm} (d:∀e∈es,e.1.lt n∧e.2.lt n) (q:R8 (mo kk) (Ap kk) k es=some r) (s:found ok z r=some v)
  {L:List MapEntry} {A b:Nat} (H:UOk ι es L) (hb:(getObj b).run P w=.ok (.map L.toArray A) w):
  v.lt n∧(Instr.lookup t (.map (some b)) (l9 ι k) ok).run P w=.ok (l9 ι v) w:=by
 obtain⟨D,⟨y,m,E⟩,S⟩:=jU q;obtain⟨g,K,J⟩:=H;obtain⟨c,u,O⟩:=BS _ g;obtain⟨R,x,Q⟩:=aaZ f u K J q;obtain⟨h,i⟩:=nI (w:=w) N ι;rw [← RU Q] at s;obtain⟨C,o⟩:=BR (ι:=ι) s (i n) (λp g=>by
  subst g;obtain⟨j,B,_,F,G,_⟩:=kX x;rw [← G];exact (d B (u.mem_iff.1 (Y6 F))).2)
 refine⟨C,?_⟩;have I:=λm=>Db (ι:=ι) f D E m w;have a:=lJ (ι:=ι) f x w;rw [Eh l (l9 ι k) (show (J6 ι c 0).map tq=L.map tq from by rw [xK];exact O.symm)] at a;simp only [Instr.lookup,X8,run_underlying M,K9,hb,aaS,I];rw [a];simp only [K9];cases R with
 | none=>simp [mO,h,o,uJ]
 | some p=>simp [mO,o,uJ]
theorem CQ (ts:Array TypeId)(a:TypeId)(l c:Nat)(w:World):(Builtin.unsafeSliceData_ ts a #[.slice none l c]).run P w=.ok (.pointer none) w:=rfl
theorem Ei {ts:Array TypeId}{b:TypeId}{a:Addr}{l c:Nat}(h:c≠0)(w:World):(Builtin.unsafeSliceData_ ts b #[.slice (some a) l c]).run P w=.ok (.pointer (some a)) w:=by have e:Builtin.unsafeSliceData_ ts b #[.slice (some a) l c]=(if c≠0 then pure (.pointer (some a)) else do if (← viewAt a.block).isSome then pure (.pointer (some a)) else pure (.pointer (some ⟨← newObj (.view a (← elemOf b)),0,none⟩))):=rfl;rw [e,if_pos h];rfl
theorem yY:∀(l:List d9) (s:List UInt8),byteOf l=some s->∀(acc:ByteArray) (w:World),
  (forIn (p8 ι l) acc (λc (r:ByteArray)=>match c with
   | .int .u8 n=>pure (ForInStep.yield (r.push (UInt8.ofNat n.toNat)))
   | _=>do stuck "bytesToString: byte expected";pure (ForInStep.yield r)):Sem ByteArray).run P w=.ok ⟨acc.data++s.toArray⟩ w
 | [],s,h,acc,w=>by simp [byteOf] at h;subst h;simp [p8]
 | v::l,s,h,acc,w=>by
  cases v<;>try (simp [byteOf] at h;done)
  rename_i k n;cases k<;>try (simp [byteOf] at h;done)
  cases n with
  | negSucc n=>simp [byteOf] at h
  | ofNat n=>
   simp only [byteOf] at h;cases hb:byteOf l with
   | none=>simp [hb] at h
   | some s'=>simp only [hb,J4] at h;subst h;simp only [p8,l9,ahe,X8,aaS,K9];rw [yY l s' hb];congr 1;simp [ByteArray.push]
theorem mU {x:Value}{m:Mem}(f:RM P G ι m w.heap){id off len c:Nat}(g:x=.slice (some (ι.at id off)) len c){l:List d9}{s:List UInt8}
  (d:R9 m id off len=some l) (e:byteOf l=some s):(Conv.bytesToString x).run P w=.ok (l9 ι (.str s)) w:=by
 obtain⟨a,_,b⟩:=jT f d;have h:=qb (P:=P) b;rw [a] at h;subst g;have:=yY (P:=P) (ι:=ι) l s e ByteArray.empty w;simp only [Conv.bytesToString,X8,h,K9];rw [← ahj]
 erw [this]
 simp [l9,aaS]
theorem yZ (ι:K4):∀(es:List (d9×d9)) (i j:Nat),(J6 ι es j).find? (λe=>e.born==j+i)=(es[i]?).map λe=>{key:=l9 ι e.1,val:=l9 ι e.2,born:=j+i}
 | [],i,j=>by simp [J6]
 | e::es,0,j=>by simp [J6]
 | e::es,i+1,j=>by simp only [J6,List.find?_cons];rw [show (j==j+(i+1))=false from by simp];simp only [abF];have:=yZ ι es i (j+1);rw [show j+1+i=j+(i+1) from by omega] at this;exact this
theorem Ej {β:Type}{b:Option Q6}{a:Option β}{k:Nat->Nat->List Nat->Option β}{r:β}(h:GX b a k=some r):
  (∃s l,b=some (.iter none s l)∧a=some r)∨∃mp s l,b=some (.iter (some mp) s l)∧k mp s l=some r:=by
 match b,h with
 | some (.iter none s l),h=>exact .inl ⟨s,l,rfl,h⟩
 | some (.iter (some mp) s l),h=>exact .inr ⟨mp,s,l,rfl,h⟩
theorem El {ty off:Nat}:∀{l:List (Nat×Nat)},UA ty off l=true->(ty,off)∈l
 | [],h=>by cases h
 | p::l,h=>by
  have h:bi (Nat.beq p.1 ty) (bi (Nat.beq p.2 off) true (UA ty off l)) (UA ty off l)=true:=h;cases h1:Nat.beq p.1 ty with
  | false=>rw [h1] at h;exact Z8 _ (El h)
  | true=>
   rw [h1] at h;cases h2:Nat.beq p.2 off with
   | false=>rw [h2] at h;exact Z8 _ (El h)
   | true=>rw [← q8 h1,← q8 h2];exact ac2
theorem Pb {u c off:Nat}(h:(c,off)∈LJ P u):P.cellsOf c≠0∧liesAt P P.depth c 1 off u 1=true:=by unfold LJ at h;obtain⟨t,_,h⟩:=List.mem_flatMap.1 h;split at h;rename_i a;simp only [U9,bne_iff_ne,ne_eq] at a;rcases aa3.1 h with h | h;split at h;rename_i b;simp only [aP,ag0] at h;obtain⟨rfl,rfl⟩:=h;exact⟨a.2,b⟩;simp at h;split at h;obtain⟨f,_,h⟩:=List.mem_flatMap.1 h;split at h;rename_i b;simp only [aP,ag0] at h;obtain⟨rfl,rfl⟩:=h;exact⟨a.2,b.2⟩;simp at h;simp at h;simp at h
theorem rJ (s:St P ι (m.nm ι) slots done ls env a.tmps)(H:RM P G ι m w.heap){op:Op}{ro:OG}(h:qc P slots done op ro){v:d9}(C:qZ ro ls env m=some v):
  v.lt (m.nm ι)∧QB P a.eval op (l9 ι v) w:=by
 cases h with
 | @load t x sz x' f p=>
  obtain⟨q,_⟩:=w9 s p;have key:∀id off,H8 x' ls env=.ptr id off->P8 (m.get id) (λrs n D=>match sz with | none=>cell1 rs n D off | some k=>ob (jO rs n D off k) λl=>some (.agg l))=some v->
    v.lt (m.nm ι)∧QB P a.eval (.load t x) (l9 ι v) w:=by
   intro id off d E;obtain⟨K,M⟩:=wN f H E;refine⟨M,λo g=>?_⟩;simp [execOp,g,q,d,l9,Instr.loadAt,Instr.sureAddr,K]
  cases sz with
  | none=>obtain⟨id,off,d,E⟩:=dW C;exact key id off d E
  | some k=>obtain⟨id,off,d,E⟩:=dW C;exact key id off d E
 | @look t kt e kk z ok x k x' k' hu hk hz d hkk=>
  obtain⟨q,a8⟩:=w9 s d;obtain⟨I,_⟩:=w9 s hkk;rcases vL C with⟨d,h⟩ | ⟨id,d,h⟩;obtain⟨r,B,F⟩:=A8 h;obtain⟨K,M⟩:=yX (ι:=ι) w hu hk hz (n:=(m.nm ι)) (by simp) B F;refine⟨K,λo g=>?_⟩;have:=M (.map none) (.inl ⟨rfl,rfl⟩);have d:H8 x' ls env=.nilMap:=d;simp [execOp,g,q,d,l9,I,this]
  ·obtain⟨es,f | f,p⟩:=Dc h
   case inr=>obtain⟨r,B,F⟩:=A8 p;obtain⟨L,ck,Y,Z,c3⟩:=H.blk id _ f;obtain⟨K,M⟩:=Gy (ι:=ι) w hu hk hz c3 B F Z (fC Y (by intro _ _ _ e;cases e));refine⟨K,λo g=>?_⟩;have d:H8 x' ls env=.map id:=d;simp [execOp,g,q,d,l9,I,M]
   obtain⟨r,B,F⟩:=A8 p;obtain⟨o1,o2⟩:=JN H f;obtain⟨K,M⟩:=yX (ι:=ι) w hu hk hz o2 B F;refine⟨K,λo g=>?_⟩;have:=M (.map (some (ι id).b)) (.inr ⟨_,rfl,λw' hw=>by subst hw;exact o1⟩);have d:H8 x' ls env=.map id:=d;simp [execOp,g,q,d,l9,I,this]
 | @lenM c t kt e x x' E A y hu d=>
  obtain⟨q,_⟩:=w9 s d;have A:c.argTypes=#[t]:=by rw [← A,aa6]
  have y:c.args=#[x]:=by rw [← y,aa6]
  rcases vL C with⟨d,h⟩ | ⟨id,d,h⟩;cases h;have d:H8 x' ls env=.nilMap:=d;exact⟨by simp [d9.lt],λo g=>by simp [execOp,g,resolve,E,y,A,invoke,builtin,Builtin.len_,run_underlying hu,q,d,l9,goInt]⟩;obtain⟨es,f,p⟩:=AA h;obtain⟨o1,o2⟩:=JN H f;cases p;have d:H8 x' ls env=.map id:=d;exact⟨by simp [d9.lt],λo g=>by simp [execOp,g,resolve,E,y,A,invoke,builtin,Builtin.len_,run_underlying hu,q,d,l9,goInt,o1]⟩
 | @bytesStr t b e x x' f p B d=>obtain⟨q,_⟩:=w9 s d;rcases rA C with⟨d,h⟩ | ⟨id,off,len,cap,d,h⟩ | ⟨id,off,len,cap,d,h⟩;cases h;have d:H8 x' ls env=.nilSlice:=d;refine⟨by simp [d9.lt],λo g=>?_⟩;simp [execOp,g,q,d,l9,convert,run_underlying f,run_underlying p,run_underlying B,Conv.bytesToString];rfl;obtain⟨l,F,h⟩:=A8 h;obtain⟨a7,h5,h⟩:=A8 h;cases h;have d:H8 x' ls env=.slice id off len cap:=d;have:=mU H (x:=a.eval x) (by rw [q,d];rfl) F h5;refine⟨by simp [d9.lt],λo g=>?_⟩;rw [q,d] at this;simp only [l9] at this;simp [execOp,g,q,d,l9,convert,run_underlying f,run_underlying p,run_underlying B,this];obtain⟨l,F,h⟩:=A8 h;obtain⟨a7,h5,h⟩:=A8 h;cases h;have d:H8 x' ls env=.sliceU id off len cap:=d;have:=mU H (x:=a.eval x) (by rw [q,d];rfl) F h5;refine⟨by simp [d9.lt],λo g=>?_⟩;rw [q,d] at this;simp only [l9] at this;simp [execOp,g,q,d,l9,convert,run_underlying f,run_underlying p,run_underlying B,this]
 | @slData c t e x x' E A y hu d=>
  obtain⟨q,I⟩:=w9 s d;have A:c.argTypes=#[t]:=by rw [← A,aa6]
  have y:c.args=#[x]:=by rw [← y,aa6]
  rcases rA C with⟨f,p⟩ | ⟨id,off,len,cap,f,p⟩ | ⟨id,off,len,es,f,p⟩;have f:H8 x' ls env=.nilSlice:=f;cases p;exact⟨trivial,λo g=>by simp [execOp,g,resolve,E,y,A,invoke,builtin,CQ,q,f,l9]⟩;have f:H8 x' ls env=.slice id off len cap:=f;obtain⟨B,p⟩:=D9 p;cases p;have B:0<cap:=Eq.mp Y5 B;rw [f] at I;exact⟨I,λo g=>by simp [execOp,g,resolve,E,y,A,invoke,builtin,Ei (Nat.ne_of_gt B),q,f,l9]⟩;have f:H8 x' ls env=.sliceU id off len es:=f;obtain⟨B,p⟩:=D9 p;cases p;have B:0<len:=Eq.mp Y5 B;rw [f] at I;obtain⟨W,q2,X⟩:=I;have X:off+len*es<=(ι id).cap:=X;have a1:((ι id).cap-off) / es≠0:=by
   have:1<=((ι id).cap-off) / es:=(adq q2).2 (by
    have:1*es<=len*es:=aa1 _ B;omega)
   omega
  refine⟨W,λo g=>?_⟩;simp [execOp,g,resolve,E,y,A,invoke,builtin,Ei a1,q,f,l9]
 | @toUns a' b' t x x' k ha hb hs hk d=>
  obtain⟨q,I⟩:=w9 s d
  change qY (H8 x') ls env m=some v at C
  unfold qY at C;split at C;rename_i f;cases C;exact⟨trivial,λo g=>by simp [execOp,g,q,f,l9,convert,run_underlying ha,run_underlying hb,Conv.unsafePointer]⟩;rename_i id off f;obtain⟨rs,n,D,S,h⟩:=dB C;obtain⟨p,h⟩:=D9 h;cases h;have p:off<n*rs:=Eq.mp Y5 p;obtain⟨c,e,fz,W,q2,⟨X,_⟩,_⟩:=H.blk id _ S;obtain⟨j,hj,T⟩:=abD.1 hs;refine⟨⟨_,S,rfl⟩,λo g=>?_⟩;have:=Lib.run_to_unsafe (P:=P) w (ι.at id off) ha hb hj (by rw [T];exact hk) (e:=e) (cells:=c.size) (by simp [World.shape?,K4.at,W]) (by show (ι id).base+off<c.size;omega);simp [execOp,g,q,f,l9,this];cases C
 | @fromUns a' b' u x x' k ha hb hs hk d=>
  obtain⟨q,I⟩:=w9 s d
  change jP (LJ P u) (H8 x') ls env m=some v at C
  unfold jP at C;split at C;rename_i f;cases C;exact⟨trivial,λo g=>by simp [execOp,g,q,f,l9,convert,run_underlying ha,run_underlying hb,Conv.unsafePointer]⟩;rename_i id off f;obtain⟨rs,n,D,S,h⟩:=dB C;obtain⟨p,h⟩:=D9 h;obtain⟨ty,B,h⟩:=A8 h;obtain⟨F,h⟩:=D9 h;cases h;obtain rfl:n=1:=q8 p;obtain⟨c,e,fz,W,q2,⟨X,N,_,_,V⟩,_⟩:=H.blk id _ S;obtain⟨rfl,a0,a6⟩:=V ty rfl B;obtain⟨U,R⟩:=Pb (El F);obtain⟨j,hj,T⟩:=abD.1 hs;refine⟨⟨_,S,rfl⟩,λo g=>?_⟩;have:=Lib.run_from_unsafe (P:=P) w (ι.at id off) ha hb hj (e:=e) (cells:=c.size) (by simp [World.shape?,K4.at,W]) (by
   rw [a6,Nat.div_self (afN U)];show liesAt P P.depth e 1 ((ι id).base+off) u 1=true;rw [a0,aa2];exact R)
  simp [execOp,g,q,f,l9,this];cases C
 | @entry x x' d=>
  obtain⟨q,_⟩:=w9 s d;obtain⟨id,off,d,h⟩:=dW C;have d:H8 x' ls env=.ptr id off:=d;obtain⟨h0,h⟩:=D9 h;obtain rfl:off=0:=q8 h0;rcases Ej h with⟨_,_,_,h⟩ | ⟨mp,since,seen,J,h⟩;cases h;cases seen with
  | nil=>cases h
  | cons i seen=>
   have h:Ov (m.get mp) (λes=>bi (Nat.beq (len' es) since) (ob (oN i es) λe=>some (.tuple [e.1,e.2])) none)=some v:=h;obtain⟨es,a2,h⟩:=AA h;obtain⟨f,h⟩:=D9 h;have f:=q8 f;rw [I9] at f;obtain⟨e,p,h⟩:=A8 h;rw [jf] at p;cases h;obtain⟨b1,b2,sn,st,b3,b4,b5⟩:=H.blk id _ J;have a4:=H.spot id _ J rfl;obtain⟨Y,Z⟩:=JN H a2;have he:=Z e (Y6 p);refine⟨by simp [d9.lt,bg,he],λo g=>?_⟩;have a5:st=since:=b5 (by simp);have O:sn.back?=some i:=by have:=congrArg List.head? b4;simpa [List.head?_reverse] using this
   have Q:(J6 ι es 0).toArray.find? (λe=>e.born==i)=some {key:=l9 ι e.1,val:=l9 ι e.2,born:=i}:=by have:=yZ ι es i 0;rw [p] at this;simpa using this
   have J:=fC (P:=P) b3 (by intro _ _ _ e;cases e);have a3:a.eval x=.pointer (some ⟨(ι id).b,0,none⟩):=by rw [q,d];simp [l9,K4.at,b1,a4]
   simp [execOp,g,a3,Instr.entry,J,O,Y,a5,f,Q,l9,p8]
end
section
variable {P:Program}{G:Mem}{ι:K4}{n:Nm}{slots:List Nat}{done:List (Option Nat)}{ls:List d9}{env:T d9}{a:Act}
theorem Mf (rs:Nat)(l:List d9)(r:List (List d9))(h:rowsOf rs 0 l=some r):l=[]∧r=[]:=by
 cases l with
 | nil=>cases h;exact⟨rfl,rfl⟩
 | cons=>cases h
theorem Mh (rs k:Nat)(l:List d9):rowsOf rs (k+1) l=ob (takeN rs l) λr=>ob (rowsOf rs k (lN rs l)) λrest=>some (r::rest):=rfl
theorem gX (rs:Nat):∀(k:Nat) (l:List d9) (r:List (List d9)),rowsOf rs k l=some r->
  l.length=k*rs∧r.length=k∧∀i,i<k->∃row,r[i]?=some row∧row.length=rs∧∀j,j<rs->row[j]?=l[i*rs+j]?:=by
 intro k;induction k with
 | zero=>intro l r h;obtain⟨rfl,rfl⟩:=Mf rs l r h;simp
 | succ k ih=>
  intro l r h;rw [Mh] at h;obtain⟨x,n,h⟩:=A8 h;obtain⟨y,b,h⟩:=A8 h;cases h;obtain⟨rfl,p⟩:=kT _ _ _ n;rw [lT] at b;obtain⟨f,g,m⟩:=ih _ _ b;rw [List.length_drop] at f;refine⟨by rw [ac1];omega,by simp [g],λi o=>?_⟩;cases i with
  | zero=>exact⟨_,rfl,by simp;omega,λj a=>by simp [a]⟩
  | succ i=>obtain⟨row,c,d,e⟩:=m i (by omega);refine⟨row,by simpa using c,d,λj a=>?_⟩;rw [e j a,ae6];congr 1;rw [ac1];omega
theorem Mj {h:Array Obj}{l:Loc}{es k:Nat}{cells:List d9}{d:List (List d9)}(B:rowsOf es k cells=some d){c:Array Value}{e:TypeId}{p:Nat×Nat}
  (A:h[l.b]?=some (Obj.cells c e p)) (h0:l.base=0) (D:l.cap=c.size) (m:bg n cells) (f:∀(j:Nat) (v:d9),cells[j]?=some v->c[j]?=some (l9 ι v)) (u:cells.length<=c.size):
  dI P ι n h l (.cells es k (T.ofList d)):=by
 obtain⟨x,y,z⟩:=gX _ _ _ _ B;refine⟨c,e,p,A,by omega,⟨by omega,d.length,by omega,T.eF d,by rw [← y];exact uz (T.eF d)⟩,λi t=>?_⟩;obtain⟨o,w,q,r⟩:=z i t;refine⟨o,by rw [T.bA];exact w,q,bX.2 λv C=>?_,λj a=>?_⟩;obtain⟨j,a⟩:=aa7 C;have g:j<es:=ae7 (J3.1 a).1 q;rw [r j g] at a;exact O8 m (Y6 a);rw [r j a,h0,aa2];have s:i*es+j<cells.length:=by
  rw [x]
  calc i*es+j<i*es+es:=by omega
   _=(i+1)*es:=by rw [ac1]
   _<=k*es:=aa1 _ t
 rw [Hl s];exact f _ _ (Hl s)
theorem Vf {h:Array Obj}{l:Loc}{cs:List d9}{e:TypeId}{c:Nat×Nat}
  (d:h[l.b]?=some (.cells (p8 ι cs).toArray e c)) (h0:l.base=0) (f:l.cap=cs.length) (a:bg n cs):dI P ι n h l (o8 cs):=by
 refine⟨_,e,c,d,by simp;omega,⟨by simp;omega,1,J2 1,.nd .e .e,uz (.nd .e .e)⟩,λi g=>?_⟩;obtain rfl:i=0:=by omega
 refine⟨cs,rfl,(I9 cs).symm,a,λj k=>?_⟩;rw [h0];simp [aQ]
theorem RV {h:Array Obj}{l:Loc}{cs:List d9}{e:TypeId}{f:Nat×Nat}
  (g:h[l.b]?=some (.cells (p8 ι cs).toArray e f)) (h0:l.base=0) (k:l.cap=cs.length) (a:bg n cs) (c:cs.length=P.cellsOf e):dI P ι n h l (eB e cs):=by
 refine⟨_,e,f,g,by simp;omega,⟨by simp;omega,2,by omega,.nd (.nd .e .e) .e,λty _ d=>?_⟩,λi m=>?_⟩;have d:some e=some ty:=d;cases d;exact⟨rfl,h0,by simpa using c⟩;obtain rfl:i=0:=by omega
 refine⟨cs,rfl,(I9 cs).symm,a,λj o=>?_⟩;rw [h0];simp [aQ]
theorem AB {a:Nat}{l:Loc}{cs:List d9}(c:¬ n a)(h:bg n cs):p8 (ι.upd a l) cs=p8 ι cs:=
 eT (n:=n) (λi b=>ι.upd_ne l (λe=>c (by subst e;exact b))) cs h
theorem Mq {a:Nat}{l:Loc}{v:d9}(c:¬ n a)(h:v.lt n):l9 (ι.upd a l) v=l9 ι v:=
 R6 (n:=n) (λi b=>ι.upd_ne l (λe=>c (by subst e;exact b))) v h
structure Makes (P:Program)(ι:K4)(n:Nm)(ρ:Operand->Value)(op:Op)(nid:Nat)(v:d9)(b:Q6)(w:World)(l:Loc)(obj:Obj)(w':World):Prop where
 loc:l.b=w.heap.size
 spot:l.spot=none
 run:∀o:Oper,o.op=op->(execOp ρ o).run P w=.ok (.value (l9 (ι.upd nid l) v)) w'
 grew:UZ w w' obj
 live:bZ b=false
 free:∀c e fz,obj=.cells c e fz->∀k,k<c.size->¬ (fz.1<=k∧k<fz.2)
 blk:∀n':Nm,n.le n'->n' nid->n'.cap nid=l.cap->dI P (ι.upd nid l) n' (w.heap.push obj) l b∧v.lt n'
inductive ou (P:Program)(ι:K4)(n:Nm)(ρ:Operand->Value)(op:Op)(nid:Nat)(w:World):d9×Option Q6->Prop
 | none {v}:v.lt n->Gives P ρ op (l9 ι v)->ou P ι n ρ op nid w (v,none)
 | made {v b} (l:Loc) (obj:Obj) (w':World):Makes P ι n ρ op nid v b w l obj w'->ou P ι n ρ op nid w (v,some b)
 | tail {v p} (l:Loc):n p->(l.cap=0∨(l.b=(ι p).b∧l.base+l.cap<=(ι p).base+(ι p).cap∧((ι p).spot=none->l.spot=none)))->Gives P ρ op (l9 (ι.upd nid l) v)->(∀n':Nm,n.le n'->n' nid->n'.cap nid=l.cap->v.lt n')->
   ou P ι n ρ op nid w (v,some (.tail p))
theorem dD {w:World}{o:Obj}:(w.heap.push o)[w.heap.size]?=some o:=by simp
theorem Ht {i:Op}{b:Nat}{w:World}{cs:List d9}(m:¬ n b)(d:bg n cs){e:TypeId}
  (f:∀o:Oper,o.op=i->(execOp a.eval o).run P w=.ok (.value (.pointer (some ⟨w.heap.size,0,none⟩))) {w with heap:=w.heap.push (.cells (p8 ι cs).toArray e)}):
  ou P ι n a.eval i b w (.ptr b 0,some (o8 cs)):=by
 refine .made ⟨w.heap.size,0,cs.length,none⟩ (.cells (p8 ι cs).toArray e) {w with heap:=w.heap.push (.cells (p8 ι cs).toArray e)} ⟨rfl,rfl,λo p=>?_,⟨rfl,rfl,rfl,rfl⟩,rfl,λc q r h k s=>?_,λt j g _=>⟨?_,g⟩⟩;rw [f o p];simp [l9,K4.at];cases h;simp;rw [← AB (l:=⟨w.heap.size,0,cs.length,none⟩) m d];exact Vf dD rfl rfl (dH j _ d)
theorem Em {j:Op}{b:Nat}{w:World}{cs:List d9}(p:¬ n b)(d:bg n cs){e:TypeId}(i:cs.length=P.cellsOf e)
  (f:∀o:Oper,o.op=j->(execOp a.eval o).run P w=.ok (.value (.pointer (some ⟨w.heap.size,0,none⟩))) {w with heap:=w.heap.push (.cells (p8 ι cs).toArray e)}):
  ou P ι n a.eval j b w (.ptr b 0,some (eB e cs)):=by
 refine .made ⟨w.heap.size,0,cs.length,none⟩ (.cells (p8 ι cs).toArray e) {w with heap:=w.heap.push (.cells (p8 ι cs).toArray e)} ⟨rfl,rfl,λo q=>?_,⟨rfl,rfl,rfl,rfl⟩,rfl,λc r s h k t=>?_,λu m g _=>⟨?_,g⟩⟩;rw [f o q];simp [l9,K4.at];cases h;simp;rw [← AB (l:=⟨w.heap.size,0,cs.length,none⟩) p d];exact RV dD rfl rfl (dH m _ d) i
theorem dR (e:TypeId)(cs:Array Value)(w:World):(newRow e cs).run P w=.ok ⟨w.heap.size,0,none⟩ {w with heap:=w.heap.push (.cells cs e)}:=by simp [newRow,newObj,Sem.run]
theorem rM (z:List d9)(k:Nat):U1 z (k+1)=z++U1 z k:=by show U2 z (U1 z k)=_;rw [O4]
theorem za (z:List d9):U1 z 0=[]:=rfl
theorem eH (z:List d9):∀k,(U1 z k).length=k*z.length
 | 0=>by simp [za]
 | k+1=>by rw [rM,Z5,eH z k,ac1];omega
theorem rO {z:List d9}(h:bg n z):∀k,bg n (U1 z k)
 | 0=>trivial
 | k+1=>by rw [rM,bX];intro v hv;rcases aa3.1 hv with hv | hv;exact O8 h hv;exact O8 (rO h k) hv
theorem uK (z:List d9):∀(k i:Nat),i<k*z.length->(U1 z k)[i]?=z[i%z.length]?
 | 0,i,h=>by simp at h
 | k+1,i,h=>by rw [rM];by_cases hi:i<z.length;rw [aaT hi,ae2 hi];have hi:z.length<=i:=adp hi;rw [abr hi,uK z k _ (by rw [ac1] at h;omega),← Nat.mod_eq_sub_mod hi]
theorem En (z:List d9)(k:Nat):(Array.range (k*z.length)).map (λi=>(p8 ι z).toArray[i%(p8 ι z).toArray.size]!)=(p8 ι (U1 z k)).toArray:=by
 apply Array.ext;simp [eH];intro i d f;have a:i<k*z.length:=by simpa using d
 have j:0<z.length:=afN λe=>by rw [e] at a;simp at a
 have c:i%z.length<z.length:=ahf _ j;have g:=uK z k i a;rw [Array.getElem_map,Array.getElem_range];have h:(p8 ι (U1 z k))[i]?=some (p8 ι z)[i%z.length]!:=by rw [aQ,g,Hl c];simp [bC,c]
 have b:(p8 ι (U1 z k)).toArray[i]?=some ((p8 ι z).toArray[i%(p8 ι z).toArray.size]!):=by simpa using h
 rw [aa4 f] at b;exact (Y8 b).symm
theorem Vg {i:Op}{b:Nat}{w:World}{cells:List d9}(r:¬ n b)(d:bg n cells){e:TypeId}{es k len:Nat}{m:List (List d9)}(t:rowsOf es k cells=some m)
  (f:∀o:Oper,o.op=i->(execOp a.eval o).run P w=.ok (.value (.slice (some ⟨w.heap.size,0,none⟩) len k)) {w with heap:=w.heap.push (.cells (p8 ι cells).toArray e)}):
  ou P ι n a.eval i b w (.slice b 0 len k,some (.cells es k (T.ofList m))):=by
 refine .made ⟨w.heap.size,0,cells.length,none⟩ (.cells (p8 ι cells).toArray e) {w with heap:=w.heap.push (.cells (p8 ι cells).toArray e)} ⟨rfl,rfl,λo s=>?_,⟨rfl,rfl,rfl,rfl⟩,rfl,λc u x h k y=>?_,λz q g _=>⟨?_,g⟩⟩;rw [f o s];simp [l9,K4.at];cases h;simp;rw [← AB (l:=⟨w.heap.size,0,cells.length,none⟩) r d];exact Mj t dD rfl (by simp) (dH q _ d) (λj v p=>by simp [aQ,p]) (by simp)
theorem nJ {t:TypeId}{z:List d9}(h:CJ P t=some z):qA P t=some z∧aS P t=some z.length:=by simp only [CJ] at h;split at h;split at h;cases h;rename_i a b c;exact⟨b,by rw [a,c]⟩;cases h;cases h
theorem xM {t:TypeId}{k:Nat}(h:aS P t=some k):P.cellsOf t=k:=by unfold aS at h;unfold Program.cellsOf;rw [h];rfl
theorem run_askRoom (k:Nat)(w:World):(askRoom k).run P w=.ok () w:=by unfold askRoom;split<;>simp [mark,Sem.run]
theorem ze (e:TypeId)(c:Array Value)(hp:Array Obj)(w:World):
  (markStringish ⟨hp.size,0,none⟩).run P {w with heap:=hp.push (.cells c e)}=.ok () {w with heap:=hp.push (.cells c e (c.size,c.size+1))}:=by
 simp only [markStringish,X8,run_shape,World.shape?,K9];have d:∀(f:Obj->Obj),(hp.push (.cells c e)).modify hp.size f=hp.push (f (.cells c e)):=by
  intro f;apply Array.ext;simp;intro i a b;rw [Array.getElem_modify];simp only [Array.size_push,Array.size_modify] at a b;by_cases h:hp.size=i;subst h;simp;have:i<hp.size:=by omega
  simp [h,Array.getElem_push_lt this]
 simp [World.freeze,d]
theorem rP (s:St P ι n slots done ls env a.tmps)(E:∀i,n i->n.cap i=(ι i).cap){D:Nat}(hn:¬ n D){op:Op}{lo:RA}(h:mH P slots done op lo){r:d9×Option Q6}(y:wH lo ls env D=some r)(w:World):
  ou P ι n a.eval op D w r:=by
 cases h with
 | @alloc t z W=>cases y;obtain⟨v,K,R,h3⟩:=dz (w:=w) W ι;exact Ht (e:=t) hn (h3 n) λo A=>by simp [execOp,A,Instr.alloc,K,newVar,dR,R]
 | @box t x x' hx=>cases y;obtain⟨U,e2⟩:=w9 s hx;exact Ht (e:=t) hn (uq e2) λo A=>by simp [execOp,A,Instr.box,U,newVar,dR,kU]
 | @allocT t z W=>cases y;obtain⟨W,O⟩:=nJ W;obtain⟨v,K,R,h3⟩:=dz (w:=w) W ι;exact Em (e:=t) hn (h3 n) (xM O).symm λo A=>by simp [execOp,A,Instr.alloc,K,newVar,dR,R]
 | @boxT t k x x' hk hx=>
  obtain⟨K,y⟩:=D9 y;cases y;obtain⟨U,e2⟩:=w9 s hx;have K:(H8 x' ls env).cells.length=k:=by rw [← I9];exact q8 K
  exact Em (e:=t) hn (uq e2) (by rw [xM hk];exact K) λo A=>by simp [execOp,A,Instr.box,U,newVar,dR,kU]
 | @mkMap t=>cases y;refine .made ⟨w.heap.size,0,0,none⟩ (.map #[] 0) {w with heap:=w.heap.push (.map #[] 0)} ⟨rfl,rfl,λo A=>?_,⟨rfl,rfl,rfl,rfl⟩,rfl,(λc e' fz h=>by cases h),λn' hm C _=>⟨⟨?_,by simp⟩,C⟩⟩;simp [execOp,A,Instr.makeMap,l9,newObj,Sem.run];simp [J6]
 | @mkMapN t k m kt e hu=>cases y;refine .made ⟨w.heap.size,0,0,none⟩ (.map #[] 0) {w with heap:=w.heap.push (.map #[] 0)} ⟨rfl,rfl,λo A=>?_,⟨rfl,rfl,rfl,rfl⟩,rfl,(λc e' fz h=>by cases h),λn' hm C _=>⟨⟨?_,by simp⟩,C⟩⟩;simp [execOp,A,Instr.makeMap,l9,newObj,Sem.run,run_underlying hu,Act.eval,asInt,asIntOf];simp [J6]
 | @buildSlice t len parts e es ps z hu hes hps a3 W=>
  obtain⟨cells,K,y⟩:=A8 y;obtain⟨rl,R,y⟩:=A8 y;cases y;obtain⟨v,a4,a5,Y⟩:=dz (P:=P) (w:=w) W ι;obtain⟨g,Q,g3⟩:=Az s _ parts.toList ps hps _ cells (rO (Y n) len) K;obtain⟨r1,_,_⟩:=gX _ _ _ _ R;rw [eH] at g3;have a1:(parts.map λp=>(p.1,a.eval p.2)).toList=parts.toList.map λp=>(p.1,a.eval p.2):=by simp
  refine Vg (e:=e) hn Q R λo A=>?_
  have af:¬ len*es>2^24:=by have:(2:Nat)^24=16777216:=rfl
                            omega
  simp only [execOp,A,Instr.buildSlice,X8,run_underlying hu,K9,run_sizeOf hes,if_neg af,aaS];have a0:∀Z:Array Value,(len*es=0∨Z=(p8 ι z).toArray)->(Array.range (len*es)).map (λi=>Z[i%Z.size]!)=(p8 ι (U1 z len)).toArray:=by
   intro Z hZ;by_cases N:len*es=0;have:U1 z len=[]:=adE (by rw [eH];omega);rw [this,N];simp [p8];rcases hZ with h | rfl;exact absurd h N;have hm:len*z.length=len*es:=by omega
   have hp:0<len:=afN λe=>N (by rw [e,adk]);have ai:z.length=es:=Nat.eq_of_mul_eq_mul_left hp hm;rw [← ai];exact En z len
  by_cases N:len*es=0;rw [if_pos N];simp only [X8,aaS,K9,a1,a0 #[] (.inl N),g];simp [dR];rw [if_neg N];simp only [X8,a4,aaS,K9,a1,a5,a0 _ (.inr rfl),g];simp [dR]
 | @mkSlice t l c e es by' z l' c' hu hes hby W hl J=>
  obtain⟨ah,a8⟩:=nJ W;rw [hes] at a8;cases a8;obtain⟨i,len,K,y⟩:=fB y;obtain⟨j,cap,R,y⟩:=fB y;obtain⟨g,y⟩:=D9 y;obtain⟨Q,y⟩:=D9 y;obtain⟨g3,y⟩:=D9 y;cases y;have g:len<=cap:=Y2 g;have Q:by'*cap<=281474976710656:=Y2 Q;have g3:cap<9223372036854775808:=Eq.mp Y5 g3;have K:H8 l' ls env=.int i (len:Int):=K;have R:H8 c' ls env=.int j (cap:Int):=R;obtain⟨U,_⟩:=w9 s hl;obtain⟨e2,_⟩:=w9 s J;obtain⟨ak,ab,ac⟩:=vK (w:=w) hby;obtain⟨v,a4,a5,Y⟩:=dz (P:=P) (w:=w) ah ι;have M:=eH z cap;have B:∀o:Oper,o.op=.makeSlice t l c->(execOp a.eval o).run P w=.ok (.value (.slice (some ⟨w.heap.size,0,none⟩) len cap)) {w with heap:=w.heap.push (.cells (p8 ι (U1 z cap)).toArray e)}:=by
   intro o A;have w1:IntKind.i64.wrap (len:Int)=len:=yQ _ ⟨by omega,by omega⟩;have w2:IntKind.i64.wrap (cap:Int)=cap:=yQ _ ⟨by omega,by omega⟩;have a6:¬ ((by':Int)*(cap:Int)>2^48):=by have:((by'*cap:Nat):Int)=(by':Int)*(cap:Int):=(by simp);rw [← this];have a9:(2:Int)^48=281474976710656:=rfl;rw [a9];omega
   simp only [execOp,A,Instr.makeSlice,X8,run_underlying hu,K9,U,e2,K,R,l9,asInt,asIntOf,aaS,ab,ac,w1,w2];rw [if_neg (by simp only [ae4,decide_eq_true_eq,not_or];exact⟨⟨⟨by omega,a6⟩,by omega⟩,by omega⟩)];simp only [X8,run_askRoom,K9,run_sizeOf hes,ahp];by_cases N:cap*z.length=0;have a7:U1 z cap=[]:=adE (by rw [M];exact N);have ag:∀f:Nat->Value,(Array.range 0).map f=#[]:=by intro f;simp
   simp only [X8,aaS,K9,N,a7,if_true,ag];simp [dR,p8];have hk:=En (ι:=ι) z cap;simp only [if_neg N,X8,aaS,K9,a4,a5,hk];simp [dR]
  refine .made ⟨w.heap.size,0,(U1 z cap).length,none⟩ (.cells (p8 ι (U1 z cap)).toArray e) {w with heap:=w.heap.push (.cells (p8 ι (U1 z cap)).toArray e)} ⟨rfl,rfl,λo A=>?_,⟨rfl,rfl,rfl,rfl⟩,rfl,λc e' fz h k hk=>?_,λn' hm C _=>⟨?_,C⟩⟩;rw [B o A];simp [l9,K4.at];cases h;simp;refine⟨_,_,_,dD,by simp,⟨by simp [M],cap,J2 _,by simpa using T.OQ z cap .e 0 .e,uz (by simpa using T.OQ z cap .e 0 .e)⟩,λi hi=>⟨z,?_,rfl,Y _,λj hj=>?_⟩⟩;rw [T.QA _ _ _ _ T.Ok.e];simp [hi];have hb:i*z.length+j<cap*z.length:=by
   calc i*z.length+j<i*z.length+z.length:=by omega
    _=(i+1)*z.length:=by rw [ac1]
    _<=cap*z.length:=aa1 _ hi
  rw [aa2,adh,aQ,uK _ _ _ hb];rw [show (i*z.length+j)%z.length=j from by rw [adu,aiz,ae2 hj]];rw [Hl hj];simp [Mq (l:=⟨w.heap.size,0,(U1 z cap).length,none⟩) hn (O8 (Y n) (ac8 hj))]
 | @strBytes t u e x x' K R h3 hx=>
  obtain⟨str,h4,y⟩:=iA y;obtain⟨rl,h5,y⟩:=A8 y;cases y;have h4:H8 x' ls env=.str str:=h4;obtain⟨U,_⟩:=w9 s hx;have V:∀l:List UInt8,bytesOf l=l.map λb=>d9.int .u8 b.toNat:=by
   intro l;induction l with
   | nil=>rfl
   | cons b l ih=>simp [bytesOf,ih]
  rw [I9] at *;generalize G:str.length+w.tape w.drawn (.appendCap str.length 0 e)%(2^63-str.length)=cap;have a3:str.length<=cap:=by omega
  let cells:Array Value:=(p8 ι (bytesOf str)).toArray++Array.replicate (cap-str.length) (.int .u8 0)
  have O:cells.size=cap:=by simp [cells,V];omega
  have I:bg n (bytesOf str):=by rw [V,bX];intro v y;obtain⟨b,_,rfl⟩:=ab1.1 y;simp [d9.lt]
  have B:∀o:Oper,o.op=.convert t u x->(execOp a.eval o).run P w =
    .ok (.value (.slice (some ⟨w.heap.size,0,none⟩) str.length cap)) {w with heap:=w.heap.push (.cells cells e (cap,cap+1)),drawn:=w.drawn+1}:=by
   intro o A;simp only [execOp,A,X8,convert,run_underlying K,run_underlying R,run_underlying h3,K9,U,h4,l9,Conv.stringToBytes];rw [run_choose];simp only [Question.forced,abA,if_false,K9,Question.cut,nZ,G];have J:(⟨str.toArray⟩:ByteArray).data.map (λb=>Value.int .u8 b.toNat)++Array.replicate (cap-str.length) (.int .u8 0)=cells:=by simp only [cells,V,bC,ad4];congr 1;simp [l9,Function.comp_def]
   have J:str.toArray.map (λb=>Value.int .u8 b.toNat)++Array.replicate (cap-str.length) (.int .u8 0)=cells:=J;rw [J,dR];simp only [K9];rw [ze e cells w.heap {w with drawn:=w.drawn+1}];simp [O]
  refine .made ⟨w.heap.size,0,cap,none⟩ (.cells cells e (cap,cap+1)) {w with heap:=w.heap.push (.cells cells e (cap,cap+1)),drawn:=w.drawn+1} ⟨rfl,rfl,λo A=>?_,⟨rfl,rfl,rfl,rfl⟩,rfl,λc e' fz h k hk=>?_,λn' hm C E=>⟨?_,⟨C,J2 1,by rw [E];show 0+str.length*1<=cap;omega⟩⟩⟩;rw [B o A];simp [l9,K4.at];cases h;rw [O] at hk;simp;omega;refine Mj h5 dD rfl O.symm (dH hm _ I) (λj v hj=>?_) (by rw [O,V];simpa using a3);have ae:j<(bytesOf str).length:=(J3.1 hj).1;have y:=O8 I (Y6 hj);rw [Mq (l:=⟨w.heap.size,0,cap,none⟩) hn y];simp only [cells];rw [aho (by simpa using ae)];simp [aQ,hj]
 | @sl t x lo hi e es x' lo' hi' hu hes hx hlo hhi=>
  obtain⟨U,e2⟩:=w9 s hx;have y:eY (kQ lo') 0 ls env (λl=>Option.rec (N7 D es (H8 x' ls env) l none) (λh=>jN (h ls env) λh=>N7 D es (H8 x' ls env) l (some h)) (kQ hi'))=some r:=y;generalize hX:H8 x' ls env=X at *;have hb:∀d,(∀l,N7 D es X l none=N7 D es X l (some d))->
    ∃l h,N7 D es X l (some h)=some r∧∀cap w,l<=h->h<=cap->(Instr.sliceBounds true d cap (lo.map a.eval) (hi.map a.eval) none).run P w=.ok (l,h,cap) w:=by
   intro d hd;have h':eY (kQ lo') 0 ls env (λl=>eY (kQ hi') d ls env λh=>N7 D es X l (some h))=some r:=by
    rw [← y];congr 1;funext l;cases hhi':kQ hi' with
    | none=>simp only [eY];exact (hd l).symm
    | some f=>rfl
   obtain⟨l,h,g,_,_,Q⟩:=rG s hlo hhi h';exact⟨l,h,g,λcap w p q=>Q true d cap w rfl p q⟩
  have F:∀(ad:Option Addr) (len cap l h:Nat) (w:World),l9 ι X=.slice ad len cap->(Instr.sliceBounds true len cap (lo.map a.eval) (hi.map a.eval) none).run P w=.ok (l,h,cap) w->
    ∀o:Oper,o.op=.slice t x lo hi none->(execOp a.eval o).run P w=.ok (.value (.slice (if cap=l then ad else ad.map (·.add (l*es))) (h-l) (cap-l))) w:=by
   intro ad len cap l h w J aa o A;simp [execOp,A,Instr.sliceAt,run_underlying hu,Instr.slice,U,J,aa,run_sizeOf hes]
  cases X with
  | nilSlice=>obtain⟨l,h,g,Q⟩:=hb 0 (λl=>by simp [N7,qU,abp]);have g:bi (Nat.beq l 0) (bi (Nat.beq h 0) (some (d9.nilSlice,none)) none) none=some r:=g;obtain⟨q1,g⟩:=D9 g;obtain⟨S,g⟩:=D9 g;obtain rfl:=q8 q1;obtain rfl:=q8 S;cases g;refine .none (by simp [d9.lt]) λo A w=>?_;rw [F none 0 0 0 0 w rfl (Q 0 w (J2 _) (J2 _)) o A];rfl
  | slice id off len cap=>obtain⟨l,h,g,Q⟩:=hb len (λl=>rfl);have g:N7.known es l id off cap h=some r:=g;simp only [N7.known] at g;obtain⟨q1,g⟩:=D9 g;obtain⟨S,g⟩:=D9 g;have q1:=Y2 q1;have S:=Y2 S;cases g;refine .none e2 λo A w=>?_;rw [F _ len cap l h w rfl (Q cap w q1 S) o A];simp only [l9,uG,abB,K4.nY];by_cases J:cap=l;rw [if_pos J,if_pos J.symm];rfl;rw [if_neg J,if_neg (λe=>J e.symm)];rfl
  | sliceU id off len es'=>
   obtain⟨l,h,g,Q⟩:=hb len (λl=>rfl);have g:N7.unk D es l id off len es' h=some r:=g;simp only [N7.unk] at g;obtain⟨q1,p1⟩:=D9 g;obtain⟨S,p2⟩:=D9 p1;obtain⟨q3,p3⟩:=D9 p2;clear g p1 p2;have q1:=Y2 q1;have S:=Y2 S;obtain rfl:=q8 q3;obtain⟨L,H,G⟩:=e2;have G:off+len*es<=(n.cap id):=G;rw [E id L] at G;have M:len<=((ι id).cap-off) / es:=(adq H).2 (by omega);have hX:l9 ι (.sliceU id off len es)=.slice (some (ι.at id off)) len (((ι id).cap-off) / es):=by simp [l9]
   have B:=λw=>F _ _ _ l h w hX (Q _ w q1 (aA S M));have a2:∀k,k*es<=(ι id).cap-off->((ι id).cap-(off+k*es)) / es=((ι id).cap-off) / es-k:=by intro k hk;rw [← Nat.sub_sub,adu k es,Nat.sub_mul_div]
   cases I:Nat.blt l len with
   | true=>
    have g:some (d9.sliceU id (off+l*es) (h-l) es,none)=some r:=(by rw [I] at p3;exact p3);have am:l<len:=Eq.mp Y5 I;cases g;have a3:h*es<=len*es:=aa1 _ S;have aj:l*es+(h-l)*es=h*es:=(by rw [← ado];congr 1;omega);refine .none ⟨L,H,by rw [E id L];omega⟩ λo A w=>?_;rw [B w o A,if_neg (by omega)];simp only [l9,abB,K4.nY]
    rw [a2 l (by have:l*es<=len*es:=aa1 _ (by omega)
                 omega)]
   | false=>
    have al:len<=l:=by rcases ad5 l len with hh | hh;rw [(Eq.mpr Y5 hh:Nat.blt l len=true)] at I;cases I;exact hh
    have g:bi (Nat.beq l 0) (some (d9.sliceU id off (h-l) es,none)) (some (.sliceU D 0 0 es,some (.tail id)))=some r:=(by rw [I] at p3;exact p3);rw [uG] at g;split at g;rename_i N;subst N;cases g;obtain rfl:len=0:=(by omega);obtain rfl:h=0:=(by omega);refine .none ⟨L,H,by rw [E id L];omega⟩ λo A w=>?_;rw [B w o A];simp only [l9,abB,K4.nY,adk,Y3,aht,ite_self];cases g;obtain rfl:l=len:=(by omega);obtain rfl:h=l:=(by omega);by_cases J:((ι id).cap-off) / es=h;refine .tail ⟨(ι id).b,(ι id).base+off,0,if off=0 then (ι id).spot else none⟩ L (.inl rfl) (λo A w=>?_) λn' hm C E=>⟨C,H,by rw [E];simp⟩;rw [B w o A,if_pos J,J];simp [l9,K4.at];refine .tail ⟨(ι id).b,(ι id).base+(off+h*es),(ι id).cap-(off+h*es),if off+h*es=0 then (ι id).spot else none⟩ L (.inr ⟨rfl,by show (ι id).base+(off+h*es)+((ι id).cap-(off+h*es))<=(ι id).base+(ι id).cap;omega,λhh=>by show (if off+h*es=0 then (ι id).spot else none)=none;rw [hh];simp⟩) (λo A w=>?_) λn' hm C E=>⟨C,H,by rw [E];simp⟩;rw [B w o A,if_neg J,← a2 h (by omega)];have a0:=K4.nY ι id off (h*es);simp only [l9,abB,a0];simp [K4.at]
  | _=>obtain⟨l,h,g,_⟩:=hb 0 (λl=>rfl);cases g
end
theorem Mem.mX {m:Mem}(h:T.Ok m.t m.nx){id:Nat}{b b':Q6}(c:m.get id=some b)(a:bZ b'=false)(i:Nat)(f:m.has i):(m.set id b').has i:=by obtain⟨x,d,e⟩:=f;by_cases he:i=id;subst he;exact⟨b',by rw [Mem.V4 h (Mem.I7 h c),if_pos rfl],a⟩;exact⟨x,by rw [Mem.V4 h (Mem.I7 h c),if_neg he];exact d,e⟩
theorem getElem?_set_ne (a:Array Obj)(i j:Nat)(o:Obj)(h:i≠j):(a.setIfInBounds i o)[j]?=a[j]?:=Y7 h
structure Put (w w':World)(b:Nat)(o:Obj):Prop where
 heap:w'.heap=w.heap.setIfInBounds b o
 os:w'.os=w.os
 out:w'.output=w.output
 tape:w'.tape=w.tape
theorem Step.set' {P:Program}{G:Mem}{ι:K4}{m:Mem}{w w':World}(h:RM P G ι m w.heap){id:Nat}{b b':Q6}(r:m.lim<=id)(q:m.get id=some b)(u:U5 b=true)
  (L:bZ b'=false) {o:Obj} (s:Put w w' (ι id).b o)
  (D:dI P ι ((m.set id b').nm ι) (w.heap.setIfInBounds (ι id).b o) (ι id) b')
  (S:U5 b'=true->∀c e fz,o=.cells c e fz->∀k,k<c.size->¬ (fz.1<=k∧k<fz.2)):
  Step P G ι m w ι (m.set id b') w':=by
 have F:=Mem.I7 h.ok q;have a:=Mem.V4 h.ok F b';have l:=λi p=>Mem.mX h.ok q L i p;have v:=h.own id b r q u;have E:(ι id).b<w.heap.size:=eG (h.blk id b q) u;refine⟨⟨h.ok.put id b' F,?_,?_,h.glim,h.limn,h.gle,λi p=>by rw [a,if_neg (by have:=h.glim;omega)];exact h.base i p,λi p=>l i (h.ghas i p),h.glob,λi x d f=>by
   rw [a] at d;split at d;rename_i e;subst e;exact h.spot i b q u;exact h.spot i x d f,h.LU λt A O=>by
   rw [s.heap,getElem?_set_ne];intro e;exact O ⟨id,b,r,q,u,e⟩⟩,λ_ _=>rfl,l,J2 _,rfl,?_,by rw [s.heap];simp,?_,?_,s.os,s.out,s.tape⟩
 intro i x d;rw [a] at d;rw [s.heap];split at d;rename_i e;subst e;cases d;exact D;rename_i e;exact (h.blk i x d).mono (n:=m.nm ι) (λ_ _=>rfl) (Mem.au l λ_ _=>rfl) (λf=>getElem?_set_ne _ _ _ _ (λK=>v.alone i x e d f K.symm));intro i x p d f;rw [a] at d;have I:∀j y,m.get j=some y->U5 y=true->j≠i->∀(z:Q6),m.get i=some z->U5 z=true->(ι j).b≠(ι i).b:=λj y H B N z C g=>(h.own i z p C g).alone j y N H B;have M:∃z,m.get i=some z∧U5 z=true:=by split at d;rename_i e;subst e;exact⟨b,q,u⟩;exact⟨x,d,f⟩
 obtain⟨z,C,g⟩:=M;refine⟨λj y Q H B=>?_,λc e fz J=>?_⟩;rw [a] at H;split at H;rename_i R;subst R;exact I j b q u Q z C g;exact I j y H B Q z C g;by_cases he:i=id;subst he;rw [if_pos rfl] at d;cases d;rw [s.heap,Z4 E] at J;exact S f c e fz (Y8 J);rw [s.heap,getElem?_set_ne _ _ _ _ (λK=>v.alone i z he C g K.symm)] at J;exact (h.own i z p C g).free c e fz J;intro i p;rw [a,if_neg (by omega)];intro t A O;rw [s.heap,getElem?_set_ne];intro e;exact O ⟨id,b,r,q,u,e⟩;rintro t ⟨i,x,p,d,f,rfl⟩;rw [a] at d;split at d;rename_i e;subst e;exact .inl ⟨i,b,r,q,u,rfl⟩;exact .inl ⟨i,x,p,d,f,rfl⟩
theorem Step.set {P:Program}{G:Mem}{ι:K4}{m:Mem}{w w':World}(h:RM P G ι m w.heap){id:Nat}{b b':Q6}(f:m.lim<=id)(i:m.get id=some b)(j:U5 b=true)
  (d:bZ b'=false) {o:Obj} (l:Put w w' (ι id).b o)
  (a:dI P ι ((m.set id b').nm ι) (w.heap.setIfInBounds (ι id).b o) (ι id) b')
  (g:∀c e fz,o=.cells c e fz->∀k,k<c.size->¬ (fz.1<=k∧k<fz.2)):
  Step P G ι m w ι (m.set id b') w':=Step.set' h f i j d l a λ_=>g
theorem Step.kill {P:Program}{G:Mem}{ι:K4}{m:Mem}{w:World}(h:RM P G ι m w.heap){id:Nat}{b:Q6}(q:m.lim<=id)(o:m.get id=some b):
  Step P G ι m w ι (m.set id .dead) w:=by
 have k:=Mem.I7 h.ok o;have d:=Mem.V4 h.ok k .dead;have e:=λi f=>Mem.mX (b':=.dead) h.ok o rfl i f;have g:∀i x,(m.set id .dead).get i=some x->U5 x=true->m.get i=some x:=λi x c a=>by rw [d] at c;split at c;cases c;cases a;exact c
 refine⟨⟨h.ok.put id .dead k,?_,?_,h.glim,h.limn,h.gle,λi f=>by rw [d,if_neg (by have:=h.glim;omega)];exact h.base i f,λi f=>e i (h.ghas i f),h.glob,λi x c a=>h.spot i x (g i x c a) a,h.gsz⟩,λ_ _=>rfl,e,J2 _,rfl,?_,J2 _,λ_ _ _=>rfl,?_,rfl,rfl,rfl⟩;intro i x c;rw [d] at c;split at c;cases c;trivial;exact (h.blk i x c).mono (n:=m.nm ι) (λ_ _=>rfl) (Mem.au e λ_ _=>rfl) (λ_=>rfl);intro i x f c a;have p:=h.own i x f (g i x c a) a;exact⟨λj y r s l=>p.alone j y r (g j y s l) l,p.free⟩;intro i f;rw [d,if_neg (by omega)];rintro b₁ ⟨i,x,f,c,a,rfl⟩;exact .inl ⟨i,x,f,g i x c a,a,rfl⟩
section
variable {P:Program}{G:Mem}{ι:K4}{m:Mem}{w:World}{slots:List Nat}{done:List (Option Nat)}{ls:List d9}{env:T d9}{a:Act}
def aY (P:Program)(G:Mem)(ι:K4)(m:Mem)(w:World)(outs:List VM)(v:Value)(w':World):Prop:=
 ∃r∈outs,∃ι',Step P G ι m w ι' r.m w'∧r.v.lt (r.m.nm ι')∧v=l9 ι' r.v
def Does (P:Program)(ρ:Operand->Value)(o:Oper)(w:World)(R:Value->World->Prop):Prop:=
 match (execOp ρ o).run P w with
 | .ok (.value v) w'=>R v w'
 | .ok .skip w'=>R undef w'
 | .ok (.enter f args) w'=>CallsIn Fence.wide 0 P f args w' λe w''=>∃v,e=.returned v∧R v w''
 | .ok (.round l f tmps assign body) w'=>RoundIn Fence.wide 0 P l f tmps assign body w' λe w''=>∃v,e=.returned v∧R v w''
 | _=>False
theorem O7 {a:Operand->Value}{o:Oper}{R:Value->World->Prop}{v:Value}{w':World}(h:(execOp a o).run P w=.ok (.value v) w')(b:R v w'):Does P a o w R:=by unfold Does;rw [h];exact b
theorem AJ {a:Operand->Value}{o:Oper}{R:Value->World->Prop}{w':World}(h:(execOp a o).run P w=.ok .skip w')(b:R undef w'):Does P a o w R:=by unfold Does;rw [h];exact b
theorem pJ:∀{l:List d9},K7 l=true->∀v∈l,r9 v=true
 | [],_,v,hv=>by cases hv
 | x::l,h,v,hv=>by
  have h:bi (r9 x) (K7 l) false=true:=h;cases hx:r9 x with
  | false=>rw [hx] at h;cases h
  | true=>rw [hx] at h;rcases Z9.1 hv with rfl | hv;exact hx;exact pJ h v hv
theorem AL {v:d9}(h:r9 v=true):(∀l,l9 ι v≠.agg l)∧∀l,l9 ι v≠.tuple l:=by cases v<;>simp_all [r9,l9]
theorem run_store {a:Addr}{v x:Value}{w:World}(d:w.cell? a=some x)(e:w.frozen? a=false)(b:∀l,v≠.agg l)(c:∀l,v≠.tuple l):
  (store a v).run P w=.ok () (w.setCell a v):=by
 cases v<;>first | exact absurd rfl (b _) | exact absurd rfl (c _) | simp [store,Sem.run,d,e]
def over (c:Array Value)(o:Nat):List Value->Array Value
 | []=>c
 | v::l=>over (c.setIfInBounds o v) (o+1) l
@[simp] theorem aeH (l:List Value):∀(c:Array Value) (o:Nat),(over c o l).size=c.size:=by
 induction l with
 | nil=>intro c o;rfl
 | cons v l ih=>intro c o;rw [over,ih];simp
theorem zf (l:List Value):∀(c:Array Value) (o:Nat),o+l.length<=c.size->∀i,(over c o l)[i]?=if i<o then c[i]? else if i<o+l.length then l[i-o]? else c[i]?:=by
 induction l with
 | nil=>intro c o h i;simp [over];omega
 | cons v l ih=>intro c o h i;simp only [Y1] at h ⊢;rw [over,ih _ _ (by simp;omega)];by_cases h1:i<o;rw [if_pos h1,if_pos (by omega),Y7 (by omega)];by_cases h2:i=o;subst h2;rw [if_pos (by omega),if_neg h1,if_pos (by omega),Z4 (by omega)];simp;rw [if_neg (by omega),if_neg h1];by_cases h3:i<o+1+l.length;rw [if_pos h3,if_pos (by omega),show i-o=(i-(o+1))+1 from by omega];simp;rw [if_neg h3,if_neg (by omega),Y7 (by omega)]
theorem ow {b:Nat}{e:TypeId}{d:Nat×Nat}:∀(vs:List Value) (c:Array Value) (base i:Nat) (w:World),w.heap[b]?=some (.cells c e d)->
  base+i+vs.length<=c.size->(∀k,k<c.size->¬ (d.1<=k∧k<d.2))->(∀v∈vs,(∀l,v≠.agg l)∧∀l,v≠.tuple l)->
  (storeCells ⟨b,base,none⟩ vs i).run P w=.ok () {w with heap:=w.heap.setIfInBounds b (.cells (over c (base+i) vs) e d)}:=by
 intro vs;induction vs with
 | nil=>
  intro c base i w a p h n;have:w.heap.setIfInBounds b (.cells c e d)=w.heap:=by apply adj;intro j;by_cases hj:b=j;subst hj;rw [Z4 (Q5.1 a).1,a];rw [Y7 hj]
  simp [storeCells,over,this]
 | cons v vs ih=>
  intro c base i w a p h n;simp only [Y1] at p;have f:base+i<c.size:=by omega
  have o:=n v (by simp);have q:w.cell? ⟨b,base+i,none⟩=some c[base+i]:=by simp [World.cell?,a,f]
  have m:w.frozen? ⟨b,base+i,none⟩=false:=by have:=h (base+i) f;simp only [World.frozen?,a,afz,decide_eq_false_iff_not];omega
  simp only [storeCells,X8];rw [show (⟨b,base,none⟩:Addr).add i=⟨b,base+i,none⟩ from by simp [Addr.add],run_store q m o.1 o.2,K9];have g:w.setCell ⟨b,base+i,none⟩ v={w with heap:=w.heap.setIfInBounds b (.cells (c.setIfInBounds (base+i) v) e d)}:=by simp only [World.setCell];congr 1;apply adj;intro j;rw [ahb];by_cases hj:b=j;subst hj;rw [if_pos rfl,a,Z4 (Q5.1 a).1];simp;rw [if_neg hj,Y7 hj]
  rw [g,ih (c.setIfInBounds (base+i) v) base (i+1) _ (by simp [Z4 (Q5.1 a).1]) (by simp;omega) (by simpa using h) (λx r=>n x (by simp [r]))];congr 2;simp [over,aeF]
theorem Gz {rs n off:Nat}{rows rows':T (List d9)}{b:List d9}(h:aJ rs n rows off b=some rows'):
  off / rs<n∧∃row,rows.get (off / rs)=some row∧off%rs+b.length<=rs∧rows'=rows.put (off / rs) (lQ (off%rs) b row):=by
 obtain⟨c,h⟩:=D9 h;obtain⟨row,d,h⟩:=A8 h;obtain⟨a,h⟩:=D9 h;have a:=Y2 a;rw [I9] at a;cases h;exact⟨Eq.mp Y5 c,row,d,a,rfl⟩
theorem zh {n:Nm}{h h':Array Obj}{l:Loc}{rs k off:Nat}{rows rows':T (List d9)}{g:List d9}(hb:dI P ι n h l (.cells rs k rows))(V:aJ rs k rows off g=some rows')
  (w:bg n g) {c:Array Value} {e:TypeId} {r:Nat×Nat} (R:h[l.b]?=some (.cells c e r)) (t:h'[l.b]?=some (.cells (over c (l.base+off) (p8 ι g)) e r)):
  dI P ι n h' l (.cells rs k rows')∧l.base+off+g.length<=c.size:=by
 obtain⟨B,C,s,F,M,⟨O,N,Q,a,q⟩,G⟩:=hb;rw [R] at F;cases F;obtain⟨A,X,Z,w3,rfl⟩:=Gz V;obtain⟨f,D,J,E,K⟩:=G _ A;rw [Z] at D;cases D;have S:off / rs*rs+off%rs=off:=by rw [adu];exact aiF off rs
 have H:off / rs*rs+rs<=k*rs:=by
  calc off / rs*rs+rs=(off / rs+1)*rs:=by rw [ac1]
   _<=k*rs:=aa1 _ A
 have m:l.base+off+g.length<=c.size:=by omega
 refine⟨⟨_,e,r,t,by simpa using M,⟨O,N,Q,a.put _ _ (by omega),λY p I=>?_⟩,λi U=>?_⟩,m⟩;have L:off / rs=0:=Nat.lt_one_iff.1 (ae7 A p);rw [L,RJ a (by omega) (by omega)] at I;obtain⟨x,y,z⟩:=q Y p I;exact⟨x,y,by simpa using z⟩;by_cases hi0:i=off / rs;subst hi0;refine⟨_,T.aL a _ _ (by omega),by rw [yO _ _ _ (by omega)];exact J,?_,λj u=>?_⟩;rw [lU _ _ _ (by omega),bX];intro v d;rcases aa3.1 d with d | d;exact O8 E (aeI d);rcases aa3.1 d with d | d;exact O8 w d;exact O8 E (afD d);have o:=K j u;rw [zf _ _ _ (by simp;omega),RH _ _ _ (by omega)];simp only [V3];by_cases c1:j<off%rs;rw [if_pos (by omega),if_neg (by omega)];exact o;by_cases c2:j<off%rs+g.length;rw [if_neg (by omega),if_pos (by omega),if_pos (by omega),aQ];congr 2;omega;rw [if_neg (by omega),if_neg (by omega),if_neg (by omega)];exact o;obtain⟨f,x,y,z,W⟩:=G i U;refine⟨f,by rw [T.bn a _ _ _ (by omega) (λe=>hi0 e.symm)];exact x,y,z,λj u=>?_⟩;rw [zf _ _ _ (by simp;omega),← W j u];simp only [V3];rcases ad5 i (off / rs) with hlt | hge;have:i*rs+rs<=off / rs*rs:=by
  calc i*rs+rs=(i+1)*rs:=by rw [ac1]
   _<=off / rs*rs:=aa1 _ hlt
 rw [if_pos (by omega)];have:off / rs*rs+rs<=i*rs:=by
  calc off / rs*rs+rs=(off / rs+1)*rs:=by rw [ac1]
   _<=i*rs:=aa1 _ (by omega)
 rw [if_neg (by omega),if_neg (by omega)]
theorem GA (rs n:Nat)(rows:T (List d9))(off:Nat):iy rs n [] rows off=some rows:=rfl
theorem Eo (rs n:Nat)(v:d9)(a:List d9)(rows:T (List d9))(off:Nat):
  iy rs n (v::a) rows off=ob (aJ rs n rows off [v]) λrows'=>iy rs n a rows' (off+1):=rfl
theorem gy {h:Array Obj}{b:Nat}{x o:Obj}(hb:h[b]?=some x):(h.setIfInBounds b o)[b]?=some o:=
 Z4 (Q5.1 hb).1
theorem set_set (h:Array Obj)(b:Nat)(x y:Obj):(h.setIfInBounds b x).setIfInBounds b y=h.setIfInBounds b y:=by apply adj;intro j;by_cases hj:b=j;subst hj;by_cases hb:b<h.size;rw [Z4 (by simpa using hb),Z4 hb];simp [adp hb];rw [Y7 hj,Y7 hj,Y7 hj]
theorem GD {n:Nm}{l:Loc}{rs k:Nat}{e:TypeId}{g:Nat×Nat}:∀(vs:List d9) (off:Nat) (rows rows':T (List d9)) (h:Array Obj) (c:Array Value),
  dI P ι n h l (.cells rs k rows)->iy rs k vs rows off=some rows'->bg n vs->h[l.b]?=some (.cells c e g)->
  dI P ι n (h.setIfInBounds l.b (.cells (over c (l.base+off) (p8 ι vs)) e g)) l (.cells rs k rows')∧(vs≠[]->l.base+off+vs.length<=c.size):=by
 intro vs;induction vs with
 | nil=>intro off rows rows' h c i f _ a;rw [GA] at f;cases f;refine⟨i.mono (n:=n) (λ_ _=>rfl) (Nm.le_refl n) λ_=>?_,λh=>absurd rfl h⟩;rw [gy a,a];rfl
 | cons v vs ih=>
  intro off rows rows' h c i f d a;rw [Eo] at f;obtain⟨m,r,s⟩:=A8 f;obtain⟨o,p⟩:=zh (h':=h.setIfInBounds l.b (.cells (over c (l.base+off) (p8 ι [v])) e g)) i r ⟨d.1,trivial⟩ a (gy a);obtain⟨j,q⟩:=ih (off+1) _ _ _ _ o s d.2 (gy a);rw [set_set] at j;refine⟨?_,λ_=>?_⟩;simpa [p8,over,aeF] using j;cases vs with
  | nil=>simpa using p
  | cons u vs=>have:=q (by simp);simp at this ⊢;omega
theorem Hu (r:RM P G ι m w.heap){id rs k off:Nat}{rows rows':T (List d9)}(q:m.lim<=id)(p:m.get id=some (.cells rs k rows)){d:List d9}
  (y:K7 d=true) (A:bg (m.nm ι) d)
  (hb:∀c e fz,w.heap[(ι id).b]?=some (.cells c e fz)->dI P ι (m.nm ι) (w.heap.setIfInBounds (ι id).b (.cells (over c ((ι id).base+off) (p8 ι d)) e fz)) (ι id) (.cells rs k rows')∧
   (d≠[]->(ι id).base+off+d.length<=c.size)):
  ∃w',(storeCells (ι.at id off) (p8 ι d) 0).run P w=.ok () w'∧Step P G ι m w ι (m.set id (.cells rs k rows')) w':=by
 obtain⟨c,e,fz,g,_⟩:=r.blk id _ p;obtain⟨f,o⟩:=hb c e fz g;have a:=(r.own id _ q p rfl).free c e fz g;have s:∀v∈p8 ι d,(∀l,v≠.agg l)∧∀l,v≠.tuple l:=by intro v t;rw [bC] at t;obtain⟨u,B,rfl⟩:=ab1.1 t;exact AL (pJ y u B)
 refine⟨{w with heap:=w.heap.setIfInBounds (ι id).b (.cells (over c ((ι id).base+off) (p8 ι d)) e fz)},?_,?_⟩;cases d with
 | nil=>
  have:w.heap.setIfInBounds (ι id).b (.cells c e fz)=w.heap:=by apply adj;intro j;by_cases hj:(ι id).b=j;subst hj;rw [gy g,g];rw [Y7 hj]
  simp [p8,storeCells,over,this]
 | cons v d=>have:=o (by simp);rw [K4.yP (r.spot id _ p rfl)];exact ow (p8 ι (v::d)) c ((ι id).base+off) 0 w g (by simpa using this) a s
 refine Step.set r q p rfl rfl ⟨rfl,rfl,rfl,rfl⟩ ?_ (λC D x h=>by cases h;simpa using a);exact f.mono (n:=m.nm ι) (λ_ _=>rfl) (Mem.au (λi z=>Mem.mX r.ok p rfl i z) λ_ _=>rfl) λ_=>rfl
theorem GH (l:RM P G ι m w.heap){id off:Nat}{d:List d9}{β:Type}{k:Mem->Option β}{r:β}(hs:storeAt m id off d k=some r)(a:bg (m.nm ι) d):
  ∃m' w',k m'=some r∧(storeCells (ι.at id off) (p8 ι d) 0).run P w=.ok () w'∧Step P G ι m w ι m' w':=by
 obtain⟨g,hs⟩:=jR hs;obtain⟨v,hs⟩:=D9 hs;obtain⟨z,n,o,j,hs⟩:=dB hs;obtain⟨rows',y,x⟩:=A8 hs;have f:m.lim<=id:=by rcases ad5 id m.lim with h | h;rw [(Eq.mpr Y5 h:Nat.blt id m.lim=true)] at g;cases g;exact h
 obtain⟨w',t,u⟩:=Hu (off:=off) (rows':=rows') l f j v a (λc e s i=>by
  obtain⟨p,q⟩:=zh (h':=w.heap.setIfInBounds (ι id).b (.cells (over c ((ι id).base+off) (p8 ι d)) e s)) (l.blk id _ j) y a i (gy i);exact⟨p,λ_=>q⟩)
 exact⟨_,w',x,t,u⟩
theorem mJ (g:RM P G ι m w.heap){id off:Nat}{b:List d9}{β:Type}{k:Mem->Option β}{r:β}(hs:jy m id off b k=some r)(d:bg (m.nm ι) b):
  ∃m' w',k m'=some r∧(storeCells (ι.at id off) (p8 ι b) 0).run P w=.ok () w'∧Step P G ι m w ι m' w':=by
 cases b with
 | nil=>exact⟨m,w,hs,by simp [p8,storeCells],Step.refl g⟩
 | cons v b=>
  have hs:bi (Nat.blt id m.lim) none (bi (K7 (v::b)) (P8 (m.get id) λi n a=>ob (iy i n (v::b) a off) λrows'=>k (m.set id (.cells i n rows'))) none)=some r:=hs;obtain⟨j,hs⟩:=jR hs;obtain⟨q,hs⟩:=D9 hs;obtain⟨i,n,a,l,hs⟩:=dB hs;obtain⟨rows',u,t⟩:=A8 hs;have f:m.lim<=id:=by rcases ad5 id m.lim with h | h;rw [(Eq.mpr Y5 h:Nat.blt id m.lim=true)] at j;cases j;exact h
  obtain⟨w',o,p⟩:=Hu (off:=off) (rows':=rows') g f l q d (λc e x s=>GD (v::b) off a rows' _ c (g.blk id _ l) u d s);exact⟨_,w',t,o,p⟩
theorem jF {a b:Nat}(h:Nat.blt a b=false):b<=a:=by rcases ad5 a b with g | g;rw [(Eq.mpr Y5 g:Nat.blt a b=true)] at h;cases h;exact g
theorem Mr (s:St P ι (m.nm ι) slots done ls env a.tmps)(u:RM P G ι m w.heap){t:TypeId}{x y:Operand}{k:Nat}{l c:Q8}(r:aS P t=some k)
  (A:N8 P slots done x=some l) (B:N8 P slots done y=some c) {cf:G9} {outs:List VM} (z:nG (.store k l c) cf ls env m=some outs):
  ∀o:Oper,o.op=.store t x y->Does P a.eval o w (aY P G ι m w outs):=by
 intro o v;obtain⟨id,off,f,h⟩:=dW z;have f:H8 l ls env=.ptr id off:=f;obtain⟨g,h⟩:=D9 h;have g:(H8 c ls env).cells.length=k:=by rw [← I9];exact q8 g
 obtain⟨n,_⟩:=w9 s A;obtain⟨p,e⟩:=w9 s B;obtain⟨C,w',i,d,b⟩:=GH u h (uq e);cases i;refine AJ (w':=w') ?_ ⟨_,aP.2 rfl,ι,b,trivial,rfl⟩;have j:(l9 ι (H8 c ls env)).cells.size=k:=by rw [kU];simp [g]
 have q:(l9 ι (H8 c ls env)).cells.toList=p8 ι (H8 c ls env).cells:=by rw [kU]
 simp [execOp,v,Instr.storeAt,n,p,f,l9,Instr.sureAddr,storeVar,run_sizeOf r,j,q,d]
end
section
variable {P:Program}{G:Mem}{ι:K4}{m:Mem}{w:World}{slots:List Nat}{done:List (Option Nat)}{ls:List d9}{env:T d9}{a:Act}
theorem rQ {r:Nat}{o x:Obj}(h:w.heap[r]?=some x)(a:∀c e fz,x≠.cells c e fz):(setObj r o).run P w=.ok () {w with heap:=w.heap.setIfInBounds r o}:=by simp only [setObj,Sem.run,h]
theorem lK {kk:PK}{x y:d9}(h:Gj kk x y=some true)(n:Nat):Instr.sameBits n (l9 ι x) (l9 ι y)=true:=by
 cases kk with
 | i=>obtain⟨k,p,q,rfl,rfl,a⟩:=oh (show ay x y=some true from h);simp [l9,Instr.sameBits];simpa using a.symm
 | b=>obtain⟨p,q,rfl,rfl,a⟩:=gV (show qW x y=some true from h);simp [l9,Instr.sameBits];simpa using a.symm
 | s=>obtain⟨p,q,rfl,rfl,a⟩:=jm (show eqStr x y=some true from h);simp [l9,Instr.sameBits,lI];simpa using a.symm
theorem wQ:∀(ks:List PK) (x y:List d9),bO ks x y=some true->x.length=ks.length->y.length=ks.length->∀n,
  ((p8 ι x).zip (p8 ι y)).all (λ(p:Value×Value)=>Instr.sameBits n p.1 p.2)=true
 | [],x,y,_,h1,h2,n=>by cases x<;>simp_all [p8]
 | k::ks,x,y,h,h1,h2,n=>by
  cases x with
  | nil=>simp at h1
  | cons a x=>
   cases y with
   | nil=>simp at h2
   | cons b y=>
    rw [jC] at h;obtain⟨r,h3,h4⟩:=A8 h;cases r with
    | false=>cases h4
    | true=>have ih:=wQ ks x y h4 (by simpa using h1) (by simpa using h2) n;simp only [p8,List.zip_cons_cons,ahn,lK h3 n,adl];exact ih
theorem JO {kk:Ad}{t:TypeId}(z:sZ P t=some kk){x y:d9}(h:mo kk x y=some true)(f:x.cells.length=Ap kk)(g:y.cells.length=Ap kk):
  Instr.sameBits 10000 (l9 ι y) (l9 ι x)=true:=by
 have c:∀kk x y,Gj kk x y=some true->Gj kk y x=some true:=by
  intro kk x y h;cases kk with
  | i=>obtain⟨k,p,q,rfl,rfl,d⟩:=oh (show ay x y=some true from h)
       have:p=q:=(by simpa using d.symm);subst this;exact h
  | b=>obtain⟨p,q,rfl,rfl,d⟩:=gV (show qW x y=some true from h)
       have:p=q:=(by simpa using d.symm);subst this;exact h
  | s=>obtain⟨p,q,rfl,rfl,d⟩:=jm (show eqStr x y=some true from h)
       have:p=q:=(by simpa using d.symm);subst this;exact h
 rcases vM z with⟨rfl,_⟩ | ⟨_,rfl,_⟩ | ⟨rfl,_⟩ | ⟨fs,a,rfl,_,_⟩;exact lK (kk:=.b) (c .b x y h) _;exact lK (kk:=.i) (c .i x y h) _;exact lK (kk:=.s) (c .s x y h) _;obtain⟨l,rfl,n⟩:=dX h;obtain⟨j,rfl,o⟩:=dX n;have f:l.length=a.length:=f;have g:j.length=a.length:=g;have e:∀(a:List PK) (x y:List d9),bO a x y=some true->bO a y x=some true:=by
  intro a;induction a with
  | nil=>intro x y h;exact kW y x
  | cons k a ih=>
   intro x y h;cases x with
   | nil=>cases h
   | cons u x=>
    cases y with
    | nil=>cases h
    | cons v y=>
     rw [jC] at h ⊢;obtain⟨r,w,m⟩:=A8 h;cases r with
     | false=>cases m
     | true=>rw [c k u v w];exact ih x y m
 have:=wQ (ι:=ι) a j l (e a l j o) g f 9999;simp only [l9,Instr.sameBits,adw,V3,f,g,beq_self_eq_true,adl];exact this
theorem uL (ι:K4)(e:d9×d9):∀(es:List (d9×d9)) (j:Nat),J6 ι (es ++ [e]) j=J6 ι es j ++ [{key:=l9 ι e.1,val:=l9 ι e.2,born:=j+es.length}]
 | [],j=>by simp [J6]
 | x::es,j=>by simp [J6,uL ι e es,aeF,ahu 1]
theorem Ep (k v:d9)(i:Nat):cK [] k v i=[]:=rfl
theorem lW (e:d9×d9)(es:List (d9×d9))(k v:d9):cK (e::es) k v 0=(k,v)::es:=rfl
theorem lX (e:d9×d9)(es:List (d9×d9))(k v:d9)(i:Nat):cK (e::es) k v (i+1)=e::cK es k v i:=rfl
theorem wR (k v:d9):∀(es:List (d9×d9)) (i:Nat),(cK es k v i).length=es.length
 | [],i=>rfl
 | e::es,0=>by simp [lW]
 | e::es,i+1=>by simp [lX,wR k v es]
theorem rR {k v:d9}:∀{es:List (d9×d9)} {i:Nat} {x:d9×d9},x∈cK es k v i->x=(k,v)∨x∈es
 | [],i,x,h=>by cases h
 | e::es,0,x,h=>by rw [lW] at h;rcases Z9.1 h with h | h;exact .inl h;exact .inr (Z8 _ h)
 | e::es,i+1,x,h=>by rw [lX] at h;rcases Z9.1 h with h | h;exact .inr (by rw [h];exact ac2);rcases rR h with h | h;exact .inl h;exact .inr (Z8 _ h)
theorem uM (ι:K4)(k v:d9):∀(es:List (d9×d9)) (i j:Nat),
  (J6 ι es j).modify i (λe=>{e with key:=l9 ι k,val:=l9 ι v})=J6 ι (cK es k v i) j
 | [],i,j=>by simp [J6,Ep]
 | e::es,0,j=>by simp [J6,lW]
 | e::es,i+1,j=>by simp [J6,lX,uM ι k v es]
theorem CR (C:RM P G ι m w.heap){t O e:TypeId}{kk:Ad}(N:P.underlying t=some (.map O e))(J:sZ P O=some kk){id:Nat}{k x:d9}{es:List (d9×d9)}
  (z:m.lim<=id) (v:m.get id=some (.map es)) {r:Option (Nat×d9)} (S:R8 (mo kk) (Ap kk) k es=some r) (B:k.lt (m.nm ι)) (D:x.lt (m.nm ι)) {outs:List VM}
  (q:Option.rec (one .undef (m.set id (.map (U2 es [(k,x)])))) (λp=>ob (oN p.1 es) λe=>
   bi (Nat.beq (len' e.1.cells) (Ap kk)) (one .undef (m.set id (.map (cK es k x p.1)))) none) r=some outs):
  ∃w',(Instr.mapUpdate t (.map (some (ι id).b)) (l9 ι k) (l9 ι x)).run P w=.ok () w'∧aY P G ι m w outs undef w':=by
 obtain⟨L,⟨y,b,R⟩,M⟩:=jU S;obtain⟨c,f⟩:=C.blk id _ v;have g:=fC (P:=P) c (by intro _ _ _ e;cases e);have l:=λo=>rQ (P:=P) (o:=o) c (by intro _ _ _ e;cases e);have u:=lJ (ι:=ι) J M w;have s:=Db (ι:=ι) J L R false w;cases r with
 | none=>cases q;refine⟨{w with heap:=w.heap.setIfInBounds (ι id).b (.map (J6 ι (es ++ [(k,x)]) 0).toArray (es ++ [(k,x)]).length)},?_,_,aP.2 rfl,ι,Step.set C z v rfl rfl (o:=.map (J6 ι (es ++ [(k,x)]) 0).toArray (es ++ [(k,x)]).length) ⟨rfl,rfl,rfl,rfl⟩ ?_ (by intro _ _ _ h;cases h),trivial,rfl⟩;simp only [Instr.mapUpdate,X8,run_underlying N,g,K9,s,u,mO,ae5,l];simp [uL];rw [O4];refine⟨gy c,λe d=>?_⟩;have a:=Mem.au (ι:=ι) (ι':=ι) (λi I=>Mem.mX (b':=.map (es ++ [(k,x)])) C.ok v rfl i I) λ_ _=>rfl;rcases aa3.1 d with d | d;exact⟨d9.O6 a _ (f e d).1,d9.O6 a _ (f e d).2⟩;rw [aP.1 d];exact⟨d9.O6 a _ B,d9.O6 a _ D⟩
 | some p=>
  obtain⟨e,F,q⟩:=A8 q;obtain⟨H,q⟩:=D9 q;cases q;rw [jf] at F;have H:e.1.cells.length=Ap kk:=by rw [← I9];exact q8 H
  obtain⟨j,T,E,K,_,Q⟩:=kX M;rw [aa2] at E;rw [E,K] at F;cases F;have n:=JO (ι:=ι) J Q L H;refine⟨{w with heap:=w.heap.setIfInBounds (ι id).b (.map (J6 ι (cK es k x p.1) 0).toArray es.length)},?_,_,aP.2 rfl,ι,Step.set C z v rfl rfl (o:=.map (J6 ι (cK es k x p.1) 0).toArray es.length) ⟨rfl,rfl,rfl,rfl⟩ ?_ (by intro _ _ _ h;cases h),trivial,rfl⟩;have A:(((J6 ι es 0).toArray[p.1]?).map (·.key)).getD (l9 ι k)=l9 ι e.1:=by simp [lV,E,K]
  simp only [Instr.mapUpdate,X8,run_underlying N,g,K9,s,u,mO,abB,A,Instr.keyThatStays,n,if_true,aaS,l];rw [List.modify_toArray,uM];refine⟨by rw [wR];exact gy c,λe d=>?_⟩;have a:=Mem.au (ι:=ι) (ι':=ι) (λi I=>Mem.mX (b':=.map (cK es k x p.1)) C.ok v rfl i I) λ_ _=>rfl;rcases rR d with d | d;rw [d];exact⟨d9.O6 a _ B,d9.O6 a _ D⟩;exact⟨d9.O6 a _ (f e d).1,d9.O6 a _ (f e d).2⟩
theorem Hw {ι:K4}(k v:d9):∀(L:List MapEntry) (es:List (d9×d9)) (j:Nat),L.map tq=es.map (λe=>(l9 ι e.1,l9 ι e.2))->
  (L.modify j λe=>{e with key:=l9 ι k,val:=l9 ι v}).map tq=(cK es k v j).map λe=>(l9 ι e.1,l9 ι e.2)
 | [],[],j,_=>by simp [Ep]
 | [],_ :: _,_,h=>by cases h
 | _ :: _,[],_,h=>by cases h
 | x::L,e::es,0,h=>by simp only [Z7,aeg] at h;rw [lW];simp [tq];simpa [tq] using h.2
 | x::L,e::es,j+1,h=>by simp only [Z7,aeg] at h;rw [lX];simp [h.1,Hw k v L es j h.2]
def Mt (u:List UInt8)(x:d9)(e:d9×d9):d9×d9:=match e.1 with
 | .str t=>if t=u then (.str u,x) else e
 | _=>e
theorem Vh (u:List UInt8)(x:d9)(e:d9×d9):(Mt u x e).1=e.1:=by
 obtain⟨k,v⟩:=e;cases k<;>simp only [Mt]
 split;rename_i h;rw [h];rfl
theorem QD {u:List UInt8}{x:d9}:∀{es:List (d9×d9)},(∀e∈es,e.1≠.str u)->es.map (Mt u x)=es
 | [],_=>rfl
 | e::es,h=>by
  rw [Z7,QD λy hy=>h y (by simp [hy])];congr 1;have:=h e (by simp);obtain⟨k,v⟩:=e;cases k<;>simp only [Mt]
  split;rename_i h';exact absurd (by simp [h']) this;rfl
theorem pK {u:List UInt8}{x v:d9}:∀{es:List (d9×d9)} {j:Nat},(es.map (·.1)).Nodup->es[j]?=some (.str u,v)->cK es (.str u) x j=es.map (Mt u x)
 | [],j,_,h=>by simp at h
 | e::es,0,hn,h=>by simp at h;subst h;simp only [Z7,ads] at hn;rw [lW,Z7,QD λy hy hk=>hn.1 (by rw [← hk];exact ab1.2 ⟨y,hy,rfl⟩)];simp [Mt]
 | e::es,j+1,hn,h=>by
  simp only [Z7,ads] at hn;have h:es[j]?=some (.str u,v):=by simpa using h
  rw [lX,Z7,pK hn.2 h];congr 1;have hne:e.1≠.str u:=λhk=>hn.1 (by rw [hk];exact ab1.2 ⟨_,Y6 h,rfl⟩);obtain⟨k,w⟩:=e;cases k<;>simp only [Mt]
  split;rename_i h';exact absurd (by simp [h']) hne;rfl
theorem AO (hm:RM P G ι m w.heap){t kt e:TypeId}{kk:Ad}(hu:P.underlying t=some (.map kt e))(Z:sZ P kt=some kk){id:Nat}{u:List UInt8}{x:d9}{es:List (d9×d9)}
  (O:m.lim<=id) (Y:m.get id=some (.mapU es)) {r:Option (Nat×d9)} (hf:R8 (mo kk) (Ap kk) (.str u) es=some r) (W:x.lt (m.nm ι)) {B:List (d9×d9)}
  (hr:(r=none∧B=es ++ [(.str u,x)])∨∃p,r=some p∧B=cK es (.str u) x p.1):
  ∃w',(Instr.mapUpdate t (.map (some (ι id).b)) (l9 ι (.str u)) (l9 ι x)).run P w=.ok () w'∧aY P G ι m w [⟨.undef,m.set id (.mapU B)⟩] undef w':=by
 obtain⟨h1,⟨y,b,h2⟩,C⟩:=jU hf;obtain⟨L,I,d,⟨hp,V,E⟩,q⟩:=hm.blk id _ Y;have s:=fC (P:=P) d (by intro _ _ _ e;cases e);have z:=λo=>rQ (P:=P) (o:=o) d (by intro _ _ _ e;cases e);obtain⟨g,p1,p2⟩:=BS _ hp;obtain⟨r',q1,q2⟩:=aaZ Z p1 V E hf;have a5:(J6 ι g 0).map tq=L.map tq:=by rw [xK];exact p2.symm
 have D:=lJ (ι:=ι) Z q1 w;rw [Eh kt (l9 ι (.str u)) a5] at D;have N:=Db (ι:=ι) Z h1 h2 false w;have f:∀b',bZ b'=false->(m.nm ι).le ((m.set id b').nm ι):=λb' a0=>Mem.au (ι:=ι) (ι':=ι) (λi hi=>Mem.mX (b':=b') hm.ok Y a0 i hi) λ_ _=>rfl;have S:es≠[]->mo kk=eqStr:=λF=>by
  cases es with
  | nil=>exact absurd rfl F
  | cons A es=>obtain⟨s0,a7⟩:=V A (by simp);rw [dK,a7] at C;obtain⟨b0,a2,_⟩:=A8 C;rw [(QC Z a2).1];rfl
 rcases hr with⟨rfl,rfl⟩ | ⟨p,rfl,rfl⟩;obtain rfl:r'=none:=by cases r'<;>simp at q2 ⊢
 refine⟨{w with heap:=w.heap.setIfInBounds (ι id).b (.map (L ++ [(⟨l9 ι (.str u),l9 ι x,I⟩:MapEntry)]).toArray (I+1))},?_,_,aP.2 rfl,ι,Step.set hm O Y rfl rfl (o:=.map (L ++ [(⟨l9 ι (.str u),l9 ι x,I⟩:MapEntry)]).toArray (I+1)) ⟨rfl,rfl,rfl,rfl⟩ ?_ (by intro _ _ _ h;cases h),trivial,rfl⟩;simp only [Instr.mapUpdate,X8,run_underlying hu,s,K9,N,D,mO,ae5,z];simp;refine⟨_,_,gy d,⟨?_,λe c=>?_,?_⟩,λe c=>?_⟩;simp only [abN,Z7,afB];exact hp.append_right _;rcases aa3.1 c with c | c;exact V e c;rw [aP.1 c];exact⟨u,rfl⟩;simp only [abN,Z7,afB];rw [List.nodup_append];refine⟨E,by simp,?_⟩;intro a ha b hb M;rw [aP.1 hb] at M;subst M;obtain⟨A,a3,a4⟩:=ab1.1 ha;have Q:(d9.str u,A.2)∈es:=by rw [← a4];exact a3
 obtain⟨j,J,_⟩:=pI es 0 V E Q;rw [S (List.ne_nil_of_mem Q),J] at C;cases C;rcases aa3.1 c with c | c;exact⟨d9.O6 (f _ rfl) _ (q e c).1,d9.O6 (f _ rfl) _ (q e c).2⟩;rw [aP.1 c];exact⟨trivial,d9.O6 (f _ rfl) _ W⟩;obtain⟨p',rfl⟩:∃p',r'=some p':=by cases r' with
  | none=>simp at q2
  | some p'=>exact⟨p',rfl⟩
 have F:es≠[]:=by rintro rfl;rw [dJ] at C;cases C
 have c:=S F;have k:∃v,es[p.1]?=some (.str u,v):=by
  obtain⟨j,A,J,g2,_,K⟩:=kX C;rw [c] at K;obtain⟨a1,b1,g5,g6,g7⟩:=jm K;cases g5;have:u=b1:=by simpa using g7.symm
  subst this;exact⟨A.2,by rw [J,aa2,g2,← g6]⟩
 have n:∃v,g[p'.1]?=some (.str u,v):=by
  obtain⟨j,A,J,g2,_,K⟩:=kX q1;rw [c] at K;obtain⟨a1,b1,g5,g6,g7⟩:=jm K;cases g5;have:u=b1:=by simpa using g7.symm
  subst this;exact⟨A.2,by rw [J,aa2,g2,← g6]⟩
 obtain⟨v1,k⟩:=k;obtain⟨v2,n⟩:=n;have hL:∃X,L[p'.1]?=some X∧X.key=l9 ι (.str u):=by
  have:=congrArg (λl=>l[p'.1]?) p2;simp only [abq,n,abB] at this;cases hl:L[p'.1]? with
  | none=>rw [hl] at this;cases this
  | some X=>rw [hl] at this;simp at this;exact⟨X,rfl,this.1⟩
 obtain⟨X,T,U⟩:=hL;have H:Instr.sameBits 10000 (l9 ι (.str u)) (l9 ι (.str u))=true:=by simp [l9,Instr.sameBits,lI]
 have a6:(g.map (·.1)).Nodup:=(p1.map _).nodup_iff.2 E;refine⟨{w with heap:=w.heap.setIfInBounds (ι id).b (.map (L.modify p'.1 λe=>{e with key:=l9 ι (.str u),val:=l9 ι x}).toArray I)},?_,_,aP.2 rfl,ι,Step.set hm O Y rfl rfl (o:=.map (L.modify p'.1 λe=>{e with key:=l9 ι (.str u),val:=l9 ι x}).toArray I) ⟨rfl,rfl,rfl,rfl⟩ ?_ (by intro _ _ _ h;cases h),trivial,rfl⟩;have R:((L.toArray[p'.1]?).map (·.key)).getD (l9 ι (.str u))=l9 ι (.str u):=by simp [T,U]
 simp only [Instr.mapUpdate,X8,run_underlying hu,s,K9,N,D,mO,abB,R,Instr.keyThatStays,H,if_true,aaS,z];rw [List.modify_toArray];refine⟨_,_,gy d,⟨?_,λe c=>?_,?_⟩,λe c=>?_⟩;rw [show (L.modify p'.1 λe=>{e with key:=l9 ι (.str u),val:=l9 ι x}).map (λx=>(x.key,x.val))=(cK g (.str u) x p'.1).map (λe=>(l9 ι e.1,l9 ι e.2)) from Hw (.str u) x L g p'.1 p2,pK a6 n,pK E k];exact (p1.map _).map _;rcases rR c with c | c;rw [c];exact⟨u,rfl⟩;exact V e c;rw [pK E k,ad4];rw [show ((λx=>x.1)∘Mt u x:d9×d9->d9)=λe=>e.1 from funext λe=>Vh u x e];exact E;rcases rR c with c | c;rw [c];exact⟨trivial,d9.O6 (f _ rfl) _ W⟩;exact⟨d9.O6 (f _ rfl) _ (q e c).1,d9.O6 (f _ rfl) _ (q e c).2⟩
theorem Hy {id:Nat}{k:d9}{es a:List (d9×d9)}(h:m.get id=some (.map es)):nQ m id k a=one .undef (m.set id (.map a)):=by unfold nQ;rw [h]
theorem Er {id:Nat}{k:d9}{es a:List (d9×d9)}(h:m.get id=some (.mapU es)):nQ m id k a=oO k λ_=>one .undef (m.set id (.mapU a)):=by unfold nQ;rw [h]
theorem zk (s:St P ι (m.nm ι) slots done ls env a.tmps)(N:RM P G ι m w.heap){t S e:TypeId}{kk:Ad}(O:P.underlying t=some (.map S e))(M:sZ P S=some kk)
  {x k y:Operand} {E d n:Q8} (Q:N8 P slots done x=some E) (B:N8 P slots done k=some d) (R:N8 P slots done y=some n)
  {cf:G9} {outs:List VM} (T:nG (.mapSet kk E d n) cf ls env m=some outs):
  ∀o:Oper,(o.op=.mapUpdate t x k y∨o.op=.insert t x k y)->Does P a.eval o w (aY P G ι m w outs):=by
 intro o f;rcases vL T with⟨_,h⟩ | ⟨id,v,h⟩;cases h;obtain⟨L,h⟩:=jR h;obtain⟨q,j | j,h⟩:=Dc h
 case inr=>
  obtain⟨r,D,b⟩:=A8 h;have v:H8 E ls env=.map id:=v;obtain⟨F,_⟩:=w9 s Q;obtain⟨H,z⟩:=w9 s B;obtain⟨I,g⟩:=w9 s R;have K:∃u,H8 d ls env=.str u∧∃c,outs=[⟨.undef,m.set id (.mapU c)⟩]∧((r=none∧c=q ++ [(.str u,H8 n ls env)])∨∃p,r=some p∧c=cK q (.str u) (H8 n ls env) p.1):=by
   cases r with
   | none=>have b:nQ m id (H8 d ls env) (U2 q [(H8 d ls env,H8 n ls env)])=some outs:=b;rw [Er j] at b;obtain⟨u,l,b⟩:=iA b;cases b;rw [l,O4];exact⟨u,rfl,_,rfl,.inl ⟨rfl,rfl⟩⟩
   | some p=>obtain⟨U,_,b⟩:=A8 b;obtain⟨_,b⟩:=D9 b;rw [Er j] at b;obtain⟨u,l,b⟩:=iA b;cases b;rw [l];exact⟨u,rfl,_,rfl,.inr ⟨p,rfl,rfl⟩⟩
  obtain⟨u,C,c,rfl,i⟩:=K;rw [C] at D;obtain⟨w',A,J⟩:=AO N O M (jF L) j D g i;refine AJ (w':=w') ?_ J;rcases f with f | f<;>simp [execOp,f,F,H,I,v,C,l9,A]
  all_goals (simp only [l9] at A;simp [A])
 obtain⟨r,D,b⟩:=A8 h;have v:H8 E ls env=.map id:=v;obtain⟨F,_⟩:=w9 s Q;obtain⟨H,z⟩:=w9 s B;obtain⟨I,g⟩:=w9 s R;have b:Option.rec (one .undef (m.set id (.map (U2 q [(H8 d ls env,H8 n ls env)])))) (λp=>ob (oN p.1 q) λe=>
   bi (Nat.beq (len' e.1.cells) (Ap kk)) (one .undef (m.set id (.map (cK q (H8 d ls env) (H8 n ls env) p.1)))) none) r=some outs:=by
  cases r with
  | none=>rw [← Hy (k:=H8 d ls env) j];exact b
  | some p=>simp only [← Hy (k:=H8 d ls env) j];exact b
 obtain⟨w',A,J⟩:=CR N O M (jF L) j D z g b;refine AJ (w':=w') ?_ J;rcases f with f | f<;>simp [execOp,f,F,H,I,v,l9,A]
theorem run_newObj (o:Obj)(w:World):(newObj o).run P w=.ok w.heap.size {w with heap:=w.heap.push o}:=by simp [newObj,Sem.run]
theorem Mv (d:RM P G ι m w.heap)(mp:Option Nat)(since:Nat)(a:∀x,mp=some x->m.has x):
  aY P G ι m w [⟨.ptr m.nx 0,m.new (.iter mp since [])⟩] (.pointer (some ⟨w.heap.size,0,none⟩)) {w with heap:=w.heap.push (.mapIter (mp.map λx=>(ι x).b) since #[] since)}:=by
 have c:=Laid.new d.ok d.limn (.iter mp since []) rfl;refine⟨_,aP.2 rfl,ι.upd m.nx ⟨w.heap.size,0,0,none⟩,Step.lay (w':={w with heap:=w.heap.push (.mapIter (mp.map λx=>(ι x).b) since #[] since)}) d c (o:=.mapIter (mp.map λx=>(ι x).b) since #[] since) ⟨rfl,rfl,rfl,rfl⟩ rfl rfl ?_ (by intro _ _ _ h;cases h),c.self,by simp [l9,K4.at]⟩;refine⟨rfl,λx f=>c.has x (a x f),#[],since,?_,rfl,λ_=>rfl⟩;show (w.heap.push _)[w.heap.size]?=_;rw [dD];cases mp with
 | none=>rfl
 | some x=>simp [ι.upd_ne ⟨w.heap.size,0,0,none⟩ (λe=>c.free (e▸a x rfl):x≠m.nx)]
theorem Mw (s:St P ι (m.nm ι) slots done ls env a.tmps)(d:RM P G ι m w.heap){t k e:TypeId}(l:P.underlying t=some (.map k e))
  {x:Operand} {c:Q8} (f:N8 P slots done x=some c) {cf:G9} {outs:List VM} (q:nG (.range c) cf ls env m=some outs):
  ∀o:Oper,o.op=.range t x->Does P a.eval o w (aY P G ι m w outs):=by
 intro o j;obtain⟨g,n⟩:=w9 s f;rcases vL q with⟨b,h⟩ | ⟨id,b,h⟩;cases h;have b:H8 c ls env=.nilMap:=b;refine O7 (v:=.pointer (some ⟨w.heap.size,0,none⟩)) ?_ (Mv d none 0 (by simp));simp [execOp,j,Instr.range,run_underlying l,g,b,l9];obtain⟨p,i,h⟩:=AA h;cases h;have b:H8 c ls env=.map id:=b;obtain⟨r,u⟩:=JN d i;rw [I9];refine O7 (v:=.pointer (some ⟨w.heap.size,0,none⟩)) ?_ (Mv d (some id) p.length (by intro x f;cases f;exact⟨_,i,rfl⟩));simp [execOp,j,Instr.range,run_underlying l,g,b,l9,r]
theorem JQ (n:Nat):∀l:List Nat,rz n l=l.contains n
 | []=>rfl
 | x::l=>by show bi (Nat.beq x n) true (rz n l)=_;rw [JQ n l,uG,List.contains_cons];by_cases h:x=n;subst h;simp;rw [if_neg h,beq_eq_false_iff_ne.2 (λe=>h e.symm),ahm]
theorem xO (m:Mem)(id mp since:Nat)(a:List Nat)(e:d9×d9)(es:List (d9×d9))(i:Nat):
  nexts m id mp since a (e::es) i=bi (rz i a) (nexts m id mp since a es (i+1))
   (⟨.tuple [.bool true,e.1,e.2],m.set id (.iter (some mp) since (i::a))⟩::nexts m id mp since a es (i+1)):=rfl
theorem AP {m:Mem}{id mp since:Nat}{seen:List Nat}:∀{es:List (d9×d9)} {i j:Nat} {e:d9×d9},es[j]?=some e->seen.contains (i+j)=false->
  (⟨.tuple [.bool true,e.1,e.2],m.set id (.iter (some mp) since ((i+j)::seen))⟩:VM)∈nexts m id mp since seen es i
 | [],i,j,e,h,_=>by simp at h
 | x::es,i,0,e,h,hs=>by simp at h;subst h;rw [xO,JQ,show seen.contains i=false from hs];exact ac2
 | x::es,i,j+1,e,h,hs=>by
  rw [xO];have:=AP (es:=es) (i:=i+1) (j:=j) (m:=m) (id:=id) (mp:=mp) (since:=since) (by simpa using h) (by rw [show i+1+j=i+(j+1) from by omega];exact hs);rw [show i+1+j=i+(j+1) from by omega] at this;cases rz i seen with
  | true=>exact this
  | false=>exact Z8 _ this
theorem Es {m:Mem}{id mp since:Nat}{seen:List Nat}:∀{es:List (d9×d9)} {i:Nat},(∀j,j<es.length->seen.contains (i+j)=true)->nexts m id mp since seen es i=[]
 | [],i,h=>rfl
 | e::es,i,h=>by rw [xO,JQ,show seen.contains i=true from h 0 (by simp)];exact Es λj hj=>by rw [show i+1+j=i+(j+1) from by omega];exact h (j+1) (by simpa using hj)
theorem Et (n:Nat)(a:0<n)(w:World):∃k w',(choose (.mapNext n)).run P w=.ok k w'∧k<n∧(w'=w∨w'={w with drawn:=w.drawn+1}):=by rw [run_choose];by_cases h:n<=1;exact⟨0,w,by simp [Question.forced,h],a,.inl rfl⟩;exact⟨_,_,by simp only [Question.forced,h,decide_false,abA,if_false];rfl,ahf _ a,.inr rfl⟩
theorem Vi (u:RM P G ι m w.heap){id mp since:Nat}{seen:List Nat}{es:List (d9×d9)}(V:m.lim<=id)(q:m.get id=some (.iter (some mp) since seen))
  (D:m.get mp=some (.map es)) (J:es.length=since) (t:TypeId):
  ∃v w',(Instr.next (.pointer (some ⟨(ι id).b,0,none⟩)) false t).run P w=.ok v w'∧aY P G ι m w (Ju m (nexts m id mp since seen es 0)) v w':=by
 obtain⟨b1,b2,A,st,S,b4,b5⟩:=u.blk id _ q;obtain⟨c1,c2⟩:=u.blk mp _ D;have a1:st=since:=b5 (by simp);subst a1;subst J;have T:=fC (P:=P) S (by intro _ _ _ e;cases e);have U:=fC (P:=P) c1 (by intro _ _ _ e;cases e);generalize hL:J6 ι es 0=L at *;have a:∀x∈L,x.born<es.length:=by
  intro x p;obtain⟨j,g⟩:=aa7 p;rw [← hL,lV] at g;cases he:es[j]? with
  | none=>simp [he] at g
  | some e=>simp [he] at g;rw [← g];simpa using (J3.1 he).1
 have B:(!A.isEmpty && !L.toArray.isEmpty&&L.toArray.all (λe=>decide (e.born≥es.length)))=false:=by
  cases L with
  | nil=>simp
  | cons x L=>have:=a x (by simp);simp;intro _ h;omega
 have O:∀l:List MapEntry,(∀x∈l,x∈L)->l.filter (λe=>decide (e.born<es.length))=l:=λl Y=>afH.2 λx p=>by simpa using a x (Y x p)
 have N:∀l:List MapEntry,(∀x∈l,x∈L)->l.filter (λe=>decide (e.born≥es.length))=[]:=λl Y=>afZ.2 λx p=>by have:=a x (Y x p);simp;omega
 have n:=λx (p:x∈L.filter (λe=>!A.contains e.born))=>(adv.1 p).1;simp only [Instr.next,X8,T,K9,abB,U];rw [if_neg (by rw [B];simp)];simp only [List.filter_toArray,O _ n,N _ n];generalize hlf:L.filter (λe=>!A.contains e.born)=left at *;generalize hc:((if left.toArray.isEmpty=true then #[none] else #[])++Array.map some (left.toArray ++ [].toArray):Array (Option MapEntry))=cands;have c:cands=(if left=[] then #[none] else (left.map some).toArray):=by rw [← hc];cases left<;>simp
 have Q:0<cands.size:=by rw [c];split<;>simp_all;exact afN (by simp;assumption)
 obtain⟨k,w1,X,r,s⟩:=Et (P:=P) cands.size Q w;simp only [X8,X,K9];have f:w1.heap=w.heap:=by rcases s with rfl | rfl<;>rfl
 have z:w1.os=w.os∧w1.output=w.output∧w1.tape=w.tape:=by rcases s with rfl | rfl<;>exact⟨rfl,rfl,rfl⟩
 have F:∀x,x∈A.toList↔x∈seen:=λx=>by rw [← b4];simp
 by_cases hl0:left=[];rw [if_pos hl0] at c;have W:k=0:=by rw [c] at r;simpa using r
 rw [c,W];have y:nexts m id mp es.length seen es 0=[]:=Es λj g=>by
  have p:(J6 ι es 0)[j]?=some {key:=l9 ι es[j].1,val:=l9 ι es[j].2,born:=0+j}:=by rw [lV];simp [g]
  have d:({key:=l9 ι es[j].1,val:=l9 ι es[j].2,born:=0+j}:MapEntry)∈L:=by rw [← hL];exact Y6 p
  rw [hl0] at hlf;have:=afZ.1 hlf _ d;simp at this ⊢;rw [← F];simpa using this
 refine⟨.tuple #[.bool false],w1,by simp,⟨.tuple [.bool false],m⟩,by rw [y];exact aP.2 rfl,ι,?_,by simp [d9.lt,bg],by simp [l9,p8]⟩;rcases s with rfl | rfl;exact Step.refl u;exact Step.drew u _;rw [if_neg hl0] at c;have H:k<left.length:=by rw [c] at r;simpa using r
 have E:cands[k]?=some (some left[k]):=by rw [c];simp [H]
 have d:left[k]∈L∧A.contains left[k].born=false:=by have:=adv.1 (show left[k]∈L.filter (λe=>!A.contains e.born) from by rw [hlf];exact ac8 H);simpa using this
 generalize left[k]=x at *;obtain⟨j,g⟩:=aa7 d.1;rw [← hL,lV] at g;cases he:es[j]? with
 | none=>simp [he] at g
 | some e=>
  simp [he] at g;subst g;have M:seen.contains (0+j)=false:=by have h2:=d.2;rw [aby] at h2 ⊢;intro C;apply h2;simp at C ⊢;have:=(F j).2 C;simpa using this
  have Z:(nexts m id mp es.length seen es 0)≠[]:=List.ne_nil_of_mem (AP he M);have a0:Ju m (nexts m id mp es.length seen es 0)=nexts m id mp es.length seen es 0:=by
   cases h:nexts m id mp es.length seen es 0 with
   | nil=>exact absurd h Z
   | cons=>rfl
  have R:=rQ (P:=P) (w:=w1) (o:=.mapIter (some (ι mp).b) es.length (A.push j) es.length) (by rw [f];exact S) (by intro _ _ _ e;cases e);refine⟨.tuple #[.bool true,l9 ι e.1,l9 ι e.2],{w1 with heap:=w1.heap.setIfInBounds (ι id).b (.mapIter (some (ι mp).b) es.length (A.push j) es.length)},?_,_,by rw [a0];exact AP he M,ι,Step.set (w':={w1 with heap:=w1.heap.setIfInBounds (ι id).b (.mapIter (some (ι mp).b) es.length (A.push j) es.length)}) u V q rfl rfl (o:=.mapIter (some (ι mp).b) es.length (A.push j) es.length) ⟨by rw [f],z.1,z.2.1,z.2.2⟩ ?_ (by intro _ _ _ h;cases h),?_,?_⟩;rw [E];simp [R];refine⟨b1,λx p=>?_,A.push j,es.length,?_,?_,λ_=>rfl⟩;cases p;exact Mem.mX u.ok q rfl mp ⟨_,D,rfl⟩;simpa using gy S;simp [b4];have K:=c2 e (Y6 he);have I:=Mem.au (ι:=ι) (ι':=ι) (λi hi=>Mem.mX (b':=.iter (some mp) es.length ((0+j)::seen)) u.ok q rfl i hi) λ_ _=>rfl;exact⟨trivial,d9.O6 I _ K.1,d9.O6 I _ K.2,trivial⟩;simp [l9,p8]
theorem Pd (s:St P ι (m.nm ι) slots done ls env a.tmps)(d:RM P G ι m w.heap)
  {x:Operand} {n:Q8} (C:N8 P slots done x=some n) {cf:G9} {outs:List VM} (B:nG (.next n) cf ls env m=some outs):
  ∀o:Oper,o.op=.next x false->Does P a.eval o w (aY P G ι m w outs):=by
 intro o q;obtain⟨p,t⟩:=w9 s C;obtain⟨id,off,f,h⟩:=dW B;have f:H8 n ls env=.ptr id off:=f;obtain⟨A,h⟩:=D9 h;obtain rfl:off=0:=q8 A;obtain⟨l,h⟩:=jR h;rcases Ej h with⟨sn',l',hit,h⟩ | ⟨mp,since,seen,hit,h⟩;cases h;obtain⟨g,D,H,I,r,E,F⟩:=d.blk id _ hit;have k:=fC (P:=P) r (by intro _ _ _ e;cases e);have c:a.eval x=.pointer (some ⟨(ι id).b,0,none⟩):=by rw [p,f];simp [l9,K4.at,g,d.spot _ _ hit rfl]
 refine O7 (v:=.tuple #[.bool false]) (w':=w) ?_ ⟨_,aP.2 rfl,ι,Step.refl d,by simp [d9.lt,bg],by simp [l9,p8]⟩;simp [execOp,q,c,Instr.next,k];obtain⟨u,j,h⟩:=AA h;obtain⟨i,h⟩:=D9 h;have i:u.length=since:=by rw [← I9];exact q8 i
 cases h;obtain⟨g,_⟩:=d.blk id _ hit;have c:a.eval x=.pointer (some ⟨(ι id).b,0,none⟩):=by rw [p,f];simp [l9,K4.at,g,d.spot _ _ hit rfl]
 obtain⟨v,w',y,z⟩:=Vi d (jF l) hit j i o.type;refine O7 (v:=v) (w':=w') ?_ z;simp [execOp,q,c,y]
end
section
variable {P:Program}{G:Mem}{ι:K4}{m:Mem}{w:World}{slots:List Nat}{done:List (Option Nat)}{ls:List d9}{env:T d9}{a:Act}
theorem oz (l:List UInt8):bytesOf l=l.map λb=>d9.int .u8 b.toNat:=by
 induction l with
 | nil=>rfl
 | cons b l ih=>simp [bytesOf,ih]
theorem uN {v:d9}{n:Nat}(h:lenOf v=some n)(w:World):(Builtin.lenOf (l9 ι v)).run P w=.ok n w:=by cases v<;>simp only [lenOf,J4,reduceCtorEq] at h<;>subst h<;>simp [l9,Builtin.lenOf,nZ]
theorem iU (e:RM P G ι m w.heap){es n:Nat}{v:d9}{l:List d9}(h:bG m es n v=some l):
  (Builtin.firstCells es n (l9 ι v)).run P w=.ok (p8 ι l).toArray w∧bg (m.nm ι) l:=by
 cases v<;>simp only [bG,J4,reduceCtorEq] at h
 subst h;refine⟨?_,by rw [oz,bX];intro v f;obtain⟨b,_,rfl⟩:=ab1.1 f;simp [d9.lt]⟩;simp only [l9,Builtin.firstCells,aaS];congr 1;simp [oz,bC,l9,Function.comp_def,ByteArray.data_extract,afK];subst h;exact⟨by simp [l9,Builtin.firstCells,p8],trivial⟩;obtain⟨a,c,d⟩:=jT e h;exact⟨gW a d,c⟩;obtain⟨a,c,d⟩:=jT e h;exact⟨gW a d,c⟩
theorem Pe (s:St P ι (m.nm ι) slots done ls env a.tmps)(z:RM P G ι m w.heap){c:Call}{t u e:TypeId}{x y:Operand}{l p:Q8}{es:Nat}(I:c.callee=.builtin .copy)
  (j:c.argTypes.toList=[t,u]) (g:c.args.toList=[x,y]) (L:P.underlying t=some (.slice e)) (q:aS P e=some es)
  (U:N8 P slots done x=some l) (V:N8 P slots done y=some p) {cf:G9} {outs:List VM} (D:nG (.copy es l p) cf ls env m=some outs):
  ∀o:Oper,o.op=.call c->Does P a.eval o w (aY P G ι m w outs):=by
 intro o K;have j:c.argTypes=#[t,u]:=by rw [← j,aa6]
 have g:c.args=#[x,y]:=by rw [← g,aa6]
 obtain⟨E,_⟩:=w9 s U;obtain⟨F,_⟩:=w9 s V;obtain⟨n,B,D⟩:=A8 D;have J:=uN (P:=P) (ι:=ι) B w;have H:∀id b d cap,l9 ι (H8 l ls env)=.slice (some (ι.at id b)) d cap->UD.go es m n id b d (H8 p ls env)=some outs->Does P a.eval o w (aY P G ι m w outs):=by intro id b d cap f h;obtain⟨A,Q,h⟩:=A8 h;obtain⟨M,N⟩:=iU z Q;obtain⟨X,w',T,r,k⟩:=mJ z h N;cases T;refine O7 (v:=.int .i64 (Nat.min n d)) (w':=w') ?_ ⟨_,aP.2 rfl,ι,k,trivial,rfl⟩;simp [execOp,K,resolve,I,g,j,invoke,builtin,Builtin.copy_,run_underlying L,E,F,f,J,run_sizeOf q,M,r,goInt]
 rcases rA D with⟨f,h⟩ | ⟨id,b,d,cap,f,h⟩ | ⟨id,b,d,cap,f,h⟩;cases h;have f:H8 l ls env=.nilSlice:=f;have S:∃C,(Builtin.firstCells es 0 (l9 ι (H8 p ls env))).run P w=.ok C w:=by
  have W:bG m es 0 (H8 p ls env)=some []:=by generalize H8 p ls env=v at B;have O:∀i b,R9 m i b 0=some []:=λi b=>rfl;cases v<;>simp only [lenOf,reduceCtorEq] at B<;>simp [bG,bytesOf,O]
  exact⟨_,(iU z W).1⟩
 obtain⟨C,R⟩:=S;refine O7 (v:=.int .i64 0) (w':=w) ?_ ⟨_,aP.2 rfl,ι,Step.refl z,trivial,rfl⟩;simp [execOp,K,resolve,I,g,j,invoke,builtin,Builtin.copy_,run_underlying L,E,F,f,J,run_sizeOf q,l9,goInt,R];have f:H8 l ls env=.slice id b d cap:=f;exact H id b d cap (by rw [f];rfl) h;have f:H8 l ls env=.sliceU id b d cap:=f;exact H id b d (((ι id).cap-b) / cap) (by rw [f];simp only [l9]) h
theorem zl (z:List d9)(k:Nat):Builtin.zeroCells (p8 ι z).toArray k=(p8 ι (U1 z k)).toArray:=by have:=En (ι:=ι) z k;rw [← this];simp [Builtin.zeroCells]
theorem MB (s:St P ι (m.nm ι) slots done ls env a.tmps)(C:RM P G ι m w.heap){c:Call}{t e:TypeId}{x:Operand}{l:Q8}{z:List d9}(p:c.callee=.builtin .clear)
  (j:c.argTypes.toList=[t]) (i:c.args.toList=[x]) (r:P.underlying t=some (.slice e)) (I:qA P e=some z)
  (H:N8 P slots done x=some l) {cf:G9} {outs:List VM} (F:nG (.clear z l) cf ls env m=some outs):
  ∀o:Oper,o.op=.call c->Does P a.eval o w (aY P G ι m w outs):=by
 intro o q;have j:c.argTypes=#[t]:=by rw [← j,aa6]
 have i:c.args=#[x]:=by rw [← i,aa6]
 obtain⟨n,_⟩:=w9 s H;obtain⟨J,u,y,A⟩:=dz (P:=P) (w:=w) I ι;have B:∀id d b cap,l9 ι (H8 l ls env)=.slice (some (ι.at id d)) b cap->jy m id d (U1 z b) (λD=>one (.tuple []) D)=some outs->Does P a.eval o w (aY P G ι m w outs):=by
  intro id d b cap f h;obtain⟨D,w',E,g,k⟩:=mJ C h (rO (A _) b);cases E;refine O7 (v:=.tuple #[]) (w':=w') ?_ ⟨_,aP.2 rfl,ι,k,by simp [d9.lt,bg],by simp [l9,p8]⟩;cases b with
  | zero=>
   rw [za] at g;have:w'=w:=by simp [p8,storeCells] at g;exact g.symm
   subst this;simp [execOp,q,resolve,p,i,j,invoke,builtin,Builtin.clear_,run_underlying r,n,f]
  | succ b=>simp [execOp,q,resolve,p,i,j,invoke,builtin,Builtin.clear_,run_underlying r,n,f,u,y,zl,g]
 rcases rA F with⟨f,h⟩ | ⟨id,d,b,cap,f,h⟩ | ⟨id,d,b,cap,f,h⟩;cases h;have f:H8 l ls env=.nilSlice:=f;refine O7 (v:=.tuple #[]) (w':=w) ?_ ⟨_,aP.2 rfl,ι,Step.refl C,by simp [d9.lt,bg],by simp [l9,p8]⟩;simp [execOp,q,resolve,p,i,j,invoke,builtin,Builtin.clear_,run_underlying r,n,f,l9];have f:H8 l ls env=.slice id d b cap:=f;exact B id d b cap (by rw [f];rfl) h;have f:H8 l ls env=.sliceU id d b cap:=f;exact B id d b (((ι id).cap-d) / cap) (by rw [f];simp only [l9]) h
end
section
variable {P:Program}{G:Mem}{ι:K4}{m:Mem}{w:World}
theorem Step.ab0 {G:Mem}(h:RM P G ι m w.heap){id:Nat}{b b':Q6}(A:m.lim<=id)(E:m.get id=some b)(H:U5 b=true)(V:bZ b'=false){o:Obj}{w':World}
  (C:Put w w' (ι id).b o) {l:Loc} (B:l.b=(ι id).b) (Q:l.spot=none)
  (I:dI P (ι.upd m.nx l) ((((m.set id .dead).new b')).nm (ι.upd m.nx l)) (w.heap.setIfInBounds (ι id).b o) l b')
  (W:∀c e fz,o=.cells c e fz->∀k,k<c.size->¬ (fz.1<=k∧k<fz.2)):
  Step P G ι m w (ι.upd m.nx l) ((m.set id .dead).new b') w':=by
 have L:=Mem.I7 h.ok E;have s:=Mem.V4 h.ok L .dead;have r:T.Ok (m.set id .dead).t (m.set id .dead).nx:=h.ok.put id .dead L;have g:∀i,((m.set id .dead).new b').get i=if i=m.nx then some b' else if i=id then some .dead else m.get i:=λi=>by rw [Mem.K5 r,s];rfl
 have F:∀i x,m.get i=some x->i≠m.nx:=λi x d e=>by have:=Mem.I7 h.ok d;omega
 have q:∀j,m.has j->ι.upd m.nx l j=ι j:=λj ⟨x,d,_⟩=>ι.upd_ne l (F j x d);have u:∀i,m.has i->((m.set id .dead).new b').has i:=λi ⟨x,d,hv⟩=>by by_cases he:i=id;exact⟨.dead,by rw [g,if_neg (F i x d),if_pos he],rfl⟩;exact⟨x,by rw [g,if_neg (F i x d),if_neg he];exact d,hv⟩
 have z:=h.own id b A E H;have J:(ι id).b<w.heap.size:=eG (h.blk id b E) H;have f:∀i x,((m.set id .dead).new b').get i=some x->U5 x=true->(i=m.nx∧x=b')∨(i≠m.nx∧i≠id∧m.get i=some x):=λi x d a=>by rw [g] at d;split at d;cases d;exact .inl ⟨by assumption,rfl⟩;split at d;cases d;cases a;exact .inr ⟨by assumption,by assumption,d⟩
 refine⟨⟨r.push b',?_,?_,h.glim,ahq h.limn,h.gle,λi p=>by rw [g,if_neg (by have:=h.glim;have:=h.limn;omega),if_neg (by have:=h.glim;omega)];exact h.base i p,λi p=>u i (h.ghas i p),λi p=>by rw [q i (h.ghas i p)];exact h.glob i p,λi x d a=>by
   rcases f i x d a with⟨rfl,_⟩ | ⟨h1,_,h3⟩;rw [ι.Z0];exact Q;rw [ι.upd_ne l h1];exact h.spot i x h3 a,h.LU λD N R=>by
   rw [C.heap,getElem?_set_ne];intro e;exact R ⟨id,b,A,E,H,e⟩⟩,q,u,ajr _,rfl,?_,by rw [C.heap];simp,?_,?_,C.os,C.out,C.tape⟩
 intro i x d;rw [g] at d;rw [C.heap];split at d;rename_i e;subst e;cases d;simpa using I;rename_i e;split at d;cases d;trivial;rename_i U;rw [ι.upd_ne l e];exact (h.blk i x d).mono (n:=m.nm ι) q (Mem.au u q) (λa=>getElem?_set_ne _ _ _ _ (λM=>z.alone i x U d a M.symm));intro i x p d a;have p:m.lim<=i:=p;rcases f i x d a with⟨rfl,rfl⟩ | ⟨h1,h2,h3⟩;refine⟨λj y O S v=>?_,λc e fz K=>?_⟩;rcases f j y S v with⟨h4,_⟩ | ⟨h4,h5,h6⟩;exact absurd h4 O;rw [ι.upd_ne l h4,ι.Z0,B];exact z.alone j y h5 h6 v;rw [ι.Z0,B,C.heap,Z4 J] at K;exact W c e fz (Y8 K);refine⟨λj y O S v=>?_,λc e fz K=>?_⟩;rw [ι.upd_ne l h1];rcases f j y S v with⟨rfl,_⟩ | ⟨h4,h5,h6⟩;rw [ι.Z0,B];exact (h.own i x p h3 a).alone id b (λe=>h2 e.symm) E H;rw [ι.upd_ne l h4];exact (h.own i x p h3 a).alone j y O h6 v;rw [ι.upd_ne l h1,C.heap,getElem?_set_ne _ _ _ _ (λM=>z.alone i x h2 h3 a M.symm)] at K;exact (h.own i x p h3 a).free c e fz K;intro i p;rw [g,if_neg (by have:=h.limn;omega),if_neg (by omega)];intro D _ R;rw [C.heap,getElem?_set_ne];intro e;exact R ⟨id,b,A,E,H,e⟩;rintro D ⟨i,x,p,d,a,rfl⟩;rcases f i x d a with⟨rfl,rfl⟩ | ⟨h1,h2,h3⟩;rw [ι.Z0,B];exact .inl ⟨id,b,A,E,H,rfl⟩;rw [ι.upd_ne l h1];exact .inl ⟨i,x,p,h3,a,rfl⟩
def Fits (P:Program)(ι:K4)(m:Mem)(es need:Nat)(cells:List d9)(b':Q6):Prop:=
 bZ b'=false∧∀(ι':K4) (n':Nm) (h':Array Obj) (l':Loc) (c':Array Value) (e:TypeId) (fz:Nat×Nat),(m.nm ι).le n'->(∀i,m.has i->ι' i=ι i)->
  h'[l'.b]?=some (.cells c' e fz)->l'.base+l'.cap<=c'.size->need*es<=l'.cap->(∀(j:Nat) (v:d9),cells[j]?=some v->c'[l'.base+j]?=some (l9 ι v))->dI P ι' n' h' l' b'
theorem vN {es need:Nat}{cells:List d9}{h:List (List d9)}(C:rowsOf es need cells=some h)(f:bg (m.nm ι) cells):Fits P ι m es need cells (.cells es need (T.ofList h)):=by
 refine⟨rfl,λD G E F t e u o c B b a k=>?_⟩;obtain⟨x,y,z⟩:=gX _ _ _ _ C;refine⟨t,e,u,B,b,⟨a,h.length,by omega,T.eF h,by rw [← y];exact uz (T.eF h)⟩,λi s=>?_⟩;obtain⟨p,w,q,r⟩:=z i s;refine⟨p,by rw [T.bA];exact w,q,bX.2 λv g=>?_,λj d=>?_⟩;obtain⟨j,d⟩:=aa7 g;have l:j<es:=ae7 (J3.1 d).1 q;rw [r j l] at d;exact d9.O6 o _ (O8 f (Y6 d));rw [r j d];have A:i*es+j<cells.length:=by
  rw [x]
  calc i*es+j<i*es+es:=by omega
   _=(i+1)*es:=by rw [ac1]
   _<=need*es:=aa1 _ s
 have g:=Hl A;rw [k _ _ g,g,abB,R6 (n:=m.nm ι) c _ (O8 f (Y6 g))]
theorem RX (o:RM P G ι m w.heap){id es k:Nat}{rows:T (List d9)}(n:m.get id=some (.cells es k rows)):∀len,len<=k->
  ∃l:List d9,l.length=len*es∧bg (m.nm ι) l∧om ι w id 0 l∧∀i,i<len->∃row,rows.get i=some row∧row.length=es∧∀j,j<es->l[i*es+j]?=row[j]?:=by
 intro len;induction len with
 | zero=>intro _;exact⟨[],by simp,trivial,λj v a=>by simp at a,λi u=>by omega⟩
 | succ len ih=>
  intro y;obtain⟨l,h,q,r,s⟩:=ih (by omega);obtain⟨c,e,C,_,_,_,t⟩:=o.blk id _ n;obtain⟨row,f,g,p,_⟩:=t len (by omega);refine⟨l++row,by simp [h,g,ac1],bX.2 λv a=>?_,λj v a=>?_,λi u=>?_⟩;rcases aa3.1 a with a | a;exact O8 q a;exact O8 p a;by_cases d:j<l.length;rw [aaT d] at a;exact r j v a;rw [abr (by omega)] at a;have x:=(J3.1 a).1;have:=(JL o n (i:=len) (by omega) (by omega:j-l.length<es) f a).1
  rwa [show len*es+(j-l.length)=0+j from by omega] at this
  by_cases hil:i<len;obtain⟨b,z,A,B⟩:=s i hil;refine⟨b,z,A,λj d=>?_⟩;have:i*es+j<l.length:=by
   rw [h]
   calc i*es+j<i*es+es:=by omega
    _=(i+1)*es:=by rw [ac1]
    _<=len*es:=aa1 _ hil
  rw [aaT this];exact B j d;obtain rfl:i=len:=by omega
  refine⟨row,f,g,λj d=>?_⟩;rw [abr (by omega)];congr 1;omega
theorem Vj (K:RM P G ι m w.heap){id es k len:Nat}{rows:T (List d9)}(I:m.get id=some (.cells es k rows))(y:len<=k)(z:0<len){l new:List d9}(J:l.length=len*es)
  (p:∀i,i<len->∃row,rows.get i=some row∧row.length=es∧∀j,j<es->l[i*es+j]?=row[j]?) (x:new.length=es) (t:bg (m.nm ι) l) (g:bg (m.nm ι) new):
  Fits P ι m es (len+1) (l++new) (.cells es (len+1) (rows.put len new)):=by
 obtain⟨_,_,_,_,_,⟨_,N,R,c,_⟩,_⟩:=K.blk id _ I;refine⟨rfl,λO V Q U C e D s f H r o q=>⟨C,e,D,H,r,⟨o,?_⟩,λi S=>?_⟩⟩;rcases ad5 len N with h | h;exact⟨N,by omega,c.put _ _ h,λM E=>by omega⟩;obtain rfl:len=N:=by omega
 exact⟨len+1,J2 _,c.push _,λM E=>by omega⟩;by_cases hil:i=len;subst hil;refine⟨new,T.aL c _ _ (by omega),x,dH s _ g,λj a=>?_⟩;have d:new[j]?=some new[j]:=Hl (by omega);have:(l++new)[i*es+j]?=some new[j]:=by rw [abr (by omega),← d];congr 1;omega
 rw [q _ _ this,d,abB,R6 (n:=m.nm ι) f _ (O8 g (Y6 d))];obtain⟨row,L,A,B⟩:=p i (by omega);have b:∀j,j<es->i*es+j<l.length:=λj a=>by
  rw [J]
  calc i*es+j<i*es+es:=by omega
   _=(i+1)*es:=by rw [ac1]
   _<=len*es:=aa1 _ (by omega)
 refine⟨row,by rw [T.bn c _ _ _ (by omega) (λe=>hil e.symm)];exact L,A,bX.2 λv d=>?_,λj a=>?_⟩;obtain⟨j,a⟩:=aa7 d;have u:j<es:=ae7 (J3.1 a).1 A;rw [← B j u] at a;exact d9.O6 s _ (O8 t (Y6 a));have d:l[i*es+j]?=some (l[i*es+j]'(b j a)):=Hl (b j a);have F:(l++new)[i*es+j]?=some (l[i*es+j]'(b j a)):=by rw [aaT (b j a)];exact d
 rw [q _ _ F,← B j a,d,abB,R6 (n:=m.nm ι) f _ (O8 t (Y6 d))]
end
section
variable {P:Program}{G:Mem}{ι:K4}{m:Mem}{w:World}{a:Act}
theorem Hz (need:Nat):∀(r c:Nat),Builtin.growBy need r c<=max c (need+(need+768) / 4)
 | 0,c=>by simp only [Builtin.growBy];omega
 | r+1,c=>by simp only [Builtin.growBy];split;omega;have:=Hz need r (c+(c+768) / 4);omega
theorem nextslicecap_le (need old:Nat)(h:old<need):Builtin.nextslicecap need old<=2*need+2048:=by unfold Builtin.nextslicecap;split;omega;split;omega;have:=Hz need 4 old;omega
def Eu:TypeDesc->Bool
 | .int _=>true
 | _=>false
def acj (P:Program)(w:World)(zs:Bool)(by' n:Nat)(x:Value):Prop:=
 (zs=false∧(Builtin.lenOf x).run P w=.ok n w)∨(zs=true∧(∃k,x=.int k n)∧n<9223372036854775808∧n*by'<=281474976710656)
def jV (zs:Bool)(e:TypeId)(es sLen sCap:Nat)(base:Option Addr)(x:Value)(n:Nat):Sem Value:=do
 let appended:Sem (Array Value):=
  if !zs then Builtin.firstCells es n x
  else if n*es=0 then pure #[]
  else do pure (Builtin.zeroCells (← zeroValue e).cells n)
 let need:=sLen+n
 if need<=sCap then
  let new ← appended
  if let some a:=base then storeCells (a.add (sLen*es)) new.toList
  pure (.slice base need sCap)
 else
  if (need:Int)>IntKind.i64.max∧(zs∨(← typeInfo e).bytes=0) then runtimePanic (.error "growslice: len out of range")
  if Builtin.nextslicecap need sCap*(← typeInfo e).bytes>2^48 then (if zs then runtimePanic (.error "growslice: len out of range") else do
   if !(← Builtin.mayShare es sLen n base x) then mark .noRoom
   unsupported (.resourceLimit "append: a slice or a string whose bytes no memory bears"))
  let newCap ← choose (.appendCap need sCap e)
  askRoom (newCap*(← typeInfo e).bytes)
  let old ← Builtin.firstCells es sLen (.slice base sLen sCap)
  let new ← appended
  let rest:=Builtin.zeroCells (← zeroValue e).cells (newCap-need)
  pure (.slice (some (← newRow e (old++new++rest))) need newCap)
theorem BU {t u e T:TypeId}{d:TypeDesc}{es a n sLen sCap:Nat}{base:Option Addr}{x:Value}(o:P.underlying t=some (.slice e))(c:aS P e=some es)(m:P.underlying u=some d)
  (i:fI P e=some a) (p:acj P w (Eu d) a n x):
  (Builtin.append_ #[t,u] T #[.slice base sLen sCap,x]).run P w=(jV (Eu d) e es sLen sCap base x n).run P w:=by
 obtain⟨g,j,l⟩:=vK (w:=w) i;rcases p with⟨hz,h1⟩ | ⟨hz,⟨k,rfl⟩,h2,h3⟩;cases d with
 | int=>cases hz
 | _=>simp only [Builtin.append_,adh,afV,abF,X8,run_underlying o,K9,run_sizeOf c,run_underlying m,aaS,abA,if_false,h1,jV,Eu];rfl
 cases d with
 | int k'=>
  have q:IntKind.i64.wrap (n:Int)=n:=yQ _ ⟨by omega,by omega⟩;have b:¬ ((n:Int)*(g.bytes:Int)>2^48):=by
   rw [l];have:((n*a:Nat):Int)=(n:Int)*(a:Int):=by simp
   rw [← this];have h:(2:Int)^48=281474976710656:=rfl;rw [h];omega
  have f:¬ ((n:Int)<0):=by omega
  simp only [Builtin.append_,adh,afV,abF,X8,run_underlying o,K9,run_sizeOf c,run_underlying m,aaS,if_true,asInt,asIntOf,q,f,if_false,j,b,ahp,jV,Eu];rfl
 | _=>cases hz
theorem jW {zs:Bool}{e:TypeId}{es sLen sCap n:Nat}{base:Option Addr}{x:Value}{new:List Value}{w':World}(b:sLen+n<=sCap)
  (c:(if (!zs)=true then Builtin.firstCells es n x else if n*es=0 then pure #[] else do pure (Builtin.zeroCells (← zeroValue e).cells n):Sem (Array Value)).run P w=.ok new.toArray w)
  (a:match base with | some ad=>(storeCells (ad.add (sLen*es)) new 0).run P w=.ok () w' | none=>w'=w):
  (jV zs e es sLen sCap base x n).run P w=.ok (.slice base (sLen+n) sCap) w':=by
 unfold jV;simp only [b,if_true];rw [X8,c,K9];cases base with
 | none=>subst a;simp
 | some ad=>simp only [] at a;simp [a]
theorem jX {zs:Bool}{e:TypeId}{es by' sLen sCap n:Nat}{base:Option Addr}{x:Value}{z:List d9}{old new:List Value}(i:fI P e=some by')(G:qA P e=some z)
  (f:¬ sLen+n<=sCap) (A:(2*(sLen+n)+2048)*by'<=281474976710656) (j:1<=by')
  (m:∀w':World,w'.heap=w.heap->(Builtin.firstCells es sLen (.slice base sLen sCap)).run P w'=.ok old.toArray w')
  (l:∀w':World,w'.heap=w.heap->(if (!zs)=true then Builtin.firstCells es n x else if n*es=0 then pure #[] else do pure (Builtin.zeroCells (← zeroValue e).cells n):Sem (Array Value)).run P w'=.ok new.toArray w'):
  ∃(capN:Nat) (rest:List Value),sLen+n<=capN∧rest.length=(capN-(sLen+n))*z.length∧
   (jV zs e es sLen sCap base x n).run P w=.ok (.slice (some ⟨w.heap.size,0,none⟩) (sLen+n) capN)
    {w with heap:=w.heap.push (.cells (old++new++rest).toArray e),drawn:=w.drawn+1}:=by
 obtain⟨g,s,t⟩:=vK (w:=w) i;have F:(2*(sLen+n)+2048)*1<=(2*(sLen+n)+2048)*by':=Nat.mul_le_mul_left _ j;have h:=nextslicecap_le (sLen+n) sCap (by omega);have B:Builtin.nextslicecap (sLen+n) sCap*by'<=(2*(sLen+n)+2048)*by':=aa1 _ h;have C:¬ (((sLen+n:Nat):Int)>IntKind.i64.max):=by have:IntKind.i64.max=9223372036854775807:=rfl;rw [this];omega
 have D:¬ (Builtin.nextslicecap (sLen+n) sCap*g.bytes>2^48):=by rw [t];have o:(2:Nat)^48=281474976710656:=rfl;rw [o];omega
 obtain⟨H,u,v,_⟩:=dz (P:=P) (w:={w with drawn:=w.drawn+1}) G (λ_=>⟨0,0,0,none⟩);refine⟨sLen+n+w.tape w.drawn (.appendCap (sLen+n) sCap e)%(2^63-(sLen+n)),(Builtin.zeroCells H.cells (sLen+n+w.tape w.drawn (.appendCap (sLen+n) sCap e)%(2^63-(sLen+n))-(sLen+n))).toList,by omega,?_,?_⟩;simp [Builtin.zeroCells,v];unfold jV;simp only [f,if_false];have k:∀w',(typeInfo e).run P w'=.ok g w':=by
  intro w';obtain⟨I,y,_⟩:=vK (w:=w') i;have E:∀c d:World,∀a b,(typeInfo e).run P c=.ok a c->(typeInfo e).run P d=.ok b d->a=b:=by intro c d a b p q;unfold typeInfo at p q;simp only [X8,run_program,K9] at p q;split at p<;>split at q<;>simp_all
  rw [y,E w' w _ _ y s]
 have r:∀w':World,(choose (.appendCap (sLen+n) sCap e)).run P w'=.ok (sLen+n+w'.tape w'.drawn (.appendCap (sLen+n) sCap e)%(2^63-(sLen+n))) {w' with drawn:=w'.drawn+1}:=by intro w';rw [run_choose];simp [Question.forced,Question.cut]
 simp only [X8,k,K9,C,D,false_and,if_false,aaS,r,run_askRoom,m {w with drawn:=w.drawn+1} rfl,l {w with drawn:=w.drawn+1} rfl,u,dR];simp only [aiu,← List.append_toArray,aa6]
theorem Ev (l:RM P G ι m w.heap){es need capN:Nat}{cells:List d9}{b':Q6}(f:Fits P ι m es need cells b'){c:Array Value}{e:TypeId}{w':World}
  (p:UZ w w' (.cells c e)) (n:c.size=capN*es) (d:need<=capN) (g:∀(j:Nat) (v:d9),cells[j]?=some v->c[j]?=some (l9 ι v)):
  Step P G ι m w (ι.upd m.nx ⟨w.heap.size,0,capN*es,none⟩) (m.new b') w':=by
 obtain⟨o,f⟩:=f;have a:=Laid.new l.ok l.limn b' o;have b:∀j,m.has j->(ι.upd m.nx ⟨w.heap.size,0,capN*es,none⟩) j=ι j:=λj i=>ι.upd_ne _ λh=>a.free (h▸i);refine Step.lay l a p rfl rfl ?_ ?_;refine f _ _ _ _ c e _ (Mem.au a.has b) b dD ?_ ?_ λj v i=>?_;show 0+capN*es<=c.size;omega;exact aa1 _ d;rw [aa2];exact g j v i;intro q r s h k t;cases h;simp
theorem Fits.kill (o:RM P G ι m w.heap){es need q:Nat}{cells:List d9}{b' g:Q6}(d:Fits P ι m es need cells b')(p:m.lim<=q)(l:m.get q=some g):Fits P ι (m.set q .dead) es need cells b':=by have f:=Step.kill o p l;refine⟨d.1,λc s k r h e j b a=>d.2 c s k r h e j (Nm.le_trans (Mem.au f.has λ_ _=>rfl) b) λi n=>a i (f.has i n)⟩
theorem RY (f:RM P G ι m w.heap){es need capN q:Nat}{cells:List d9}{b' i:Q6}(k:Fits P ι m es need cells b')(g:m.lim<=q)(d:m.get q=some i){c:Array Value}{e:TypeId}{w':World}
  (l:UZ w w' (.cells c e)) (h:c.size=capN*es) (a:need<=capN) (b:∀(j:Nat) (v:d9),cells[j]?=some v->c[j]?=some (l9 ι v)):
  Step P G ι m w (ι.upd m.nx ⟨w.heap.size,0,capN*es,none⟩) ((m.set q .dead).new b') w':=
 (Step.kill f g d).trans (Ev (Step.kill f g d).rm (Fits.kill f k g d) l h a b)
theorem Yr (A:RM P G ι m w.heap){q rs k:Nat}{rows:T (List d9)}(K:m.lim<=q)(H:m.get q=some (.cells rs k rows)){c:Array Value}{e:TypeId}{f:Nat×Nat}(F:w.heap[(ι q).b]?=some (.cells c e f))
  {B C len n es:Nat} {old new:List d9} {b':Q6} (D:B+C<=c.size) (g:(len+n)*es<=C) (Q:old.length=len*es) (O:new.length=n*es) (s:K7 new=true)
  (r:∀(j:Nat) (v:d9),old[j]?=some v->c[B+j]?=some (l9 ι v)) (E:Fits P ι m es (len+n) (old++new) b'):
  ∃w',(storeCells ⟨(ι q).b,B+len*es,none⟩ (p8 ι new) 0).run P w=.ok () w'∧
   Step P G ι m w (ι.upd m.nx ⟨(ι q).b,B,C,none⟩) ((m.set q .dead).new b') w':=by
 have t:=A.own q _ K H rfl;have l:=t.free c e f F;have L:(len+n)*es=len*es+n*es:=ado _ _ _;have x:=ow (P:=P) (p8 ι new) c (B+len*es) 0 w F (by simp;omega) l (λv z=>by
  rw [bC] at z;obtain⟨u,R,rfl⟩:=ab1.1 z;exact AL (pJ s u R))
 refine⟨_,x,?_⟩;obtain⟨z,E⟩:=E;have I:=Step.kill A K H;have d:=Laid.new I.rm.ok I.rm.limn b' z;have a:∀j,m.has j->(ι.upd m.nx ⟨(ι q).b,B,C,none⟩) j=ι j:=λj ⟨y,hy,_⟩=>ι.upd_ne _ λh=>by have:=Mem.I7 A.ok hy;omega
 refine Step.ab0 (o:=.cells (over c (B+len*es+0) (p8 ι new)) e f) (w':={w with heap:=w.heap.setIfInBounds (ι q).b (.cells (over c (B+len*es+0) (p8 ι new)) e f)}) A K H rfl z ⟨rfl,rfl,rfl,rfl⟩ rfl rfl ?_ ?_;refine E _ _ _ _ _ e f (Mem.au (λi N=>d.has i (I.has i N)) a) a (gy F) ?_ g λj v p=>?_;simpa using D;show (over c (B+len*es+0) (p8 ι new))[B+j]?=some (l9 ι v);rw [zf _ _ _ (by simp;omega)];by_cases h1:j<old.length;rw [aaT h1] at p;rw [if_pos (by omega)];exact r j v p;rw [abr (by omega)] at p;have W:=(J3.1 p).1;rw [if_neg (by omega),if_pos (by simp;omega),aQ,show B+j-(B+len*es+0)=j-old.length from by omega,p];rfl;intro U V M h S J;cases h;exact l S (by simpa using J)
theorem nK {w':World}{l:Loc}{m':Mem}(d:l.spot=none)(f:Step P G ι m w (ι.upd m.nx l) m' w')(g:m'.has m.nx){es need:Nat}(c:1<=es)(e:need*es<=l.cap){cap:Nat}(a:cap=l.cap / es):
  aY P G ι m w [⟨.sliceU m.nx 0 need es,m'⟩] (.slice (some ⟨l.b,l.base,none⟩) need cap) w':=by
 refine⟨_,aP.2 rfl,_,f,⟨g,c,?_⟩,?_⟩;show 0+need*es<=((ι.upd m.nx l) m.nx).cap;rw [K4.Z0];omega;simp [l9,K4.at,a,d]
theorem JR (h:T.Ok m.t m.nx){b:Q6}(hb:bZ b=false):(m.new b).has m.nx:=⟨b,by rw [Mem.K5 h,if_pos rfl],hb⟩
theorem uO {n bytes es:Nat}(h:big n bytes es=true):(2*n+2048)*bytes<=281474976710656∧1<=es∧1<=bytes:=by
 unfold big at h;cases h1:Nat.ble (Nat.mul (Nat.add (Nat.mul 2 n) 2048) bytes) 281474976710656 with
 | false=>rw [h1] at h;cases h
 | true=>
  rw [h1] at h;cases h2:Nat.ble 1 es with
  | false=>rw [h2] at h;cases h
  | true=>rw [h2] at h;exact⟨Y2 h1,Y2 h2,Y2 h⟩
theorem Vk {β:Type}{b:Option Q6}{c:Nat->Nat->T (List d9)->Option β}{k:Nat->Option β}{r:β}(h:BH b c k=some r):
  (∃rs n rows,b=some (.cells rs n rows)∧c rs n rows=some r)∨∃p,b=some (.tail p)∧k p=some r:=by
 unfold BH at h;split at h;exact .inl ⟨_,_,_,rfl,h⟩;exact .inr ⟨_,rfl,h⟩;cases h
theorem zm {es n:Nat}{cells:List d9}{outs:List VM}(h:grown m es n cells=some outs):∃rl,rowsOf es n cells=some rl∧outs=[⟨.sliceU m.nx 0 n es,m.new (.cells es n (T.ofList rl))⟩]:=by obtain⟨rl,a,h⟩:=A8 h;cases h;exact⟨rl,a,rfl⟩
theorem MC {α:Type}{b:Bool}{x y:Option α}{r:α}(h:bi b x y=some r):(b=true∧x=some r)∨(b=false∧y=some r):=by
 cases b with
 | true=>exact .inl ⟨rfl,h⟩
 | false=>exact .inr ⟨rfl,h⟩
theorem HV {a b:Nat}(h:Nat.ble a b=false):¬ a<=b:=λc=>by rw [Y4 c] at h;cases h
end
section
variable {P:Program}{G:Mem}{ι:K4}{m:Mem}{w:World}{slots:List Nat}{done:List (Option Nat)}{ls:List d9}{env:T d9}{a:Act}
theorem QE (f:RM P G ι m w.heap){id rs k:Nat}{rows:T (List d9)}(d:m.get id=some (.cells rs k rows)):∃c e fz,w.heap[(ι id).b]?=some (.cells c e fz)∧(ι id).base+(ι id).cap<=c.size∧
  ∀j v,w.cell? (ι.at id j)=some v->c[(ι id).base+j]?=some v:=by
 obtain⟨c,e,fz,a,g,_⟩:=f.blk id _ d;refine⟨c,e,fz,a,g,λj v h=>?_⟩;simpa [World.cell?,K4.at,a,f.spot id _ d rfl] using h
theorem ME (o:RM P G ι m w.heap){e:TypeId}{es E n:Nat}{z:List d9}(hz:CJ P e=some z)(ad:aS P e=some es)(U:fI P e=some E)
  {zs:Bool} {x:Value} {new:List d9} (i:bg (m.nm ι) new) (a2:n=0->new=[])
  (g:∀w':World,w'.heap=w.heap->(if (!zs)=true then Builtin.firstCells es n x else if n*es=0 then pure #[] else do pure (Builtin.zeroCells (← zeroValue e).cells n):Sem (Array Value)).run P w'=.ok (p8 ι new).toArray w')
  {sv:d9} (a9:sv.lt (m.nm ι)) {outs:List VM} (h:sJ m es E n new sv=some outs):
  ∃base sLen sCap v w',l9 ι sv=.slice base sLen sCap∧(jV zs e es sLen sCap base x n).run P w=.ok v w'∧aY P G ι m w outs v w':=by
 obtain⟨Z,aa⟩:=nJ hz;obtain rfl:es=z.length:=by rw [ad] at aa;exact Y8 aa
 rcases rA h with⟨rfl,h⟩ | ⟨id,off,len,cap,rfl,h⟩ | ⟨id,off,len,es',rfl,h⟩
 ·
  refine⟨none,0,0,?_⟩;cases n with
  | zero=>have h:one .nilSlice m=some outs:=h;cases h;obtain rfl:=a2 rfl;exact⟨.slice none 0 0,w,rfl,jW (J2 0) (g w rfl) rfl,_,aP.2 rfl,ι,Step.refl o,trivial,rfl⟩
  | succ n=>
   have h:bi (big (n+1) E z.length) (grown m z.length (n+1) new) none=some outs:=h;obtain⟨L,h⟩:=D9 h;obtain⟨b1,D,b3⟩:=uO L;obtain⟨rl,I,rfl⟩:=zm h;obtain⟨capN,f,r1,r2,r3⟩:=jX (P:=P) (w:=w) (zs:=zs) (e:=e) (es:=z.length) (sLen:=0) (sCap:=0) (base:=none) (x:=x) (n:=n+1) (old:=[]) U Z (by omega) (by simpa using b1) b3
    (λw' _=>by simp [Builtin.firstCells]) g
   have d:=(gX _ _ _ _ I).1;have s:=Ev o (vN I i) (c:=([]++p8 ι new++f).toArray) (e:=e) (w':={w with heap:=w.heap.push (.cells ([]++p8 ι new++f).toArray e),drawn:=w.drawn+1}) ⟨rfl,rfl,rfl,rfl⟩ (capN:=capN)
    (by simp only [adw,Z5,abw,V3,d,r2,aa2];rw [← ado];congr 1;omega) (by omega)
    (λj v t=>by
     have y:=(J3.1 t).1;simp only [adn,adh];rw [aaT (by simpa using y),aQ,t];rfl)
   refine⟨_,_,rfl,r3,?_⟩;have:=nK rfl s (JR o.ok rfl) D (need:=n+1) (aa1 _ (by omega)) (cap:=capN) (by show capN=capN*z.length / z.length;rw [afO _ D]);simpa using this
 ·
  refine⟨some (ι.at id off),len,cap,?_⟩;have h:bi (Nat.ble (len+n) cap) (jy m id (off+len*z.length) new λm'=>one (.slice id off (len+n) cap) m')
   (bi (big (len+n) E z.length) (ob (R9 m id off (len*z.length)) λold=>grown m z.length (len+n) (U2 old new)) none)=some outs:=h
  rcases MC h with⟨hf,h⟩ | ⟨hf,h⟩;obtain⟨m',w',hk,a6,s⟩:=mJ o h i;cases hk;exact⟨_,w',rfl,jW (Y2 hf) (g w rfl) (by simp only [K4.nY];exact a6),_,aP.2 rfl,ι,s,s.has id a9,by simp [l9]⟩;obtain⟨L,h⟩:=D9 h;obtain⟨b1,D,b3⟩:=uO L;obtain⟨old,ho,h⟩:=A8 h;rw [O4] at h;obtain⟨rl,I,rfl⟩:=zm h;obtain⟨o1,o2,o3⟩:=jT o ho;obtain⟨capN,f,r1,r2,r3⟩:=jX (P:=P) (w:=w) (zs:=zs) (e:=e) (es:=z.length) (sLen:=len) (sCap:=cap) (base:=some (ι.at id off)) (x:=x) (n:=n) (old:=p8 ι old) U Z (HV hf) b1 b3
   (λw' hw=>gW o1 (λj v t=>by have:=o3 j v t;simpa [World.cell?,hw] using this)) g
  have W:bg (m.nm ι) (old++new):=bX.2 λv hv=>(aa3.1 hv).elim (O8 o2) (O8 i);have d:=(gX _ _ _ _ I).1;have s:=Ev o (vN I W) (c:=(p8 ι old++p8 ι new++f).toArray) (e:=e) (w':={w with heap:=w.heap.push (.cells (p8 ι old++p8 ι new++f).toArray e),drawn:=w.drawn+1}) ⟨rfl,rfl,rfl,rfl⟩ (capN:=capN)
   (by
    rw [Z5] at d;simp only [adw,Z5,V3,d,r2];rw [← ado];congr 1;omega) (by omega)
   (λj v t=>by
    have y:=(J3.1 t).1;rw [Z5] at y;rw [adh,aaT (by simpa using y),bC,bC,← abN,abq,t];rfl)
  refine⟨_,_,rfl,r3,?_⟩;exact nK rfl s (JR o.ok rfl) D (need:=len+n) (aa1 _ (by omega)) (cap:=capN) (by show capN=capN*z.length / z.length;rw [afO _ D])
 ·
  obtain⟨ah,a7,Y⟩:=a9;have Y:off+len*es'<=(ι id).cap:=Y;have M:len<=((ι id).cap-off) / es':=(adq a7).2 (by omega);refine⟨some (ι.at id off),len,((ι id).cap-off) / es',?_⟩;cases n with
  | zero=>have h:one (.sliceU id off len es') m=some outs:=h;cases h;obtain rfl:=a2 rfl;refine⟨_,w,rfl,jW (w':=w) M (g w rfl) (by simp [p8,storeCells]),_,aP.2 rfl,ι,Step.refl o,⟨ah,a7,Y⟩,by simp [l9]⟩
  | succ n=>
   have h:bi (Nat.beq z.length es') (bi (big (len+(n+1)) E z.length) (bi (Nat.ble m.lim id) (bi (K7 new)
    (BH (m.get id)
     (λJ k a=>
      bi (bi (Nat.beq J z.length) (bi (Nat.beq off 0) (bi (Nat.ble len k) (bi (Nat.beq (n+1) 1) (bi (Nat.beq (len' new) z.length) (Nat.blt 0 len) false) false) false) false) false)
       (one (.sliceU m.nx 0 (Nat.succ len) z.length) ((m.set id .dead).new (.cells z.length (Nat.succ len) (a.put len new))))
       (ob (L9 J k a (len*z.length) off) λold=>grown (m.set id .dead) z.length (len+(n+1)) (U2 old new)))
     (λp=>P8 (m.get p) λ_ _ _=>bi (Nat.ble m.lim p) (bi (Nat.beq len 0) (grown (m.set p .dead) z.length (n+1) new) none) none)) none) none) none) none=some outs:=h
   obtain⟨q1,k1⟩:=D9 h;clear h;obtain rfl:=q8 q1;obtain⟨q2,k2⟩:=D9 k1;obtain⟨b1,D,b3⟩:=uO q2;obtain⟨q3,k3⟩:=D9 k2;have Q:m.lim<=id:=Y2 q3;obtain⟨a5,h⟩:=D9 k3;clear k1 k2 k3;have F:∀(q J k:Nat) (a:T (List d9)),m.lim<=q->m.get q=some (.cells J k a)->∀(B C:Nat) (old:List d9) (b':Q6),C=(ι id).cap-off->
     ((ι id).b=(ι q).b∨C=0)->B=(ι id).base+off->(C≠0->B+C<=(ι q).base+(ι q).cap)->(C≠0->(ι id).spot=none)->old.length=len*z.length->new.length=(n+1)*z.length->bg (m.nm ι) old->om ι w id off old->
     Fits P ι m z.length (len+(n+1)) (old++new) b'->outs=[⟨.sliceU m.nx 0 (len+(n+1)) z.length,(m.set q .dead).new b'⟩]->
     ∃v w',l9 ι (.sliceU id off len z.length)=.slice (some (ι.at id off)) len (((ι id).cap-off) / z.length)∧
      (jV zs e z.length len (((ι id).cap-off) / z.length) (some (ι.at id off)) x (n+1)).run P w=.ok v w'∧aY P G ι m w outs v w':=by
    intro q J k a hq u B C old b' hC L hB ac a8 X N ai a3 hF r;subst r;have a4:=(Step.kill o hq u).rm;have O:((m.set q .dead).new b').has m.nx:=JR (m:=m.set q .dead) a4.ok hF.1;by_cases hfit:len+(n+1)<=((ι id).cap-off) / z.length;have H:(len+(n+1))*z.length<=C:=(by rw [hC];exact (adq D).1 hfit);have R:C≠0:=by have:1*1<=(len+(n+1))*z.length:=akh (by omega) D;omega
    have L:=L.resolve_right R;have A:=a8 R;obtain⟨c,a0,fz,c1,c2,c3⟩:=QE o u;obtain⟨w',g1,g2⟩:=Yr o hq u c1 (B:=B) (C:=C) (len:=len) (n:=n+1) (es:=z.length) (old:=old) (new:=new) (b':=b') (by have:=ac R;omega) H X N a5
     (λj v t=>by
      have:=a3 j v t;simp only [World.cell?,K4.at,L,c1,A] at this;rw [hB,aeF];simpa using this) hF
    refine⟨_,w',by simp [l9],jW hfit (g w rfl) (by
     have:(ι.at id off).add (len*z.length)=⟨(ι q).b,B+len*z.length,none⟩:=(by simp [K4.at,Addr.add,L,hB,A]);simp only [this];exact g1),?_⟩
    have:=nK rfl g2 O D (need:=len+(n+1)) H (cap:=((ι id).cap-off) / z.length) (by show _=C / z.length;rw [hC]);have S:ι.at id off=⟨(ι q).b,B,none⟩:=(by simp [K4.at,L,hB,A]);rw [S];exact this;obtain⟨capN,f,r1,r2,r3⟩:=jX (P:=P) (w:=w) (zs:=zs) (e:=e) (es:=z.length) (sLen:=len) (sCap:=((ι id).cap-off) / z.length) (base:=some (ι.at id off)) (x:=x) (n:=n+1) (old:=p8 ι old) U Z hfit b1 b3
     (λw' hw=>gW X (λj v t=>by have:=a3 j v t;simpa [World.cell?,hw] using this)) g
    have s:=RY o hF hq u (c:=(p8 ι old++p8 ι new++f).toArray) (e:=e) (w':={w with heap:=w.heap.push (.cells (p8 ι old++p8 ι new++f).toArray e),drawn:=w.drawn+1}) ⟨rfl,rfl,rfl,rfl⟩ (capN:=capN)
     (by
      simp only [adw,Z5,V3,X,N,r2];rw [← ado,← ado];congr 1;omega) (by omega)
     (λj v t=>by
      have y:=(J3.1 t).1;rw [Z5] at y;rw [adh,aaT (by simpa using y),bC,bC,← abN,abq,t];rfl)
    refine⟨_,_,by simp [l9],r3,?_⟩;exact nK rfl s O D (need:=len+(n+1)) (aa1 _ (by omega)) (cap:=capN) (by show capN=capN*z.length / z.length;rw [afO _ D])
   rcases Vk h with⟨J,k,a,u,h⟩ | ⟨p,u,h⟩
   ·obtain⟨cc,a0,ab,c1,c2,c3⟩:=QE o u;rcases MC h with⟨hf,h9⟩ | ⟨_,h⟩
    ·
     clear h;have ae:J=z.length∧off=0∧len<=k∧n=0∧new.length=z.length∧0<len:=by
      cases p1:Nat.beq J z.length<;>rw [p1] at hf<;>simp only [T9,R5] at hf<;>try (cases hf;done)
      cases p2:Nat.beq off 0<;>rw [p2] at hf<;>simp only [T9,R5] at hf<;>try (cases hf;done)
      cases p3:Nat.ble len k<;>rw [p3] at hf<;>simp only [T9,R5] at hf<;>try (cases hf;done)
      cases p4:Nat.beq (n+1) 1<;>rw [p4] at hf<;>simp only [T9,R5] at hf<;>try (cases hf;done)
      cases p5:Nat.beq (len' new) z.length<;>rw [p5] at hf<;>simp only [T9,R5] at hf<;>try (cases hf;done)
      have p4:=q8 p4;have p5:=q8 p5;rw [I9] at p5;exact⟨q8 p1,q8 p2,Y2 p3,by omega,p5,Eq.mp Y5 hf⟩
     obtain⟨rfl,rfl,hk,rfl,N,af⟩:=ae;cases h9;obtain⟨l,l1,l2,l3,l4⟩:=RX o u len hk;exact F id z.length k a Q u _ _ l _ rfl (.inl rfl) rfl (λ_=>by omega) (λ_=>o.spot id _ u rfl) l1 (by omega) l2 l3 (Vj o u hk af l1 l4 N l2 i) rfl
    obtain⟨old,ho,h⟩:=A8 h;rw [O4] at h;obtain⟨rl,I,r⟩:=zm h;obtain⟨o1,o2,o3⟩:=uH o u _ _ _ ho;have W:bg (m.nm ι) (old++new):=bX.2 λv hv=>(aa3.1 hv).elim (O8 o2) (O8 i);have d:=(gX _ _ _ _ I).1;rw [Z5,o1,ado] at d;exact F id J k a Q u _ _ old _ rfl (.inl rfl) rfl (λ_=>by omega) (λ_=>o.spot id _ u rfl) o1 (by omega) o2 o3 (vN I W) r
   obtain⟨J,k,a,a1,h⟩:=dB h;obtain⟨q4,h⟩:=D9 h;have V:=Y2 q4;obtain⟨q5,h⟩:=D9 h;obtain rfl:=q8 q5;obtain⟨rl,I,r⟩:=zm h;obtain⟨t1,K⟩:=o.blk id _ u;have d:=(gX _ _ _ _ I).1;refine F p J k a V a1 _ _ [] (.cells z.length (n+1) (T.ofList rl)) rfl ?_ rfl ?_ ?_ (by simp) d trivial (λj v t=>by simp at t) ?_ ?_;rcases K with K | K;exact .inr (by omega);exact .inl K.1;intro ag;rcases K with K | K;omega;omega;intro ag;rcases K with K | K;omega;exact K.2.2 (o.spot p _ a1 rfl);rw [adn,aa2];exact vN I i;rw [r,aa2];rfl
def al4 (d:TypeDesc):Bool:=match d with | .int _=>true | _=>false
theorem Yt (d:TypeDesc):al4 d=Eu d:=by cases d<;>rfl
theorem HY (s:St P ι (m.nm ι) slots done ls env a.tmps)(N:RM P G ι m w.heap){c:Call}{t u e:TypeId}{d:TypeDesc}{x y:Operand}{S A:Q8}{es g:Nat}{z:List d9}(hc:c.callee=.builtin .append)
  (q:c.argTypes.toList=[t,u]) (l:c.args.toList=[x,y]) (hu:P.underlying t=some (.slice e)) (hd:P.underlying u=some d) (p:aS P e=some es) (V:CJ P e=some z) (D:fI P e=some g)
  (hx:N8 P slots done x=some S) (hy:N8 P slots done y=some A) {cf:G9} {outs:List VM} (f:nG (.app es (Eu d) z g S A) cf ls env m=some outs):
  ∀o:Oper,o.op=.call c->Does P a.eval o w (aY P G ι m w outs):=by
 intro o ho;have q:c.argTypes=#[t,u]:=by rw [← q,aa6]
 have l:c.args=#[x,y]:=by rw [← l,aa6]
 obtain⟨Z,g1⟩:=w9 s hx;obtain⟨e2,g2⟩:=w9 s hy;obtain⟨I,H⟩:=nJ V;have E:es=z.length:=by rw [p] at H;exact Y8 H
 have B:∀(n:Nat) (b:List d9),acj P w (Eu d) g n (l9 ι (H8 A ls env))->bg (m.nm ι) b->(n=0->b=[])->
   (∀w':World,w'.heap=w.heap->(if (!Eu d)=true then Builtin.firstCells es n (l9 ι (H8 A ls env)) else if n*es=0 then pure #[] else do pure (Builtin.zeroCells (← zeroValue e).cells n):Sem (Array Value)).run P w'=.ok (p8 ι b).toArray w')->
   sJ m es g n b (H8 S ls env)=some outs->Does P a.eval o w (aY P G ι m w outs):=by
  intro n b hn M O F h;obtain⟨U,Y,X,v,w',q1,W,q3⟩:=ME N V p D M O F g1 h;refine O7 (v:=v) (w':=w') ?_ q3;rw [← BU (T:=o.type) hu p hd D hn] at W;simp [execOp,ho,resolve,hc,l,q,invoke,builtin,Z,e2,q1,W]
 cases hi:Eu d with
 | true=>rw [hi] at f;obtain⟨k,n,C,f⟩:=fB f;obtain⟨j,f⟩:=D9 f;obtain⟨L,f⟩:=D9 f;have j:n*g<=281474976710656:=Y2 j;have L:n<9223372036854775808:=Eq.mp Y5 L;have C:H8 A ls env=.int k n:=C;refine B n (U1 z n) (.inr ⟨hi,⟨k,by rw [C];rfl⟩,L,j⟩) (by obtain⟨_,_,_,J⟩:=dz (P:=P) (w:=w) I ι;exact rO (J _) n) (λr=>by rw [r];rfl) (λw' _=>?_) f;obtain⟨zv,Q,R,J⟩:=dz (P:=P) (w:=w') I ι;simp only [hi,ahl,abA,if_false];split;rename_i r;have:U1 z n=[]:=aa5.1 (by rw [eH,← E];exact r);simp [this,p8];simp [Q,R,zl]
 | false=>
  rw [hi] at f;obtain⟨n,C,f⟩:=A8 f;obtain⟨b,j,f⟩:=A8 f;refine B n b (.inl ⟨hi,uN C w⟩) (iU N j).2 (λr=>?_) (λw' hw=>?_) f;subst r;have r:∀i K,R9 m i K 0=some []:=λi K=>rfl;generalize H8 A ls env=v at j;cases v<;>simp only [bG,reduceCtorEq] at j<;>simp_all [bytesOf]
  simp only [hi,Bool.not_false,if_true];exact (iU (w:=w') (by rw [hw];exact N) j).1
end
section
variable {P:Program}{G:Mem}{ι:K4}{m:Mem}{w:World}{slots:List Nat}{done:List (Option Nat)}{ls:List d9}{env:T d9}{a:Act}
theorem JU (s:St P ι (m.nm ι) slots done ls env a.tmps)(c:RM P G ι m w.heap){t:TypeId}(i:P.underlying t=some .string)
  {x:Operand} {d:Q8} (k:N8 P slots done x=some d) {cf:G9} {outs:List VM} (j:nG (.rangeS d) cf ls env m=some outs):
  ∀o:Oper,o.op=.range t x->Does P a.eval o w (aY P G ι m w outs):=by
 intro o g;obtain⟨f,_⟩:=w9 s k;obtain⟨str,b,h⟩:=iA j;cases h;have b:H8 d ls env=.str str:=b;have e:=Laid.new c.ok c.limn (.siter str 0) rfl;refine O7 (v:=.pointer (some ⟨w.heap.size,0,none⟩)) (w':={w with heap:=w.heap.push (.stringIter ⟨str.toArray⟩ 0)}) ?_
  ⟨_,aP.2 rfl,ι.upd m.nx ⟨w.heap.size,0,0,none⟩,Step.lay (w':={w with heap:=w.heap.push (.stringIter ⟨str.toArray⟩ 0)}) c e (o:=.stringIter ⟨str.toArray⟩ 0) (l:=⟨w.heap.size,0,0,none⟩) ⟨rfl,rfl,rfl,rfl⟩ rfl rfl ⟨rfl,dD⟩ (by intro _ _ _ h;cases h),e.self,by simp [l9,K4.at]⟩
 simp [execOp,g,Instr.range,run_underlying i,f,b,l9,run_newObj]
theorem RZ {β:Type}{b:Option Q6}{k:List UInt8->Nat->Option β}{r:β}(h:Jv b k=some r):∃s p,b=some (.siter s p)∧k s p=some r:=by
 match b,h with
 | some (.siter s p),h=>exact⟨s,p,rfl,h⟩
theorem MF (s:St P ι (m.nm ι) slots done ls env a.tmps)(k:RM P G ι m w.heap)
  {x:Operand} {u:Q8} (E:N8 P slots done x=some u) {cf:G9} {outs:List VM} (D:nG (.nextS u) cf ls env m=some outs):
  ∀o:Oper,o.op=.next x true->Does P a.eval o w (aY P G ι m w outs):=by
 intro o z;obtain⟨A,_⟩:=w9 s E;obtain⟨id,off,n,h⟩:=dW D;have n:H8 u ls env=.ptr id off:=n;obtain⟨B,h⟩:=D9 h;obtain rfl:off=0:=q8 B;obtain⟨C,h⟩:=jR h;have r:=jF C;obtain⟨c,p,q,h⟩:=RZ h;obtain⟨y,l⟩:=k.blk id _ q;have t:=k.spot id _ q rfl;have g:=fC (P:=P) l (by intro _ _ _ e;cases e);have i:=λo=>rQ (P:=P) (o:=o) l (by intro _ _ _ e;cases e);have j:ByteArray.size ⟨c.toArray⟩=c.length:=nZ c;have f:a.eval x=.pointer (some ⟨(ι id).b,0,none⟩):=by rw [A,n];simp [l9,K4.at,y,t]
 rw [I9] at h;cases d:Nat.blt p c.length with
 | false=>
  rw [d] at h;cases h;have d:¬ p<c.length:=by have:=jF d;omega
  refine O7 (v:=.tuple #[.bool false]) (w':=w) ?_ ⟨_,aP.2 rfl,ι,Step.refl k,by simp [d9.lt,bg],by simp [l9,p8]⟩;simp [execOp,z,f,Instr.next,g,j,d]
 | true=>
  rw [d] at h;cases h;have d:p<c.length:=Eq.mp Y5 d;refine O7 (v:=.tuple #[.bool true,.int .i64 p,.int .i32 (Utf8.decode ⟨c.toArray⟩ p).1]) (w':={w with heap:=w.heap.setIfInBounds (ι id).b (.stringIter ⟨c.toArray⟩ (p+(Utf8.decode ⟨c.toArray⟩ p).2))}) ?_
   ⟨_,aP.2 rfl,ι,Step.set k r q rfl rfl (o:=.stringIter ⟨c.toArray⟩ (p+(Utf8.decode ⟨c.toArray⟩ p).2)) ⟨rfl,rfl,rfl,rfl⟩ ⟨y,gy l⟩ (by intro _ _ _ h;cases h),by simp [d9.lt,bg],by simp [l9,p8]⟩
  simp [execOp,z,f,Instr.next,g,j,d,i,goInt]
theorem Ew {e:TypeId}(h:BM P e=true):P.underlying e=some (.int .u8)∧aS P e=some 1∧fI P e=some 1∧∃z,CJ P e=some z∧z.length=1:=by unfold BM at h;simp only [U9,beq_iff_eq] at h;obtain⟨⟨⟨a,b⟩,d⟩,f⟩:=h;obtain⟨z,c⟩:=ah7.1 f;refine⟨?_,b,d,z,c,?_⟩;split at a;assumption;cases a;have:=(nJ c).2;rw [b] at this;exact (Y8 this).symm
theorem Sb (t:List UInt8):K7 (bytesOf t)=true:=by
 induction t with
 | nil=>rfl
 | cons b t ih=>show bi true (K7 (bytesOf t)) false=true;rw [ih];rfl
theorem AQ (ι:K4)(t:List UInt8)(j:Nat):(p8 ι (bytesOf t))[j]?=(t[j]?).map λb=>Value.int .u8 (b.toNat:Int):=by rw [aQ,oz,abq];cases t[j]? <;> simp [l9]
theorem iB (t:List UInt8):(bytesOf t).length=t.length:=by rw [oz,aaW]
theorem Pf (s:St P ι (m.nm ι) slots done ls env a.tmps)(E:RM P G ι m w.heap){c:Call}{t u e:TypeId}{x y:Operand}{H R:Q8}(hc:c.callee=.builtin .append)
  (a2:c.argTypes.toList=[t,u]) (U:c.args.toList=[x,y]) (hu:P.underlying t=some (.slice e)) (hd:P.underlying u=some .string) (ab:BM P e=true)
  (hx:N8 P slots done x=some H) (hy:N8 P slots done y=some R) {cf:G9} {outs:List VM} (g:nG (.appB e H R) cf ls env m=some outs):
  ∀o:Oper,o.op=.call c->Does P a.eval o w (aY P G ι m w outs):=by
 obtain⟨_,Z,F,z,hz,af⟩:=Ew ab;have old:nG (.app 1 false z 1 H R) cf ls env m=some outs->∀o:Oper,o.op=.call c->Does P a.eval o w (aY P G ι m w outs):=
  λh=>HY s E hc a2 U hu hd Z hz F hx hy h
 obtain⟨e1,g1⟩:=w9 s hx;obtain⟨e2,g2⟩:=w9 s hy;have a3:c.argTypes=#[t,u]:=by rw [← a2,aa6]
 have V:c.args=#[x,y]:=by rw [← U,aa6]
 obtain⟨a9,_⟩:=nJ hz;have I:∀{d:List UInt8} {base:Option Addr} {sLen sCap:Nat} {v:Value} {w':World},H8 R ls env=.str d->l9 ι (H8 H ls env)=.slice base sLen sCap->
   (jV false e 1 sLen sCap base (l9 ι (.str d)) d.length).run P w=.ok v w'->aY P G ι m w outs v w'->∀o:Oper,o.op=.call c->Does P a.eval o w (aY P G ι m w outs):=by
  intro d base sLen sCap v w' S q2 q3 q4 o ho;refine O7 (v:=v) (w':=w') ?_ q4;have hn:acj P w (Eu .string) 1 d.length (l9 ι (.str d)):=.inl ⟨rfl,uN (v:=.str d) (by simp [lenOf]) w⟩;have h3:(jV (Eu .string) e 1 sLen sCap base (l9 ι (.str d)) d.length).run P w=.ok v w':=q3;rw [← BU (T:=o.type) hu Z hd F hn] at h3;simp [execOp,ho,resolve,hc,V,a3,invoke,builtin,e1,e2,S,q2,h3]
 have C:∀(d:List UInt8) (w':World),w'.heap=w.heap->(if (!false)=true then Builtin.firstCells 1 d.length (l9 ι (.str d)) else if d.length*1=0 then pure #[] else do pure (Builtin.zeroCells (← zeroValue e).cells d.length):Sem (Array Value)).run P w'=.ok (p8 ι (bytesOf d)).toArray w':=by
  intro d w' hw;have:bG m 1 d.length (.str d)=some (bytesOf d):=by simp [bG]
  exact (iU (w:=w') (by rw [hw];exact E) this).1
 have aa:∀{m0:Mem} (st:Step P G ι m w ι m0 w) (f d:List UInt8) (capN:Nat) (i:List Value),m0.nx=m.nx->f.length+d.length<=capN->i.length=(capN-(f.length+d.length))*z.length->
   outs=[⟨.sliceU m.nx 0 (f.length+d.length) 1,m0.new (.buf e (f++d))⟩]->
   aY P G ι m w outs (.slice (some ⟨w.heap.size,0,none⟩) (f.length+d.length) capN) {w with heap:=w.heap.push (.cells (p8 ι (bytesOf f)++p8 ι (bytesOf d)++i).toArray e),drawn:=w.drawn+1}:=by
  intro m0 st f d capN i ac X N p;subst p;have hl:=Laid.new st.rm.ok st.rm.limn (.buf e (f++d)) rfl;rw [ac] at hl;have ad:(p8 ι (bytesOf f)++p8 ι (bytesOf d)++i).toArray.size=capN:=by simp only [adw,Z5,V3,iB,N,af];omega
  have Q:=st.trans (Step.lay (w':={w with heap:=w.heap.push (.cells (p8 ι (bytesOf f)++p8 ι (bytesOf d)++i).toArray e),drawn:=w.drawn+1}) st.rm hl (o:=.cells (p8 ι (bytesOf f)++p8 ι (bytesOf d)++i).toArray e) ⟨rfl,rfl,rfl,rfl⟩ (l:=⟨w.heap.size,0,capN,none⟩) rfl rfl
   ⟨rfl,_,_,dD,by simp;omega,by rw [ad];exact J2 _,λj b q=>?_⟩ (by intro c' e' fz h k hk;cases h;simp))
  exact nK rfl Q hl.self (by omega) (need:=f.length+d.length) (by simpa using X) (by simp);have L:=(J3.1 q).1;rw [adh,aaT (by simpa [iB] using L)];by_cases h1:j<f.length;rw [aaT h1] at q;rw [aaT (by simpa [iB] using h1),AQ,q];rfl;rw [abr (by omega)] at q;rw [abr (by simp [iB];omega),AQ];simp only [V3,iB];rw [q];rfl
 change wI e (H8 H) (H8 R) cf ls env m=some outs at g
 unfold wI at g;split at g;rename_i D;obtain⟨d,A,g⟩:=iA g;cases d with
 | nil=>refine old ?_;show qy 1 1 (H8 H) (H8 R) cf ls env m=some outs;unfold qy;rw [A,D];exact g
 | cons b0 t0=>
  generalize hstr:b0::t0=d at *;have g:bi (big (len' d) 1 1) (one (.sliceU m.nx 0 (len' d) 1) (m.new (.buf e d))) none=some outs:=by rw [← hstr] at g ⊢;exact g
  obtain⟨W,g⟩:=D9 g;rw [I9] at W g;obtain⟨b1,_,b3⟩:=uO W;have p:outs=[⟨.sliceU m.nx 0 (([]:List UInt8).length+d.length) 1,m.new (.buf e ([]++d))⟩]:=by cases g;simp
  have a0:0<d.length:=by rw [← hstr];simp
  obtain⟨capN,i,r1,r2,r3⟩:=jX (P:=P) (w:=w) (zs:=false) (e:=e) (es:=1) (sLen:=0) (sCap:=0) (base:=none) (x:=l9 ι (.str d)) (n:=d.length) (old:=[]) F a9 (by omega) (by simpa using b1) b3
   (λw' _=>by simp [Builtin.firstCells]) (C d)
  refine I A (by rw [D];rfl) r3 ?_;have:=aa (Step.refl E) [] d capN i rfl (by simpa using r1) (by simpa using r2) p;simpa [bytesOf,p8] using this
 rename_i id off len es D;split at g;rename_i ty' f K;obtain⟨d,A,g⟩:=iA g;obtain⟨k1,a4⟩:=D9 g;obtain⟨k2,a5⟩:=D9 a4;obtain⟨k3,a6⟩:=D9 a5;obtain⟨k4,a7⟩:=D9 a6;obtain⟨k5,a8⟩:=D9 a7;clear g a4 a5 a6 a7;rw [I9] at k4;have r:m.lim<=id:=Y2 k5;obtain rfl:e=ty':=q8 k1;obtain rfl:off=0:=q8 k2;obtain rfl:es=1:=q8 k3;obtain rfl:len=f.length:=q8 k4;have g:=a8;clear a8;cases d with
 | nil=>refine old ?_;show qy 1 1 (H8 H) (H8 R) cf ls env m=some outs;unfold qy;rw [A,D];exact g
 | cons b0 t0=>
  generalize hstr:b0::t0=d at *;have g:bi (big (Nat.add f.length (len' d)) 1 1) (one (.sliceU m.nx 0 (Nat.add f.length (len' d)) 1) ((m.set id .dead).new (.buf e (U2 f d)))) none=some outs:=by rw [← hstr] at g ⊢;exact g
  obtain⟨W,g⟩:=D9 g;rw [I9] at W g;rw [O4] at g;obtain⟨b1,_,b3⟩:=uO W;have p:outs=[⟨.sliceU m.nx 0 (f.length+d.length) 1,(m.set id .dead).new (.buf e (f++d))⟩]:=by cases g;rfl
  have a0:0<d.length:=by rw [← hstr];simp
  obtain⟨q0,cs,fz,S,q2,q3,q4⟩:=E.blk id _ K;have O:=E.spot id _ K rfl;have Y:l9 ι (H8 H ls env)=.slice (some ⟨(ι id).b,0,none⟩) f.length (ι id).cap:=by rw [D];simp [l9,K4.at,q0,O]
  have B:=(E.own id _ r K rfl).free cs e fz S;have J:∀w':World,w'.heap=w.heap->∀(j:Nat) (v:d9),(bytesOf f)[j]?=some v->w'.cell? (ι.at id (0+j))=some (l9 ι v):=by
   intro w' hw j v q;rw [oz,abq] at q;cases hb':f[j]? with
   | none=>rw [hb'] at q;cases q
   | some b'=>rw [hb'] at q;cases q;have:=q4 j b' hb';simp [World.cell?,hw,K4.at,q0,O,S,l9,this]
  by_cases hfit:f.length+d.length<=(ι id).cap
  ·
   have a1:=ow (P:=P) (p8 ι (bytesOf d)) cs (f.length*1) 0 w S (by simp [iB];omega) B (λv g=>by
    rw [bC] at g;obtain⟨u',ae,rfl⟩:=ab1.1 g;exact AL (pJ (Sb d) u' ae))
   refine I A Y (jW hfit (C d w rfl) (by
    have:(⟨(ι id).b,0,none⟩:Addr).add (f.length*1)=⟨(ι id).b,f.length*1,none⟩:=(by simp [Addr.add];intro h;simp [h]);simp only [this];exact a1)) ?_
   subst p;have M:=Laid.new (Step.kill E r K).rm.ok (Step.kill E r K).rm.limn (.buf e (f++d)) rfl;have Q:=Step.ab0 (l:=⟨(ι id).b,0,(ι id).cap,none⟩) (o:=.cells (over cs (f.length*1+0) (p8 ι (bytesOf d))) e fz) (w':={w with heap:=w.heap.setIfInBounds (ι id).b (.cells (over cs (f.length*1+0) (p8 ι (bytesOf d))) e fz)})
    (b':=.buf e (f++d)) E r K rfl rfl ⟨rfl,rfl,rfl,rfl⟩ rfl rfl ⟨rfl,_,_,gy S,by simpa using hfit,by simpa using q3,λj b q=>?_⟩ (by intro c' e' ag h k hk;cases h;exact B k (by simpa using hk))
   have:=nK rfl Q M.self (J2 1) (need:=f.length+d.length) (by simpa using hfit) (cap:=(ι id).cap) (by simp);simpa using this;have L:=(J3.1 q).1;rw [Z5] at L;rw [zf _ _ _ (by simp [iB];omega)];by_cases h1:j<f.length;rw [aaT h1] at q;rw [if_pos (by omega)];exact q4 j b q;rw [abr (by omega)] at q;rw [if_neg (by omega),if_pos (by simp [iB];omega),AQ,show j-(f.length*1+0)=j-f.length from by omega,q];rfl
  obtain⟨capN,i,r1,r2,r3⟩:=jX (P:=P) (w:=w) (zs:=false) (e:=e) (es:=1) (sLen:=f.length) (sCap:=(ι id).cap) (base:=some ⟨(ι id).b,0,none⟩) (x:=l9 ι (.str d)) (n:=d.length) (old:=p8 ι (bytesOf f)) F a9 hfit b1 b3
   (λw' hw=>by
    have:=gW (P:=P) (ι:=ι) (w:=w') (id:=id) (off:=0) (len:=f.length) (cap:=(ι id).cap) (es:=1) (n:=f.length) (l:=bytesOf f) (by rw [iB,adr]) (J w' hw);simpa [K4.at,q0,O] using this) (C d)
  exact I A Y r3 (aa (Step.kill E r K) f d capN i rfl r1 r2 p)
 exact old g;exact old g
theorem Pg {w:World}{b:Nat}{c:Array Value}{e:TypeId}{fz:Nat×Nat}(h:w.heap[b]?=some (.cells c e fz))(n:Nat):∃fz',w.freeze ⟨b,0,none⟩ n={w with heap:=w.heap.setIfInBounds b (.cells c e fz')}:=by
 have g:=(Q5.1 h).1;have i:w.heap[b]=.cells c e fz:=(Q5.1 h).2;have a:∀(f:Obj->Obj) fz',f (.cells c e fz)=.cells c e fz'->w.heap.modify b f=w.heap.setIfInBounds b (.cells c e fz'):=by intro f fz' k;apply adj;intro j;rw [ahb,Array.getElem?_setIfInBounds];by_cases hj:b=j;subst hj;simp [h,k,g,i];simp [hj]
 unfold World.freeze;split;refine⟨fz,?_⟩;have d:w.heap.modify b id=w.heap:=by apply adj;intro j;rw [ahb];split<;>simp
 rw [← a id fz rfl,d];obtain⟨m,l⟩:=fz;exact⟨_,by congr 1;exact a _ _ rfl⟩
theorem Yu {β:Type}{v:d9}{k:Nat->Option β}{r:β}(h:Yh v k=some r):∃n:Nat,v=.int .i64 (n:Int)∧k n=some r:=by unfold Yh at h;split at h;exact⟨_,rfl,h⟩;cases h
theorem Ph (s:St P ι (m.nm ι) slots done ls env a.tmps)(C:RM P G ι m w.heap){c:Call}{t u e:TypeId}{x y:Operand}{U V:Q8}(L:c.callee=.builtin .unsafeString)
  (g:c.argTypes.toList=[t,u]) (f:c.args.toList=[x,y]) (hu:P.underlying t=some (.pointer e)) (K:BM P e=true)
  (hx:N8 P slots done x=some U) (hy:N8 P slots done y=some V) {cf:G9} {outs:List VM} (i:nG (.ustr e U V) cf ls env m=some outs):
  ∀o:Oper,o.op=.call c->Does P a.eval o w (aY P G ι m w outs):=by
 intro o Q;obtain⟨_,M,_⟩:=Ew K;obtain⟨X,_⟩:=w9 s hx;obtain⟨E,_⟩:=w9 s hy;have g:c.argTypes=#[t,u]:=by rw [← g,aa6]
 have f:c.args=#[x,y]:=by rw [← f,aa6]
 obtain⟨n,q,i⟩:=Yu i;have q:H8 V ls env=.int .i64 (n:Int):=q
 change (match H8 U ls env with
  | .nilPtr=>bi (Nat.beq n 0) (one (.str []) m) none
  | .ptr id p=>bi (Nat.beq p 0) (bi (Nat.ble m.lim id) (match m.get id with
   | some (.buf ty' s)=>bi (Nat.beq e ty') (bi (Nat.beq n (len' s)) (bi (Nat.ble n 9223372036854775807) (one (.str s) (m.set id .dead)) none) none) none
   | _=>none) none) none
  | _=>none)=some outs at i
 split at i;rename_i H;obtain⟨I,k⟩:=D9 i;clear i;cases k;obtain rfl:n=0:=q8 I;refine O7 (v:=.string .empty) (w':=w) ?_ ⟨_,aP.2 rfl,ι,Step.refl C,trivial,rfl⟩;have:=Lib.run_unsafeString_none (P:=P) w t u o.type none;simp [execOp,Q,resolve,L,f,g,invoke,builtin,X,E,q,H,l9,this];rename_i id p H;obtain⟨I,k⟩:=D9 i;obtain⟨Z,l⟩:=D9 k;clear i k;obtain rfl:p=0:=q8 I;have z:m.lim<=id:=Y2 Z;split at l;rename_i ty' d O;obtain⟨h5,A⟩:=D9 l;obtain⟨Y,B⟩:=D9 A;obtain⟨h7,T⟩:=D9 B;clear l A B;rw [I9] at Y;cases T;obtain rfl:e=ty':=q8 h5;obtain rfl:n=d.length:=q8 Y;have J:d.length<=9223372036854775807:=Y2 h7;obtain⟨q0,W,fz,D,q2,q3,q4⟩:=C.blk id _ O;have R:=C.spot id _ O rfl;obtain⟨F,N⟩:=Pg D d.length;have S:Step P G ι m w ι (m.set id .dead) (w.freeze ⟨(ι id).b,0,none⟩ d.length):=by rw [N];exact Step.set' C z O rfl rfl (o:=.cells W e F) ⟨rfl,rfl,rfl,rfl⟩ trivial (λh=>by cases h)
 refine O7 (v:=.string ⟨d.toArray⟩) (w':=w.freeze ⟨(ι id).b,0,none⟩ d.length) ?_ ⟨_,aP.2 rfl,ι,S,trivial,rfl⟩;have r:a.eval x=.pointer (some ⟨(ι id).b,0,none⟩):=by rw [X,H];simp [l9,K4.at,q0,R]
 by_cases h0:d=[];subst h0;have:=Lib.run_unsafeString_none (P:=P) w t u o.type (some ⟨(ι id).b,0,none⟩);simp [execOp,Q,resolve,L,f,g,invoke,builtin,r,E,q,l9,this,World.freeze];rfl;have:=Lib.run_unsafeString_row (P:=P) w t u o.type e hu (xM M) (ι id).b W.size (by simp [World.shape?,D]) d h0 (by omega) J (λj b hj=>by
  have:=q4 j b hj;by_cases h0:j=0;subst h0;simpa [World.cell?,Addr.add,D] using this;simpa [World.cell?,Addr.add,D,h0] using this)
 simp [execOp,Q,resolve,L,f,g,invoke,builtin,r,E,q,l9,this];cases l;cases i
end
section
variable {P:Program}{G:Mem}{ι:K4}{m:Mem}{w:World}{slots:List Nat}{done:List (Option Nat)}{ls:List d9}{env:T d9}{a:Act}
def AR (P:Program)(f:FuncId):Prop:=∃fn,P.funcs[f]?=some fn∧fn.body.isSome=true∧fn.name≠ "runtime.NumGoroutine"
def Q9 (P:Program)(G:Mem)(ι:K4)(m:Mem)(w:World)(outs:List VM)(e:Ending)(w':World):Prop:=
 (∃v,e=.returned v∧aY P G ι m w outs v w')∨
  ∃r∈outs,∃x ι',r.v=.lY x∧Step P G ι m w ι' r.m w'∧x.lt (r.m.nm ι')∧e=.panicked [{v:=l9 ι' x,recovered:=false}]
def kM (P:Program)(ρ:Operand->Value)(o:Oper)(w:World)(R:Ending->World->Prop):Prop:=
 match (execOp ρ o).run P w with
 | .ok (.value v) w'=>R (.returned v) w'
 | .ok .skip w'=>R (.returned undef) w'
 | .ok (.enter f args) w'=>CallsIn Fence.wide 0 P f args w' R
 | .ok (.round l f tmps assign body) w'=>RoundIn Fence.wide 0 P l f tmps assign body w' R
 | .halt (.panic v) w'=>R (.panicked [{v,recovered:=false}]) w'
 | _=>False
theorem aC {c:Operand->Value}{o:Oper}{outs:List VM}(h:Does P c o w (aY P G ι m w outs)):kM P c o w (Q9 P G ι m w outs):=by
 unfold Does at h;unfold kM;generalize (execOp c o).run P w=res at h;cases res with
 | halt=>exact h.elim
 | ok x w'=>
  cases x with
  | value v=>exact .inl ⟨_,rfl,h⟩
  | skip=>exact .inl ⟨_,rfl,h⟩
  | enter f args=>exact ahv h λe b a=>.inl a
  | round l f tmps assign body=>exact RoundIn.mono h λe b a=>.inl a
  | _=>exact h.elim
theorem Pj {a:Operand->Value}{o:Oper}{R:Value->World->Prop}(h:Does P a o w R):kM P a o w (λe w'=>∃v,e=.returned v∧R v w'):=by
 unfold Does at h;unfold kM;generalize (execOp a o).run P w=res at h;cases res with
 | halt=>exact h.elim
 | ok x w'=>
  cases x with
  | value v=>exact⟨_,rfl,h⟩
  | skip=>exact⟨_,rfl,h⟩
  | enter f args=>exact h
  | round l f tmps assign body=>exact h
  | _=>exact h.elim
structure mY (P:Program)(G:Mem)(cf:G9):Prop where
 func:∀{f:FuncId} {args:List d9} {m:Mem} {outs:List VM},cf (.func f) args m=some outs->AR P f∧∀{ι:K4} {w:World},RM P G ι m w.heap->bg (m.nm ι) args->
  CallsIn Fence.wide 0 P f (p8 ι args).toArray w (Q9 P G ι m w outs)
 yield:∀{l:Nat} {args:List d9} {m:Mem} {outs:List VM},cf (.yield l) args m=some outs->∀{ι:K4} {w:World},RM P G ι m w.heap->bg (m.nm ι) args->
  ∃L:Loop,w.heap[(ι l).b]?=some (.loop L)∧args.length=L.params.size∧
   RoundIn Fence.wide 0 P (ι l).b L.fn ((L.params.zip (p8 ι args).toArray).foldl (λt (p,v)=>t.setIfInBounds p v) L.tmps) L.assign L.body w (Q9 P G ι m w outs)
 other:∀{fn:Fn} {args:List d9} {m:Mem} {outs:List VM},cf fn args m=some outs->(∃f,fn=.func f)∨∃l,fn=.yield l
theorem mZ {f:FuncId}(h:AR P f)(args:Array Value)(w:World):(callFunc f args).run P w=.ok (.enter f args) w:=by
 obtain⟨b,d,a,e⟩:=h;cases hb:b.body with
 | none=>rw [hb] at a;cases a
 | some c=>simp [callFunc,d,e,hb]
theorem jY (ι:K4)(l r:List d9):p8 ι (l++r)=p8 ι l++p8 ι r:=by simp [bC]
theorem jo {n:Nm}{l r:List d9}(h:bg n l)(h':bg n r):bg n (l++r):=bX.2 λv a=>(aa3.1 a).elim (O8 h) (O8 h')
theorem JV (s:St P ι (m.nm ι) slots done ls env a.tmps){c:Array Operand}{b:List Q8}(h:jB P slots done c.toList=some b):
  c.map a.eval=(p8 ι (evs (fH b) ls env)).toArray∧bg (m.nm ι) (evs (fH b) ls env):=by
 obtain⟨d,e⟩:=kV s h;refine⟨?_,e⟩;rw [← d,← ah6,aa6]
theorem Pk {cf:G9}(h:mY P G cf)(s:St P ι (m.nm ι) slots done ls env a.tmps)(p:RM P G ι m w.heap){c:Call}{f:FuncId}{e:List Q8}(l:c.callee=.value (.func f))
  (g:jB P slots done c.args.toList=some e) {outs:List VM} (i:nG (.call f e) cf ls env m=some outs):
  ∀o:Oper,o.op=.call c->kM P a.eval o w (Q9 P G ι m w outs):=by
 intro o q;obtain⟨j,k⟩:=JV s g;have i:cf (.func f) (evs (fH e) ls env) m=some outs:=i;obtain⟨n,b⟩:=h.func i;have d:(execOp a.eval o).run P w=.ok (.enter f (p8 ι (evs (fH e) ls env)).toArray) w:=by simp [execOp,q,resolve,l,Act.eval,Deferred.ofValue,invoke,j,mZ n]
 unfold kM;rw [d];exact b p k
theorem MG {cf:G9}(j:mY P G cf)(s:St P ι (m.nm ι) slots done ls env a.tmps)(F:RM P G ι m w.heap){c:Call}{f:Operand}{q:Q8}{e:List Q8}(E:c.callee=.value f)
  (z:N8 P slots done f=some q) (u:jB P slots done c.args.toList=some e) {outs:List VM} (O:nG (.callv q e) cf ls env m=some outs):
  ∀o:Oper,o.op=.call c->kM P a.eval o w (Q9 P G ι m w outs):=by
 intro o H;obtain⟨A,B⟩:=JV s u;obtain⟨n,C⟩:=w9 s z;obtain⟨D,x,y,r,h⟩:=JE O;have r:H8 q ls env=.func D x y:=r;rw [r] at n C;obtain⟨_,I,k⟩:=C;cases D with
 | func g=>
  have h:cf (.func g) (U2 x (U2 (evs (fH e) ls env) y)) m=some outs:=h;rw [O4,O4] at h;obtain⟨N,i⟩:=j.func h;have d:(execOp a.eval o).run P w=.ok (.enter g (p8 ι (x++(evs (fH e) ls env++y))).toArray) w:=by simp [execOp,H,resolve,E,n,l9,jl,Deferred.ofValue,invoke,A,mZ N,jY]
  unfold kM;rw [d];exact i F (jo I (jo B k))
 | yield l=>
  have h:cf (.yield l) (U2 x (evs (fH e) ls env)) m=some outs:=h;rw [O4] at h;obtain⟨L,J,K,M⟩:=j.yield h F (jo I B);have d:(execOp a.eval o).run P w=.ok (.round (ι l).b L.fn ((L.params.zip (p8 ι (x++evs (fH e) ls env)).toArray).foldl (λt (p,v)=>t.setIfInBounds p v) L.tmps) L.assign L.body) w:=by have k:=run_yield (P:=P) (args:=(p8 ι (x++evs (fH e) ls env)).toArray) J (by simpa using K);rw [jY,← List.append_toArray] at k ⊢;simp only [execOp,H,resolve,E,n,l9,jl,Deferred.ofValue,invoke,A,X8,aaS,K9,k]
  unfold kM;rw [d];exact M
 | method=>cases h
 | methodOf=>cases h
 | via=>cases h
theorem MH (s:St P ι (m.nm ι) slots done ls env a.tmps)(g:RM P G ι m w.heap){x:Operand}{d:Q8}(i:N8 P slots done x=some d){cf:G9}{outs:List VM}(b:nG (.panic d) cf ls env m=some outs):
  ∀o:Oper,o.op=.panic x->kM P a.eval o w (Q9 P G ι m w outs):=by
 intro o h;obtain⟨e,f⟩:=w9 s i;have b:Yg (H8 d ls env) m=some outs:=b;generalize H8 d ls env=v at *;cases v with
 | iface t y=>
  have b:some [(⟨.lY (.iface t y),m⟩:VM)]=some outs:=b;cases b;have c:(execOp a.eval o).run P w=.halt (.panic (l9 ι (.iface t y))) w:=by simp [execOp,h,e,l9,Instr.panic,goPanic]
  unfold kM;rw [c];exact .inr ⟨_,aP.2 rfl,_,ι,rfl,Step.refl g,f,rfl⟩
 | _=>cases b
theorem AU {cf:G9}(f:mY P G cf)(s:St P ι (m.nm ι) slots done ls env a.tmps)(d:RM P G ι m w.heap){i:Op}{g:Uf}(h:fQ P slots done i=some (.e g)){outs:List VM}(c:nG g cf ls env m=some outs):
  ∀o:Oper,o.op=i->kM P a.eval o w (Q9 P G ι m w outs):=by
 cases yV h with
 | store h1 h2 h3=>exact λo b=>aC (Mr s d h1 h2 h3 c o b)
 | mapUpdate h1 h2 h3 h4 h5=>exact λo b=>aC (zk s d h1 h2 h3 h4 h5 c o (.inl b))
 | insert h1 h2 h3 h4 h5=>exact λo b=>aC (zk s d h1 h2 h3 h4 h5 c o (.inr b))
 | range h1 h2=>exact λo b=>aC (Mw s d h1 h2 c o b)
 | next h1=>exact λo b=>aC (Pd s d h1 c o b)
 | app h1 h2 h3 h4 h5 h6 h7 h8 h9 h10=>exact λo b=>aC (HY s d h2 h3 h4 h5 h1 h6 h7 h8 h9 h10 (by rw [← Yt];exact c) o b)
 | copy h1 h2 h3 h4 h5 h6 h7=>exact λo b=>aC (Pe s d h1 h2 h3 h4 h5 h6 h7 c o b)
 | clear h1 h2 h3 h4 h5 h6=>exact λo b=>aC (MB s d h1 h2 h3 h4 h5 h6 c o b)
 | call h1 h2 h3 h4 h5=>exact Pk f s d h1 h5 c
 | callv h1 h2 h3=>exact MG f s d h1 h2 h3 c
 | panic h1=>exact MH s d h1 c
 | rangeS h1 h2=>exact λo b=>aC (JU s d h1 h2 c o b)
 | nextS h1=>exact λo b=>aC (MF s d h1 c o b)
 | appB h1 h2 h3 h4 h5 h6 h7 h8=>exact λo b=>aC (Pf s d h2 h3 h4 h5 h1 h6 h7 h8 c o b)
 | ustr h1 h2 h3 h4 h5 h6 h7=>exact λo b=>aC (Ph s d h1 h2 h3 h4 h5 h6 h7 c o b)
 | defer=>cases c
 | recover=>cases c
end
end Go.AM
