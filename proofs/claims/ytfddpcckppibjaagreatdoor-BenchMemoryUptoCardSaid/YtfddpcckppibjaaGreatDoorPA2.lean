/- A part of an evaluator for the model, proved sound: what it answers holds of the model; it speaks of every program, no condition. -/
import Derived.Test.YtfddpcckppibjaaGreatDoorPA1
import Derived.Lib.Builder
import Derived.Laws.NewFold
import Derived.CallsIn
import Derived.Lib.UnsafeStr
import Derived.RangeFuncLeaves
import Derived.RangeFuncRecord
import Derived.RangeFuncNested
import Derived.LoopNIn
set_option linter.all false
namespace Go.AM
open Go
section
variable {P:Program}{G:Mem}{ι:J5}{m:Mem}{w:World}
theorem dh {β:Type}{b:Option O6}{k:Nat->Nat->T (List d9)->Option β}{r:β}(h:Q6 b k=some r):∃rs n rows,b=some (.cells rs n rows)∧k rs n rows=some r:=by
 match b,h with
 | some (.cells rs n rows),h=>exact⟨rs,n,rows,rfl,h⟩
theorem Ao {β:Type}{b:Option O6}{k:List (d9×d9)->Option β}{r:β}(h:Oq b k=some r):∃es,b=some (.map es)∧k es=some r:=by
 match b,h with
 | some (.map es),h=>exact⟨es,rfl,h⟩
theorem Jt (d:RM P G ι m w.heap){id rs k:Nat}{rows:T (List d9)}(b:m.get id=some (.cells rs k rows)){i j:Nat}(p:i<k)(q:j<rs){row:List d9}
  (r:rows.get i=some row) {v:d9} (f:row[j]?=some v):w.cell? (ι.at id (i*rs+j))=some (l9 ι v)∧v.lt (m.nm ι):=by
 obtain⟨c,e,s,n,u,x,o⟩:=d.blk id _ b;obtain⟨g,a,t,h,l⟩:=o i p;rw [r] at a;cases a;have:=l j q;rw [f] at this;refine⟨?_,N8 h (Xl f)⟩;simp only [World.cell?,J5.at,n,d.spot id _ b rfl];simpa using this
theorem Pe {rs n off:Nat}{rows:T (List d9)}{v:d9}(h:cell1 rs n rows off=some v):
  off / rs<n∧∃row,rows.get (off / rs)=some row∧row[off%rs]?=some v:=by
 obtain⟨b,c⟩:=C8 h;obtain⟨row,d,a⟩:=u6 c;rw [jk] at a;exact⟨Eq.mp X8 b,row,d,a⟩
theorem BF (j:RM P G ι m w.heap){id rs k off:Nat}{rows:T (List d9)}(i:m.get id=some (.cells rs k rows)){v:d9}(h:cell1 rs k rows off=some v):
  w.cell? (ι.at id off)=some (l9 ι v)∧v.lt (m.nm ι):=by
 obtain⟨d,p,f,g⟩:=Pe h;obtain⟨c,e,q,_,_,_,o⟩:=j.blk id _ i;obtain⟨l,b,n,_,_⟩:=o _ d;rw [f] at b;cases b;have a:off%rs<rs:=ae7 (Hl.1 g).1 n;have:=Jt j i d a f g
 rwa [show off / rs*rs+off%rs=off from by rw [ad4];exact ajJ off rs] at this
def oI (ι:J5)(w:World)(id off:Nat)(l:List d9):Prop:=∀j v,l[j]?=some v->w.cell? (ι.at id (off+j))=some (l9 ι v)
theorem Ju (s:RM P G ι m w.heap){id rs n off k:Nat}{rows:T (List d9)}(p:m.get id=some (.cells rs n rows)){l:List d9}(h:jR rs n rows off k=some l):
  l.length=k∧aM (m.nm ι) l∧oI ι w id off l:=by
 obtain⟨f,z⟩:=C8 h;obtain⟨row,g,a⟩:=u6 z;have f:off / rs<n:=Eq.mp X8 f;obtain⟨c,e,C,_,_,_,A⟩:=s.blk id _ p;obtain⟨u,o,x,y,_⟩:=A _ f;have g:rows.get (off / rs)=some row:=g;rw [g] at o;cases o;have i:l=(row.drop (off%rs)).take k∧(off%rs+k<=rs∨k=0):=by have b:Nat.mod off rs=off%rs:=rfl;rw [b] at a;rw [uH] at a;split at a;rename_i t;rw [uH] at a;split at a;rename_i q;have e:row=l:=Y4 a;rw [t,q,← e];refine⟨?_,by omega⟩;rw [U9,← x,agq];obtain⟨e,r⟩:=lg _ _ _ a;rw [t];exact⟨by rw [U9];exact e,by omega⟩;obtain⟨e,r⟩:=lg _ _ _ a;simp only [lZ,List.length_drop] at r e;exact⟨e,by omega⟩
 obtain⟨rfl,q⟩:=i;refine⟨by simp;omega,bQ.2 λv d=>N8 y (adZ (ae0 d)),λj v d=>?_⟩;have B:j<k:=by have:=(Hl.1 d).1;simp at this;omega
 rw [aed,if_pos B,aee] at d;have:=(Jt s p f (show off%rs+j<rs by omega) g d).1
 rwa [show off / rs*rs+(off%rs+j)=off+j from by have:=ajJ off rs;rw [ad4] at this;omega] at this
theorem Gb (rs n:Nat)(rows:T (List d9))(off:Nat):Q7 rs n rows 0 off=some []:=rfl
theorem Gc (rs n:Nat)(rows:T (List d9))(k off:Nat):Q7 rs n rows (k+1) off=ob (cell1 rs n rows off) λv=>ob (Q7 rs n rows k (off+1)) λl=>some (v::l):=rfl
theorem uI (p:RM P G ι m w.heap){id rs n:Nat}{rows:T (List d9)}(o:m.get id=some (.cells rs n rows)):
  ∀(k off:Nat) (l:List d9),Q7 rs n rows k off=some l->l.length=k∧aM (m.nm ι) l∧oI ι w id off l:=by
 intro k;induction k with
 | zero=>intro off l h;rw [Gb] at h;cases h;exact⟨rfl,trivial,λj v q=>by simp at q⟩
 | succ k ih=>
  intro off l h;rw [Gc] at h;obtain⟨v,g,h⟩:=u6 h;obtain⟨r,i,h⟩:=u6 h;cases h;obtain⟨b,c⟩:=BF p o g;obtain⟨d,e,f⟩:=ih _ _ i;refine⟨by simp [d],⟨c,e⟩,λj u a=>?_⟩;cases j with
  | zero=>simp at a;subst a;exact b
  | succ j=>rw [show off+(j+1)=off+1+j from by omega];exact f j u (by simpa using a)
theorem kg (e:RM P G ι m w.heap){id off k:Nat}{l:List d9}(h:U8 m id off k=some l):
  l.length=k∧aM (m.nm ι) l∧oI ι w id off l:=by
 cases k with
 | zero=>cases h;exact⟨rfl,trivial,λj v f=>by simp at f⟩
 | succ k=>have h:Q6 (m.get id) (λb n a=>Q7 b n a (k+1) off)=some l:=h;obtain⟨b,n,a,c,d⟩:=dh h;exact uI e c _ _ _ d
theorem LK {a:Addr}{v:Value}(h:w.cell? a=some v):(load a).run P w=.ok v w:=by simp [h]
theorem yU {id off:Nat}:∀(l:List d9) (i:Nat) (acc:Array Value),(∀j v,l[j]?=some v->w.cell? (ι.at id (off+(i+j)))=some (l9 ι v))->
  (loadCellsFrom (ι.at id off) i l.length acc).run P w=.ok (acc++(o9 ι l).toArray) w:=by
 intro l;induction l with
 | nil=>intro i acc _;simp [loadCellsFrom,o9]
 | cons v l ih=>intro i acc h;have a:w.cell? (ι.at id (off+i))=some (l9 ι v):=h 0 v rfl;simp only [Y1,loadCellsFrom,Xb,J5.oF];rw [LK a,J4,ih (i+1) _ (λj u b=>by rw [show i+1+j=i+(j+1) from by omega];exact h (j+1) u (by simpa using b))];simp [o9]
theorem qo {id off:Nat}{l:List d9}(h:oI ι w id off l):(loadCells (ι.at id off) l.length).run P w=.ok (o9 ι l).toArray w:=by have:=yU (P:=P) (ι:=ι) (w:=w) (id:=id) (off:=off) l 0 #[] (λj v a=>by simpa using h j v a);simpa [loadCells] using this
theorem gX {id off len cap es n:Nat}{l:List d9}(a:l.length=n*es)(h:oI ι w id off l):
  (Builtin.firstCells es n (.slice (some (ι.at id off)) len cap)).run P w=.ok (o9 ι l).toArray w:=by
 simp only [Builtin.firstCells];rw [← a];exact qo h
end
section
variable {P:Program}{G:Mem}{ι:J5}{m:Mem}{w:World}{slots:List Nat}{done:List (Option Nat)}{ls:List d9}{env:T d9}{a:Act}
theorem wQ {t:TypeId}{e:Option Nat}(j:partT P t=some e)(d:RM P G ι m w.heap){id off:Nat}{v:d9}
  (o:Q6 (m.get id) (λrs n rows=>match e with | none=>cell1 rs n rows off | some k=>ob (jR rs n rows off k) λl=>some (.agg l))=some v):
  (loadVar t (ι.at id off)).run P w=.ok (l9 ι v) w∧v.lt (m.nm ι):=by
 obtain⟨rs,n,rows,c,h⟩:=dh o;rcases DR j with⟨rfl,ha,k,hk⟩ | ⟨k,rfl,ha,hk⟩;obtain⟨a,b⟩:=BF d c h;exact⟨by simp [loadVar,qI ha,a],b⟩;obtain⟨l,a,b⟩:=u6 h;cases b;obtain⟨f,g,i⟩:=Ju d c a;refine⟨?_,g⟩;have:=qo (P:=P) i;rw [f] at this;simp [loadVar,qI ha,run_sizeOf hk,this,l9]
theorem fZ {t:TypeId}(h:P.underlying t=some .bool∨(∃k,P.underlying t=some (.int k))∨P.underlying t=some .string)(e:Bool)(d:Nat)(v:Value)(w:World):
  (Instr.checkKey e (d+1) t v).run P w=.ok () w:=by
 rcases h with h | ⟨k,h⟩ | h<;>simp [Instr.checkKey,run_underlying h]
def pY (e:Bool)(d:Nat)(X:Array Value):List Field->Sem Unit
 | []=>pure ()
 | f::l=>do
  if f.name≠ "_" then Instr.checkKey e d f.type (← part f.type X f.offset)
  pY e d X l
theorem Pf (e:Bool)(d:Nat)(X:Array Value)(l:List Field):
  (forIn l PUnit.unit λf _=>do
    if f.name≠ "_" then Instr.checkKey e d f.type (← part f.type X f.offset)
    pure (ForInStep.yield PUnit.unit):Sem PUnit)=pY e d X l:=by
 induction l with
 | nil=>simp [pY]
 | cons f l ih=>rw [ahO];simp only [pY];rw [← ih];by_cases hf:f.name= "_";simp [hf];simp [hf]
theorem Cr {t:TypeId}{a:Array Field}(h:P.underlying t=some (.struct a))(e:Bool)(d:Nat)(X:Array Value)(w:World):
  (Instr.checkKey e (d+1) t (.agg X)).run P w=(pY e d X a.toList).run P w:=by
 simp only [Instr.checkKey,Xb,run_underlying h,J4];rw [← ahW,← Pf];generalize (forIn a.toList PUnit.unit _:Sem PUnit)=r;simp;cases r.run P w<;>rfl
theorem Pg:∀(d:Nat) (t:TypeId) (ks:List PK),fB P d t=some ks->∃agg,wF P t=some agg∧aH P t=some ks.length∧(agg=false->ks.length=1)∧
  ∀D,d<=D->∀(l:List d9),ks.length<=l.length->∀(e:Bool) w,(Instr.checkKey e D t (mkV ι agg l)).run P w=.ok () w:=by
 intro d;induction d with
 | zero=>intro t ks h;simp [fB] at h
 | succ d ih=>
  intro t ks h;obtain⟨agg,k,i,n,_⟩:=GI (P:=P) (ι:=ι) (d+1) t ks h;refine⟨agg,k,i,n,λD s l v e w=>?_⟩;obtain⟨D,rfl⟩:∃D',D=D'+1:=⟨D-1,by omega⟩;simp only [fB] at h;cases hu:P.underlying t with
  | none=>simp [hu] at h
  | some u=>
   rw [hu] at h;cases u<;>try (simp at h;done)
   exact fZ (.inl hu) e D _ w;exact fZ (.inr (.inl ⟨_,hu⟩)) e D _ w;exact fZ (.inr (.inr hu)) e D _ w;rename_i p;rw [pW hu] at k;cases k;simp only at h;cases hf:oz (fB P d) p.toList 0 with
   | none=>simp [hf] at h
   | some ks'=>
    simp only [hf] at h;split at h;rename_i x;cases h;simp only [mkV,if_true];rw [Cr hu];have o:∀(j:List Field) (c:Nat) (a:List PK),c+a.length<=l.length->oz (fB P d) j c=some a->
      (pY e D (o9 ι l).toArray j).run P w=.ok () w:=by
     intro j;induction j with
     | nil=>intro c a _ _;simp [pY]
     | cons f j ihl=>
      intro c a m b;simp only [oz] at b;split at b;rename_i q;cases hk:fB P d f.type with
      | none=>simp [hk] at b
      | some kf=>
       simp only [hk] at b;cases hrest:oz (fB P d) j (c+kf.length) with
       | none=>simp [hrest] at b
       | some kr=>
        simp only [hrest,J3] at b;subst b;simp only [Z8] at m;obtain⟨agg,k,i,n,r⟩:=ih f.type kf hk;simp only [pY,if_pos q.1,Xb];rw [q.2,uF k i _ _ (λg=>⟨by have:=n g;omega,n g⟩),J4,
         r D (by omega) _ (by simp;omega) e w,J4]
        exact ihl (c+kf.length) kr (by omega) hrest
      cases b
    exact o p.toList 0 _ (by omega) hf;cases h
end
section
variable {P:Program}{G:Mem}{ι:J5}
theorem GK {t:TypeId}{k:Aa}(h:tH P t=some k):Vr P false t=some k∧((∃j,k=.prim j)∨∃ks,k=.flat ks):=by simp only [tH] at h;split at h;cases h;exact⟨by assumption,.inl ⟨_,rfl⟩⟩;cases h;exact⟨by assumption,.inr ⟨_,rfl⟩⟩;cases h
theorem dG (f:FJ)(k:d9)(i:Nat):findKey f k [] i=some none:=rfl
theorem dH (f:FJ)(k:d9)(e:d9×d9)(es:List (d9×d9))(i:Nat):
  findKey f k (e::es) i=ob (f k e.1) λb=>bi b (some (some (i,e.2))) (findKey f k es (i+1)):=rfl
def ng (ι:J5)(r:Option (Nat×d9)):Option (Nat×Value):=r.map λp=>(p.1,l9 ι p.2)
theorem wR {f:FJ}{d:TypeDesc}(hs:∀x y r,f x y=some r->Instr.sameNow d (l9 ι x) (l9 ι y)=some r)(k:d9):
  ∀(es:List (d9×d9)) (i j:Nat) (r:Option (Nat×d9)),findKey f k es i=some r->Instr.findNow d (l9 ι k) (I6 ι es j) i=some (ng ι r)
 | [],i,j,r,h=>by rw [dG] at h;cases h;rfl
 | e::es,i,j,r,h=>by
  rw [dH] at h;obtain⟨b,h1,h2⟩:=u6 h;simp only [I6,Instr.findNow,hs _ _ _ h1];cases b with
  | true=>cases h2;rfl
  | false=>exact wR hs k es (i+1) (j+1) r h2
theorem qL {f:FJ}{t:TypeId}(hs:∀x y r,f x y=some r->∀w,(Op.equal t (l9 ι x) (l9 ι y)).run P w=.ok r w)(k:d9)(w:World):
  ∀(es:List (d9×d9)) (i j:Nat) (r:Option (Nat×d9)),findKey f k es i=some r->(Instr.findAsking t (l9 ι k) (I6 ι es j) i).run P w=.ok (ng ι r) w
 | [],i,j,r,h=>by rw [dG] at h;cases h;simp [I6,Instr.findAsking,ng]
 | e::es,i,j,r,h=>by
  rw [dH] at h;obtain⟨b,h1,h2⟩:=u6 h;simp only [I6,Instr.findAsking,Xb,hs _ _ _ h1 w,J4];cases b with
  | true=>cases h2;simp [ng]
  | false=>simpa using qL hs k w es (i+1) (j+1) r h2
theorem ko {f:FJ}{n:Nat}{k:d9}{es:List (d9×d9)}{r:Option (Nat×d9)}(h:P7 f n k es=some r):
  k.cells.length=n∧(∃y b,f k y=some b)∧findKey f k es 0=some r:=by
 obtain⟨a,h⟩:=C8 h;have a:=gI a;rw [I5] at a;refine⟨a,?_⟩;cases es with
 | nil=>obtain⟨b,c,d⟩:=u6 (show ob (f k k) (λ_=>some none)=some r from h);exact⟨⟨_,_,c⟩,by rw [dG];exact d⟩
 | cons e es=>have h:findKey f k (e::es) 0=some r:=h;refine⟨?_,h⟩;rw [dH] at h;obtain⟨b,c,_⟩:=u6 h;exact⟨_,_,c⟩
theorem vO {kk:Aa}{t:TypeId}(d:tH P t=some kk):
  (kk=.prim .b∧P.underlying t=some .bool)∨(∃k,kk=.prim .i∧P.underlying t=some (.int k))∨(kk=.prim .s∧P.underlying t=some .string)∨
  ∃fs ks,kk=.flat ks∧P.underlying t=some (.struct fs)∧fB P 10 t=some ks:=by
 obtain⟨a,c⟩:=GK d;simp only [Vr] at a;cases hu:P.underlying t with
 | none=>simp [hu] at a
 | some u=>
  rw [hu] at a;cases u<;>try (simp at a;done)
  simp only [J3] at a;subst a;simp;simp only [J3] at a;subst a;simp;simp only [J3] at a;subst a;simp;simp only at a;split at a;cases a;rcases c with⟨_,c⟩ | ⟨_,c⟩<;>cases c
  cases a;simp only [J3] at a;subst a;rcases c with⟨_,c⟩ | ⟨_,c⟩<;>cases c
  simp only [J3] at a;subst a;rcases c with⟨_,c⟩ | ⟨_,c⟩<;>cases c
  rename_i fs;simp only at a;cases hf:fB P 10 t with
  | none=>simp [hf] at a
  | some ks=>simp only [hf] at a;split at a;cases a;exact .inr (.inr (.inr ⟨fs,ks,rfl,rfl,rfl⟩));cases a
  simp only [J3] at a;subst a;rcases c with⟨_,c⟩ | ⟨_,c⟩<;>cases c
theorem CU {kk:Aa}{t:TypeId}(f:tH P t=some kk){k y:d9}{b:Bool}(g:k.cells.length=Af kk)(h:mM kk k y=some b)(e:Bool)(w:World):
  (Instr.checkKey e 10000 t (l9 ι k)).run P w=.ok () w:=by
 rcases vO f with⟨rfl,hu⟩ | ⟨_,rfl,hu⟩ | ⟨rfl,hu⟩ | ⟨fs,ks,rfl,hu,hf⟩;exact fZ (.inl hu) e _ _ w;exact fZ (.inr (.inl ⟨_,hu⟩)) e _ _ w;exact fZ (.inr (.inr hu)) e _ _ w;obtain⟨l,rfl,_⟩:=dX h;obtain⟨c,a,_,_,d⟩:=Pg (P:=P) (ι:=ι) 10 t ks hf;rw [pW hu] at a;cases a;have:=d 10000 (by decide) l (Nat.le_of_eq g.symm) e w;simpa [mkV,l9] using this
theorem SH {kk:Aa}{d:TypeDesc}(h:(kk=.prim .b∧d=.bool)∨(∃k,kk=.prim .i∧d=.int k)∨(kk=.prim .s∧d=.string))(x y:d9)(r:Bool)(c:mM kk x y=some r):
  Instr.sameNow d (l9 ι x) (l9 ι y)=some r:=by
 rcases h with⟨rfl,rfl⟩ | ⟨k,rfl,rfl⟩ | ⟨rfl,rfl⟩;obtain⟨a,b,rfl,rfl,rfl⟩:=gW c;simp [l9,Instr.sameNow];obtain⟨k,a,b,rfl,rfl,rfl⟩:=oH c;simp [l9,Instr.sameNow];obtain⟨a,b,rfl,rfl,rfl⟩:=jr c;simp [l9,Instr.sameNow,lS]
theorem lT {kk:Aa}{t:TypeId}(f:tH P t=some kk){k:d9}{es:List (d9×d9)}{r:Option (Nat×d9)}(h:findKey (mM kk) k es 0=some r)(w:World):
  (Instr.findKey t (l9 ι k) (I6 ι es 0)).run P w=.ok (ng ι r) w:=by
 have a:∀d,P.underlying t=some d->((kk=.prim .b∧d=.bool)∨(∃k,kk=.prim .i∧d=.int k)∨(kk=.prim .s∧d=.string))->
   (Instr.findKey t (l9 ι k) (I6 ι es 0)).run P w=.ok (ng ι r) w:=by
  intro d c j;simp [Instr.findKey,run_underlying c,wR (SH j) k es 0 0 r h]
 rcases vO f with⟨rfl,c⟩ | ⟨_,rfl,c⟩ | ⟨rfl,c⟩ | ⟨fs,ks,rfl,c,hf⟩;exact a _ c (.inl ⟨rfl,rfl⟩);exact a _ c (.inr (.inl ⟨_,rfl,rfl⟩));exact a _ c (.inr (.inr ⟨rfl,rfl⟩));have g:=qL (P:=P) (ι:=ι) (t:=t) (λx y r l w=>BD (GK f).1 l w) k w es 0 0 r h;cases es with
 | nil=>rw [dG] at h;cases h;simp [Instr.findKey,run_underlying c,I6,Instr.findNow,ng]
 | cons e es=>simp only [Instr.findKey,Xb,run_underlying c,J4];simp only [I6,Instr.findNow,Instr.sameNow];exact g
theorem lH {f:FJ}{k:d9}:∀{es:List (d9×d9)} {i:Nat} {p:Nat×d9},findKey f k es i=some (some p)->
  ∃j e,p.1=i+j∧es[j]?=some e∧e.2=p.2∧f k e.1=some true
 | [],i,p,h=>by rw [dG] at h;cases h
 | e::es,i,p,h=>by
  rw [dH] at h;obtain⟨b,h1,h2⟩:=u6 h;cases b with
  | true=>cases h2;exact⟨0,e,rfl,rfl,rfl,h1⟩
  | false=>obtain⟨j,e',h3,h4,h5⟩:=lH h2;exact⟨j+1,e',by omega,by simpa using h4,h5⟩
end
section
variable {P:Program}{G:Mem}{slots:List Nat}{done:List (Option Nat)}
inductive qp (P:Program)(slots:List Nat)(done:List (Option Nat)):Op->OG->Prop
 | load {t x sz x'}:partT P t=some sz->K7 P slots done x=some x'->qp P slots done (.load t x) (.load sz x')
 | look {t kt e kk z ok x k x' k'}:P.underlying t=some (.map kt e)->tH P kt=some kk->zeroV P e=some z->K7 P slots done x=some x'->K7 P slots done k=some k'->
   qp P slots done (.lookup t x k ok) (.look kk z ok x' k')
 | lenM {c t kt e x x'}:c.callee=.builtin .len->c.argTypes.toList=[t]->c.args.toList=[x]->P.underlying t=some (.map kt e)->K7 P slots done x=some x'->
   qp P slots done (.call c) (.lenM x')
 | slData {c t e x x'}:c.callee=.builtin .unsafeSliceData->c.argTypes.toList=[t]->c.args.toList=[x]->P.underlying t=some (.slice e)->K7 P slots done x=some x'->qp P slots done (.call c) (.slData x')
 | toUns {a b t x x' k}:P.underlying a=some (.pointer t)->P.underlying b=some .unsafePointer->aH P t=some k->k≠0->K7 P slots done x=some x'->qp P slots done (.convert a b x) (.toUns x')
 | fromUns {a b u x x' k}:P.underlying a=some .unsafePointer->P.underlying b=some (.pointer u)->aH P u=some k->k≠0->K7 P slots done x=some x'->qp P slots done (.convert a b x) (.fromUns (Lm P u) x')
 | bytesStr {a b e x x'}:P.underlying a=some (.slice e)->P.underlying b=some .string->P.underlying e=some (.int .u8)->K7 P slots done x=some x'->
   qp P slots done (.convert a b x) (.bytesStr x')
 | entry {x x'}:K7 P slots done x=some x'->qp P slots done (.entry x) (.entry x')
set_option maxHeartbeats 1000000 in
theorem uJ {n:Op}{ro:OG}(h:fV P slots done n=some (.r ro)):qp P slots done n ro:=by
 cases n with
 | load t x=>obtain⟨B,g,h⟩:=bind_eq h;obtain⟨i,d,h⟩:=bind_eq h;cases h;exact .load g d
 | lookup t x k ok=>obtain⟨u,e,h⟩:=bind_eq h;split at h;obtain⟨A,g,h⟩:=bind_eq h;obtain⟨z,d,h⟩:=bind_eq h;obtain⟨i,p,h⟩:=bind_eq h;obtain⟨y,q,h⟩:=bind_eq h;cases h;exact .look e g d p q;cases h
 | entry x=>obtain⟨i,d,h⟩:=bind_eq h;cases h;exact .entry d
 | convert a b x=>obtain⟨u,e,h⟩:=bind_eq h;obtain⟨v,l,h⟩:=bind_eq h;split at h;obtain⟨_,_,h⟩:=bind_eq h;cases h;obtain⟨_,_,h⟩:=bind_eq h;split at h;obtain⟨_,_,h⟩:=bind_eq h;cases h;cases h;obtain⟨w,s,h⟩:=bind_eq h;split at h;obtain⟨i,f,h⟩:=bind_eq h;cases h;exact .bytesStr e l s f;cases h;obtain⟨k,j,h⟩:=bind_eq h;split at h;cases h;obtain⟨i,f,h⟩:=bind_eq h;cases h;exact .toUns e l j (by assumption) f;obtain⟨k,j,h⟩:=bind_eq h;split at h;cases h;obtain⟨i,f,h⟩:=bind_eq h;cases h;exact .fromUns e l j (by assumption) f;cases h
 | call c=>
  simp only [fV] at h;split at h
  ·rename_i b o;simp only [uo] at h;split at h;rename_i g d;obtain⟨u,e,h⟩:=bind_eq h;split at h;obtain⟨_,_,h⟩:=bind_eq h;cases h;obtain⟨_,_,h⟩:=bind_eq h;cases h;cases h;obtain⟨i,f,h⟩:=bind_eq h;cases h;exact .lenM o g d e f;cases h
   case h_9 g d=>obtain⟨u,e,h⟩:=bind_eq h;split at h;obtain⟨i,f,h⟩:=bind_eq h;cases h;exact .slData o g d e f;cases h
   all_goals (repeat' (first | (cases h;done) | (obtain⟨_,_,h⟩:=bind_eq h) | split at h))
  ·obtain⟨_,_,h⟩:=bind_eq h;repeat' (first | (cases h;done) | (obtain⟨_,_,h⟩:=bind_eq h) | split at h)
  obtain⟨_,_,h⟩:=bind_eq h;obtain⟨_,_,h⟩:=bind_eq h;cases h;cases h
 | build t parts=>simp only [fV,xG] at h;repeat' (first | (cases h;done) | split at h)
 | slice t x lo hi mx=>
  cases mx with
  | some m=>simp only [fV] at h;cases h
  | none=>simp only [fV] at h;repeat' (first | (cases h;done) | (obtain⟨_,_,h⟩:=bind_eq h) | split at h)
 | next it str=>
  cases str with
  | true=>simp only [fV] at h;obtain⟨_,_,h⟩:=bind_eq h;cases h
  | false=>simp only [fV] at h;obtain⟨_,_,h⟩:=bind_eq h;cases h
 | _=>simp only [fV] at h;repeat' (first | (cases h;done) | (obtain⟨_,_,h⟩:=bind_eq h) | split at h)
inductive mW (P:Program)(slots:List Nat)(done:List (Option Nat)):Op->Sk->Prop
 | alloc {t z}:qG P t=some z->mW P slots done (.alloc t) (.alloc z)
 | box {t x x'}:K7 P slots done x=some x'->mW P slots done (.box t x) (.box x')
 | allocT {t z}:Co P t=some z->mW P slots done (.alloc t) (.allocT t z)
 | boxT {t k x x'}:aH P t=some k->K7 P slots done x=some x'->mW P slots done (.box t x) (.boxT t k x')
 | buildSlice {t len parts e es ps z}:P.underlying t=some (.slice e)->aH P e=some es->um P slots done (λi=>some (i*es,es)) parts.toList=some ps->len*es<=16777216->
   qG P e=some z->mW P slots done (.buildSlice t len parts) (.buildSlice es len z ps)
 | mkMap {t}:mW P slots done (.makeMap t none) .mkMap
 | mkMapN {t k n kt e}:P.underlying t=some (.map kt e)->mW P slots done (.makeMap t (some (.const (.int k n)))) .mkMap
 | mkSlice {t l c e es by' z l' c'}:P.underlying t=some (.slice e)->aH P e=some es->fK P e=some by'->Co P e=some z->K7 P slots done l=some l'->K7 P slots done c=some c'->
   mW P slots done (.makeSlice t l c) (.mkSlice es by' z l' c')
 | strBytes {a b e x x'}:P.underlying a=some .string->P.underlying b=some (.slice e)->P.underlying e=some (.int .u8)->K7 P slots done x=some x'->
   mW P slots done (.convert a b x) (.strBytes x')
 | sl {t x lo hi e es x' lo' hi'}:P.underlying t=some (.slice e)->aH P e=some es->K7 P slots done x=some x'->cOpt P slots done lo=some lo'->cOpt P slots done hi=some hi'->
   mW P slots done (.slice t x lo hi none) (.sl es x' lo' hi')
set_option maxHeartbeats 1000000 in
theorem yV {n:Op}{lo:Sk}(h:fV P slots done n=some (.a lo)):mW P slots done n lo:=by
 cases n with
 | alloc t=>simp only [fV] at h;split at h;obtain⟨z,d,h⟩:=bind_eq h;cases h;exact .allocT d;obtain⟨z,d,h⟩:=bind_eq h;cases h;exact .alloc d
 | box t x=>simp only [fV] at h;split at h;obtain⟨k,d,h⟩:=bind_eq h;obtain⟨z,f,h⟩:=bind_eq h;cases h;exact .boxT d f;obtain⟨z,d,h⟩:=bind_eq h;cases h;exact .box d
 | buildSlice t len parts=>obtain⟨u,e,h⟩:=bind_eq h;split at h;obtain⟨y,d,h⟩:=bind_eq h;obtain⟨A,f,h⟩:=bind_eq h;split at h;rename_i j;obtain⟨z,g,h⟩:=bind_eq h;cases h;exact .buildSlice e d f j g;cases h;cases h
 | makeMap t r=>simp only [fV] at h;split at h;cases h;exact .mkMap;split at h;rename_i e;cases h;exact .mkMapN e;cases h;cases h
 | makeSlice t l c=>obtain⟨u,e,h⟩:=bind_eq h;split at h;obtain⟨_,d,h⟩:=bind_eq h;obtain⟨_,f,h⟩:=bind_eq h;obtain⟨_,g,h⟩:=bind_eq h;obtain⟨_,i,h⟩:=bind_eq h;obtain⟨_,q,h⟩:=bind_eq h;cases h;exact .mkSlice e d f g i q;cases h
 | convert a b x=>obtain⟨u,e,h⟩:=bind_eq h;obtain⟨v,s,h⟩:=bind_eq h;split at h;obtain⟨_,_,h⟩:=bind_eq h;cases h;obtain⟨w,o,h⟩:=bind_eq h;split at h;obtain⟨_,p,h⟩:=bind_eq h;cases h;exact .strBytes e s o p;cases h;obtain⟨w,o,h⟩:=bind_eq h;split at h;obtain⟨B,p,h⟩:=bind_eq h;cases h;cases h;all_goals (repeat' (first | (cases h;done) | (obtain⟨_,_,h⟩:=bind_eq h) | split at h))
 | slice t x lo hi mx=>
  cases mx with
  | some m=>simp only [fV] at h;cases h
  | none=>simp only [fV] at h;obtain⟨u,e,h⟩:=bind_eq h;split at h;obtain⟨_,_,h⟩:=bind_eq h;obtain⟨_,_,h⟩:=bind_eq h;obtain⟨_,_,h⟩:=bind_eq h;cases h;obtain⟨_,d,h⟩:=bind_eq h;obtain⟨_,f,h⟩:=bind_eq h;obtain⟨_,g,h⟩:=bind_eq h;obtain⟨_,i,h⟩:=bind_eq h;cases h;exact .sl e d f g i;obtain⟨_,_,h⟩:=bind_eq h;obtain⟨_,_,h⟩:=bind_eq h;obtain⟨_,_,h⟩:=bind_eq h;obtain⟨_,_,h⟩:=bind_eq h;cases h;cases h
 | call c=>
  simp only [fV] at h;split at h
  ·simp only [uo] at h;split at h;all_goals (repeat' (first | (cases h;done) | (obtain⟨_,_,h⟩:=bind_eq h) | split at h))
  ·obtain⟨_,_,h⟩:=bind_eq h;repeat' (first | (cases h;done) | (obtain⟨_,_,h⟩:=bind_eq h) | split at h)
  obtain⟨_,_,h⟩:=bind_eq h;obtain⟨_,_,h⟩:=bind_eq h;cases h;cases h
 | build t parts=>simp only [fV,xG] at h;repeat' (first | (cases h;done) | split at h)
 | next it str=>
  cases str with
  | true=>simp only [fV] at h;obtain⟨_,_,h⟩:=bind_eq h;cases h
  | false=>simp only [fV] at h;obtain⟨_,_,h⟩:=bind_eq h;cases h
 | _=>simp only [fV] at h;repeat' (first | (cases h;done) | (obtain⟨_,_,h⟩:=bind_eq h) | split at h)
inductive kV (P:Program)(slots:List Nat)(done:List (Option Nat)):Op->UA->Prop
 | store {t a x k a' x'}:aH P t=some k->K7 P slots done a=some a'->K7 P slots done x=some x'->kV P slots done (.store t a x) (.store k a' x')
 | mapUpdate {t m k x kt e kk m' k' x'}:P.underlying t=some (.map kt e)->tH P kt=some kk->K7 P slots done m=some m'->K7 P slots done k=some k'->K7 P slots done x=some x'->
   kV P slots done (.mapUpdate t m k x) (.mapSet kk m' k' x')
 | insert {t m k x kt e kk m' k' x'}:P.underlying t=some (.map kt e)->tH P kt=some kk->K7 P slots done m=some m'->K7 P slots done k=some k'->K7 P slots done x=some x'->
   kV P slots done (.insert t m k x) (.mapSet kk m' k' x')
 | range {t x k e x'}:P.underlying t=some (.map k e)->K7 P slots done x=some x'->kV P slots done (.range t x) (.range x')
 | next {x x'}:K7 P slots done x=some x'->kV P slots done (.next x false) (.next x')
 | app {c t u s x e es z by' s' x' d}:P.underlying u=some d->c.callee=.builtin .append->c.argTypes.toList=[t,u]->c.args.toList=[s,x]->P.underlying t=some (.slice e)->
   aH P e=some es->Co P e=some z->fK P e=some by'->K7 P slots done s=some s'->K7 P slots done x=some x'->
   kV P slots done (.call c) (.app es (match d with | .int _=>true | _=>false) z by' s' x')
 | copy {c t u d s e es d' s'}:c.callee=.builtin .copy->c.argTypes.toList=[t,u]->c.args.toList=[d,s]->P.underlying t=some (.slice e)->
   aH P e=some es->K7 P slots done d=some d'->K7 P slots done s=some s'->kV P slots done (.call c) (.copy es d' s')
 | clear {c t x e z x'}:c.callee=.builtin .clear->c.argTypes.toList=[t]->c.args.toList=[x]->P.underlying t=some (.slice e)->
   qG P e=some z->K7 P slots done x=some x'->kV P slots done (.call c) (.clear z x')
 | call {c f fn as}:c.callee=.value (.func f)->P.funcs[f]?=some fn->fn.body.isSome=true->fn.name≠ "runtime.NumGoroutine"->jF P slots done c.args.toList=some as->
   kV P slots done (.call c) (.call f as)
 | rangeS {t x x'}:P.underlying t=some .string->K7 P slots done x=some x'->kV P slots done (.range t x) (.rangeS x')
 | nextS {x x'}:K7 P slots done x=some x'->kV P slots done (.next x true) (.nextS x')
 | appB {c t u s x e s' x'}:P.underlying u=some .string->c.callee=.builtin .append->c.argTypes.toList=[t,u]->c.args.toList=[s,x]->P.underlying t=some (.slice e)->Bw P e=true->
   K7 P slots done s=some s'->K7 P slots done x=some x'->kV P slots done (.call c) (.appB e s' x')
 | ustr {c t u p n e p' n'}:c.callee=.builtin .unsafeString->c.argTypes.toList=[t,u]->c.args.toList=[p,n]->P.underlying t=some (.pointer e)->Bw P e=true->
   K7 P slots done p=some p'->K7 P slots done n=some n'->kV P slots done (.call c) (.ustr e p' n')
 | panic {x x'}:K7 P slots done x=some x'->kV P slots done (.panic x) (.panic x')
 | defer {c f f' as}:c.callee=.value f->K7 P slots done f=some f'->jF P slots done c.args.toList=some as->kV P slots done (.defer c) (.defer f' as)
 | recover {c}:c.callee=.builtin .recover->kV P slots done (.call c) .recover
 | callv {c f f' as}:c.callee=.value f->K7 P slots done f=some f'->jF P slots done c.args.toList=some as->
   kV P slots done (.call c) (.callv f' as)
set_option maxHeartbeats 1000000 in
theorem yX {y:Op}{eo:UA}(h:fV P slots done y=some (.e eo)):kV P slots done y eo:=by
 cases y with
 | store t a x=>obtain⟨_,g,h⟩:=bind_eq h;obtain⟨_,i,h⟩:=bind_eq h;obtain⟨_,l,h⟩:=bind_eq h;cases h;exact .store g i l
 | mapUpdate t m k x=>obtain⟨u,j,h⟩:=bind_eq h;split at h;obtain⟨_,g,h⟩:=bind_eq h;obtain⟨_,i,h⟩:=bind_eq h;obtain⟨_,l,h⟩:=bind_eq h;obtain⟨_,n,h⟩:=bind_eq h;cases h;exact .mapUpdate j g i l n;cases h
 | insert t m k x=>obtain⟨u,j,h⟩:=bind_eq h;split at h;obtain⟨_,g,h⟩:=bind_eq h;obtain⟨_,i,h⟩:=bind_eq h;obtain⟨_,l,h⟩:=bind_eq h;obtain⟨_,n,h⟩:=bind_eq h;cases h;exact .insert j g i l n;cases h
 | range t x=>obtain⟨u,j,h⟩:=bind_eq h;split at h;obtain⟨_,g,h⟩:=bind_eq h;cases h;exact .range j g;obtain⟨_,g,h⟩:=bind_eq h;cases h;exact .rangeS j g;cases h
 | next it str=>
  cases str with
  | true=>simp only [fV] at h;obtain⟨_,g,h⟩:=bind_eq h;cases h;exact .nextS g
  | false=>simp only [fV] at h;obtain⟨_,g,h⟩:=bind_eq h;cases h;exact .next g
 | panic x=>obtain⟨_,g,h⟩:=bind_eq h;cases h;exact .panic g
 | defer c=>simp only [fV] at h;split at h;obtain⟨_,g,h⟩:=bind_eq h;obtain⟨_,i,h⟩:=bind_eq h;cases h;exact .defer (by assumption) g i;cases h
 | convert a b x=>obtain⟨u,j,h⟩:=bind_eq h;obtain⟨v,D,h⟩:=bind_eq h;repeat' (first | (cases h;done) | (obtain⟨_,_,h⟩:=bind_eq h) | split at h)
 | slice t x lo hi mx=>
  cases mx with
  | some m=>simp only [fV] at h;cases h
  | none=>simp only [fV] at h;repeat' (first | (cases h;done) | (obtain⟨_,_,h⟩:=bind_eq h) | split at h)
 | call c=>
  simp only [fV] at h;split at h
  ·rename_i b p;simp only [uo] at h;split at h
   ·repeat' (first | (cases h;done) | (obtain⟨_,_,h⟩:=bind_eq h) | split at h)
   ·repeat' (first | (cases h;done) | (obtain⟨_,_,h⟩:=bind_eq h) | split at h)
   rename_i g i;obtain⟨u,j,h⟩:=bind_eq h;split at h;obtain⟨d,z,h⟩:=bind_eq h;split at h;rename_i o;obtain⟨_,r,h⟩:=bind_eq h;obtain⟨_,s,h⟩:=bind_eq h;cases h;rw [q8] at o;have:d=.string:=by have:=o.1;cases d<;>first | rfl | cases this
   exact .appB (by rw [z,this]) p g i j o.2 r s;obtain⟨_,l,h⟩:=bind_eq h;obtain⟨_,n,h⟩:=bind_eq h;obtain⟨_,q,h⟩:=bind_eq h;obtain⟨_,r,h⟩:=bind_eq h;obtain⟨_,s,h⟩:=bind_eq h;cases h;exact .app z p g i j l n q r s;cases h;rename_i g i;obtain⟨u,j,h⟩:=bind_eq h;split at h;obtain⟨_,l,h⟩:=bind_eq h;obtain⟨_,n,h⟩:=bind_eq h;obtain⟨_,q,h⟩:=bind_eq h;cases h;exact .copy p g i j l n q;cases h;rename_i g i;obtain⟨u,j,h⟩:=bind_eq h;split at h;obtain⟨_,l,h⟩:=bind_eq h;obtain⟨_,n,h⟩:=bind_eq h;cases h;exact .clear p g i j l n;cases h
   case h_10 g i=>obtain⟨u,j,h⟩:=bind_eq h;split at h;split at h;rename_i o;obtain⟨_,l,h⟩:=bind_eq h;obtain⟨_,n,h⟩:=bind_eq h;cases h;exact .ustr p g i j o l n;cases h;cases h
   all_goals (first | (cases h;exact .recover p;done) | (repeat' (first | (cases h;done) | (obtain⟨_,_,h⟩:=bind_eq h) | split at h)))
  ·rename_i f A;obtain⟨C,g,h⟩:=bind_eq h;split at h;rename_i w;obtain⟨B,i,h⟩:=bind_eq h;cases h;simp only [q8,bne_iff_ne,ne_eq] at w;exact .call A g w.1 w.2 i
   ·repeat' (first | (cases h;done) | (obtain⟨_,_,h⟩:=bind_eq h) | split at h)
  rename_i f A _;obtain⟨_,g,h⟩:=bind_eq h;obtain⟨_,i,h⟩:=bind_eq h;cases h;exact .callv (by assumption) g i;cases h
 | build t parts=>simp only [fV,xG] at h;repeat' (first | (cases h;done) | split at h)
 | _=>simp only [fV] at h;repeat' (first | (cases h;done) | (obtain⟨_,_,h⟩:=bind_eq h) | split at h)
end
section
variable {P:Program}{G:Mem}{ι:J5}{m:Mem}{w:World}{slots:List Nat}{done:List (Option Nat)}{ls:List d9}{env:T d9}{a:Act}
def QO (P:Program)(ρ:Operand->Value)(op:Op)(v:Value)(w:World):Prop:=
 ∀(o:Oper),o.op=op->(execOp ρ o).run P w=.ok (.value v) w
theorem fD {r:Nat}{o:Obj}(h:w.heap[r]?=some o)(a:∀c e fz,o≠.cells c e fz):(getObj r).run P w=.ok o w:=by simp only [getObj,Sem.run,h]
theorem Jv (f:RM P G ι m w.heap){id:Nat}{es:List (d9×d9)}(d:m.get id=some (.map es)):
  (getObj (ι id).b).run P w=.ok (.map (I6 ι es 0).toArray es.length) w∧∀e∈es,e.1.lt (m.nm ι)∧e.2.lt (m.nm ι):=by
 obtain⟨a,c⟩:=f.blk id _ d;exact⟨fD a (by intro _ _ _ e;cases e),c⟩
def uK (ι:J5)(ok:Bool)(z:d9)(r:Option (Nat×d9)):Value:=match r with
 | some p=>if ok then .tuple #[l9 ι p.2,.bool true] else l9 ι p.2
 | none=>if ok then .tuple #[l9 ι z,.bool false] else l9 ι z
theorem BG {ok:Bool}{z v:d9}{r:Option (Nat×d9)}(h:found ok z r=some v){n:Nm}(b:z.lt n)(a:∀p,r=some p->p.2.lt n):
  v.lt n∧l9 ι v=uK ι ok z r:=by
 cases r with
 | none=>have h:some (bi ok (.tuple [z,.bool false]) z)=some v:=h;cases h;cases ok<;>simp [bi,d9.lt,aM,l9,o9,b,uK]
 | some p=>have h:some (bi ok (.tuple [p.2,.bool true]) p.2)=some v:=h;cases h;have:=a p rfl;cases ok<;>simp [bi,d9.lt,aM,l9,o9,this,uK]
theorem yY (w:World){t f e:TypeId}{kk:Aa}{z:d9}(o:P.underlying t=some (.map f e))(m:tH P f=some kk)(I:zeroV P e=some z){ok:Bool}{k v:d9}
  {es:List (d9×d9)} {r:Option (Nat×d9)} {n:Nm} (h:∀e∈es,e.1.lt n∧e.2.lt n) (E:P7 (mM kk) (Af kk) k es=some r) (G:found ok z r=some v):
  v.lt n∧∀x,(x=.map none∧es=[])∨(∃b,x=.map (some b)∧∀w',w'=w->(getObj b).run P w'=.ok (.map (I6 ι es 0).toArray es.length) w')->
   (Instr.lookup t x (l9 ι k) ok).run P w=.ok (l9 ι v) w:=by
 obtain⟨A,⟨y,b,B⟩,d⟩:=ko E;obtain⟨c,i⟩:=nQ (w:=w) I ι;obtain⟨u,g⟩:=BG (ι:=ι) G (i n) (λp F=>by
  subst F;obtain⟨j,s,_,C,D,_⟩:=lH d;rw [← D];exact (h s (Xl C)).2)
 refine⟨u,λx H=>?_⟩;have l:=λq=>CU (ι:=ι) m A B q w;have a:=lT (ι:=ι) m d w;rcases H with⟨rfl,rfl⟩ | ⟨b,rfl,hb⟩;simp only [Instr.lookup,Xb,run_underlying o,J4,Z7,l];rw [show Instr.findKey f (l9 ι k) []=Instr.findKey f (l9 ι k) (I6 ι [] 0) from rfl,a];simp only [J4];rw [dG] at d;cases d;simp [ng,c,g,uK];simp only [Instr.lookup,Xb,run_underlying o,J4,hb w rfl,Z7,l];rw [a];simp only [J4];cases r with
 | none=>simp [ng,c,g,uK]
 | some p=>simp [ng,g,uK]
theorem CV {β:Type}{b:Option O6}{k:List (d9×d9)->Option β}{r:β}(h:Ci b k=some r):∃es,(b=some (.map es)∨b=some (.mapU es))∧k es=some r:=by
 match b,h with
 | some (.map es),h=>exact⟨es,.inl rfl,h⟩
 | some (.mapU es),h=>exact⟨es,.inr rfl,h⟩
def tJ (x:MapEntry):Value×Value:=(x.key,x.val)
theorem DX (d:TypeDesc)(k:Value):∀(L M:List MapEntry) (i:Nat),L.map tJ=M.map tJ->Instr.findNow d k L i=Instr.findNow d k M i
 | [],[],_,_=>rfl
 | [],_ :: _,_,h=>by cases h
 | _ :: _,[],_,h=>by cases h
 | x::L,y::M,i,h=>by simp only [Z6,aeg,tJ,agN] at h;obtain⟨⟨h1,h2⟩,h3⟩:=h;simp only [Instr.findNow,h1,h2,DX d k L M (i+1) h3]
theorem wT (t:TypeId)(k:Value):∀(L M:List MapEntry) (i:Nat),L.map tJ=M.map tJ->Instr.findAsking t k L i=Instr.findAsking t k M i
 | [],[],_,_=>rfl
 | [],_ :: _,_,h=>by cases h
 | _ :: _,[],_,h=>by cases h
 | x::L,y::M,i,h=>by simp only [Z6,aeg,tJ,agN] at h;obtain⟨⟨h1,h2⟩,h3⟩:=h;simp only [Instr.findAsking,h1,h2,wT t k L M (i+1) h3]
theorem DY (t:TypeId)(k:Value){L M:List MapEntry}(h:L.map tJ=M.map tJ):Instr.findKey t k L=Instr.findKey t k M:=by unfold Instr.findKey;congr 1;funext d;rw [DX d k L M 0 h,wT t k L M 0 h]
theorem BH {α β:Type}(f:α->β):∀{l:List β} {es:List α},l.Perm (es.map f)->∃es':List α,es'.Perm es∧l=es'.map f:=by
 intro l es h;generalize hm:es.map f=m at h;induction h generalizing es with
 | nil=>exact⟨[],by simp at hm;subst hm;exact .nil,rfl⟩
 | cons x h ih=>
  cases es with
  | nil=>cases hm
  | cons e es=>simp only [Z6,aeg] at hm;obtain⟨es',d,g⟩:=ih hm.2;exact⟨e::es',d.cons e,by rw [g,← hm.1];rfl⟩
 | swap x y l=>
  match es,hm with
  | a::b::es,hm=>simp only [Z6,aeg] at hm;exact⟨b::a::es,.swap _ _ _,by rw [← hm.1,← hm.2.1,← hm.2.2];rfl⟩
  | [],hm=>cases hm
  | [_],hm=>simp at hm
 | trans d g ih1 ih2=>obtain⟨i,j,n⟩:=ih2 hm;obtain⟨c,k,o⟩:=ih1 n.symm;exact⟨c,k.trans j,o⟩
theorem xM (ι:J5):∀(es:List (d9×d9)) (i:Nat),(I6 ι es i).map tJ=es.map λe=>(l9 ι e.1,l9 ι e.2)
 | [],_=>rfl
 | e::es,i=>by simp [I6,tJ,xM ι es]
theorem xO {s:List UInt8}:∀(es:List (d9×d9)) (i:Nat),(∀e∈es,∃t,e.1=.str t)->(∀e∈es,e.1≠.str s)->findKey eqStr (.str s) es i=some none
 | [],_,_,_=>rfl
 | e::es,i,h1,h2=>by obtain⟨t,ht⟩:=h1 e (by simp);have hne:s≠t:=λh=>h2 e (by simp) (by rw [ht,h]);rw [dH,ht];show ob (some (strEq s t)) _=_;rw [gV,beq_eq_false_iff_ne.2 hne];exact xO es (i+1) (λx hx=>h1 x (by simp [hx])) (λx hx=>h2 x (by simp [hx]))
theorem qb {s:List UInt8}{v:d9}:∀(es:List (d9×d9)) (i:Nat),(∀e∈es,∃t,e.1=.str t)->(es.map (·.1)).Nodup->(.str s,v)∈es->∃j,findKey eqStr (.str s) es i=some (some (i+j,v))∧es[j]?=some (.str s,v)
 | [],_,_,_,h=>by cases h
 | e::es,i,h1,h2,h3=>by
  obtain⟨t,ht⟩:=h1 e (by simp);rw [dH,ht];have hq:∀k:Bool->Option (Option (Nat×d9)),ob (eqStr (.str s) (.str t)) k=k (s==t):=λk=>by show k (strEq s t)=_;rw [gV]
  rw [hq];simp only [Z6,ad1] at h2;rcases Z4.1 h3 with h3 | h3;have:s=t:=by rw [← h3] at ht;simpa using ht
  subst this;refine⟨0,?_,by rw [← h3];rfl⟩;rw [beq_self_eq_true,← h3];rfl;have hne:s≠t:=λh=>h2.1 (by rw [ht,← h];exact acY.2 ⟨_,h3,rfl⟩);rw [beq_eq_false_iff_ne.2 hne];obtain⟨j,q1,q2⟩:=qb es (i+1) (λx hx=>h1 x (by simp [hx])) h2.2 h3;exact⟨j+1,by rw [show i+(j+1)=i+1+j from by omega];exact q1,q2⟩
theorem QS {kk:Aa}{t:TypeId}(c:tH P t=some kk){k:d9}{s:List UInt8}{b:Bool}(h:mM kk k (.str s)=some b):kk=.prim .s∧∃u,k=.str u:=by rcases vO c with⟨rfl,_⟩ | ⟨_,rfl,_⟩ | ⟨rfl,_⟩ | ⟨fs,ks,rfl,_,_⟩;obtain⟨_,_,_,h,_⟩:=gW h;cases h;obtain⟨_,_,_,_,h,_⟩:=oH h;cases h;obtain⟨a,_,h,_⟩:=jr h;exact⟨rfl,a,h⟩;obtain⟨_,_,h⟩:=dX h;obtain⟨_,h,_⟩:=dX h;cases h
theorem abP {kk:Aa}{t:TypeId}(A:tH P t=some kk){k:d9}{es a:List (d9×d9)}(hp:a.Perm es)(i:∀e∈es,∃s,e.1=.str s)(w:(es.map (·.1)).Nodup){r:Option (Nat×d9)}(z:P7 (mM kk) (Af kk) k es=some r):
  ∃r',findKey (mM kk) k a 0=some r'∧r'.map (·.2)=r.map (·.2):=by
 obtain⟨_,_,c⟩:=ko z;cases es with
 | nil=>rw [List.Perm.eq_nil hp];rw [dG] at c;cases c;exact⟨none,dG ..,rfl⟩
 | cons e es=>
  obtain⟨C,o⟩:=i e (by simp);have:∃b,mM kk k (.str C)=some b:=by rw [dH,o] at c;obtain⟨b,n,_⟩:=u6 c;exact⟨b,n⟩
  obtain⟨b,n⟩:=this;obtain⟨rfl,u,rfl⟩:=QS A n;have f:∀x∈a,∃s,x.1=.str s:=λx d=>i x (hp.mem_iff.1 d);have m:(a.map (·.1)).Nodup:=(hp.map _).nodup_iff.2 w;have c:findKey eqStr (.str u) (e::es) 0=some r:=c;by_cases hin:∃v,(d9.str u,v)∈e::es;obtain⟨v,y⟩:=hin;obtain⟨j,p,_⟩:=qb (e::es) 0 i w y;obtain⟨D,q,_⟩:=qb a 0 f m (hp.mem_iff.2 y);rw [p] at c;cases c;exact⟨_,q,rfl⟩;have g:∀(l:List (d9×d9)),(∀x∈l,x∈e::es)->∀x∈l,x.1≠.str u:=λl B x d h=>hin ⟨x.2,by rw [← h];exact B x d⟩;have p:=xO (e::es) 0 i (g _ λx d=>d);have q:=xO a 0 f (g _ λx d=>hp.mem_iff.1 d);rw [p] at c;cases c;exact⟨none,q,rfl⟩
theorem SI {ok:Bool}{z:d9}{r a:Option (Nat×d9)}(h:a.map (·.2)=r.map (·.2)):found ok z a=found ok z r:=by
 cases r<;>cases a<;>simp at h
 rfl;rename_i p q;show some (bi ok (d9.tuple [q.2,.bool true]) q.2)=some (bi ok (d9.tuple [p.2,.bool true]) p.2);rw [h]
theorem Gd (w:World){t l e:TypeId}{kk:Aa}{z:d9}(M:P.underlying t=some (.map l e))(f:tH P l=some kk)(N:zeroV P e=some z){ok:Bool}{k v:d9}
  {es:List (d9×d9)} {r:Option (Nat×d9)} {n:Nm} (d:∀e∈es,e.1.lt n∧e.2.lt n) (q:P7 (mM kk) (Af kk) k es=some r) (s:found ok z r=some v)
  {L:List MapEntry} {A b:Nat} (H:UOk ι es L) (hb:(getObj b).run P w=.ok (.map L.toArray A) w):
  v.lt n∧(Instr.lookup t (.map (some b)) (l9 ι k) ok).run P w=.ok (l9 ι v) w:=by
 obtain⟨D,⟨y,m,E⟩,S⟩:=ko q;obtain⟨g,K,J⟩:=H;obtain⟨c,u,O⟩:=BH _ g;obtain⟨R,x,Q⟩:=abP f u K J q;obtain⟨h,i⟩:=nQ (w:=w) N ι;rw [← SI Q] at s;obtain⟨C,o⟩:=BG (ι:=ι) s (i n) (λp g=>by
  subst g;obtain⟨j,B,_,F,G,_⟩:=lH x;rw [← G];exact (d B (u.mem_iff.1 (Xl F))).2)
 refine⟨C,?_⟩;have I:=λm=>CU (ι:=ι) f D E m w;have a:=lT (ι:=ι) f x w;rw [DY l (l9 ι k) (show (I6 ι c 0).map tJ=L.map tJ from by rw [xM];exact O.symm)] at a;simp only [Instr.lookup,Xb,run_underlying M,J4,hb,Z7,I];rw [a];simp only [J4];cases R with
 | none=>simp [ng,h,o,uK]
 | some p=>simp [ng,o,uK]
theorem Ct (ts:Array TypeId)(a:TypeId)(l c:Nat)(w:World):(Builtin.unsafeSliceData_ ts a #[.slice none l c]).run P w=.ok (.pointer none) w:=rfl
theorem DZ {ts:Array TypeId}{b:TypeId}{a:Addr}{l c:Nat}(h:c≠0)(w:World):(Builtin.unsafeSliceData_ ts b #[.slice (some a) l c]).run P w=.ok (.pointer (some a)) w:=by have e:Builtin.unsafeSliceData_ ts b #[.slice (some a) l c]=(if c≠0 then pure (.pointer (some a)) else do if (← viewAt a.block).isSome then pure (.pointer (some a)) else pure (.pointer (some ⟨← newObj (.view a (← elemOf b)),0,none⟩))):=rfl;rw [e,if_pos h];rfl
theorem yZ:∀(l:List d9) (s:List UInt8),byteOf l=some s->∀(acc:ByteArray) (w:World),
  (forIn (o9 ι l) acc (λc (r:ByteArray)=>match c with
   | .int .u8 n=>pure (ForInStep.yield (r.push (UInt8.ofNat n.toNat)))
   | _=>do stuck "bytesToString: byte expected";pure (ForInStep.yield r)):Sem ByteArray).run P w=.ok ⟨acc.data++s.toArray⟩ w
 | [],s,h,acc,w=>by simp [byteOf] at h;subst h;simp [o9]
 | v::l,s,h,acc,w=>by
  cases v<;>try (simp [byteOf] at h;done)
  rename_i k n;cases k<;>try (simp [byteOf] at h;done)
  cases n with
  | negSucc n=>simp [byteOf] at h
  | ofNat n=>
   simp only [byteOf] at h;cases hb:byteOf l with
   | none=>simp [hb] at h
   | some s'=>simp only [hb,J3] at h;subst h;simp only [o9,l9,ahO,Xb,Z7,J4];rw [yZ l s' hb];congr 1;simp [ByteArray.push]
theorem ni {x:Value}{m:Mem}(f:RM P G ι m w.heap){id off len c:Nat}(g:x=.slice (some (ι.at id off)) len c){l:List d9}{s:List UInt8}
  (d:U8 m id off len=some l) (e:byteOf l=some s):(Conv.bytesToString x).run P w=.ok (l9 ι (.str s)) w:=by
 obtain⟨a,_,b⟩:=kg f d;have h:=qo (P:=P) b;rw [a] at h;subst g;have:=yZ (P:=P) (ι:=ι) l s e ByteArray.empty w;simp only [Conv.bytesToString,Xb,h,J4];rw [← ahW]
 erw [this]
 simp [l9,Z7]
theorem za (ι:J5):∀(es:List (d9×d9)) (i j:Nat),(I6 ι es j).find? (λe=>e.born==j+i)=(es[i]?).map λe=>{key:=l9 ι e.1,val:=l9 ι e.2,born:=j+i}
 | [],i,j=>by simp [I6]
 | e::es,0,j=>by simp [I6]
 | e::es,i+1,j=>by simp only [I6,List.find?_cons];rw [show (j==j+(i+1))=false from by simp];simp only [ach];have:=za ι es i (j+1);rw [show j+1+i=j+(i+1) from by omega] at this;exact this
theorem Ea {β:Type}{b:Option O6}{a:Option β}{k:Nat->Nat->List Nat->Option β}{r:β}(h:Gw b a k=some r):
  (∃s l,b=some (.iter none s l)∧a=some r)∨∃mp s l,b=some (.iter (some mp) s l)∧k mp s l=some r:=by
 match b,h with
 | some (.iter none s l),h=>exact .inl ⟨s,l,rfl,h⟩
 | some (.iter (some mp) s l),h=>exact .inr ⟨mp,s,l,rfl,h⟩
theorem Eb {ty off:Nat}:∀{l:List (Nat×Nat)},Ve ty off l=true->(ty,off)∈l
 | [],h=>by cases h
 | p::l,h=>by
  have h:bi (Nat.beq p.1 ty) (bi (Nat.beq p.2 off) true (Ve ty off l)) (Ve ty off l)=true:=h;cases h1:Nat.beq p.1 ty with
  | false=>rw [h1] at h;exact Z5 _ (Eb h)
  | true=>
   rw [h1] at h;cases h2:Nat.beq p.2 off with
   | false=>rw [h2] at h;exact Z5 _ (Eb h)
   | true=>rw [← gI h1,← gI h2];exact acr
theorem Ph {u c off:Nat}(h:(c,off)∈Lm P u):P.cellsOf c≠0∧liesAt P P.depth c 1 off u 1=true:=by unfold Lm at h;obtain⟨t,_,h⟩:=List.mem_flatMap.1 h;split at h;rename_i a;simp only [q8,bne_iff_ne,ne_eq] at a;rcases aae.1 h with h | h;split at h;rename_i b;simp only [aA,agN] at h;obtain⟨rfl,rfl⟩:=h;exact⟨a.2,b⟩;simp at h;split at h;obtain⟨f,_,h⟩:=List.mem_flatMap.1 h;split at h;rename_i b;simp only [aA,agN] at h;obtain⟨rfl,rfl⟩:=h;exact⟨a.2,b.2⟩;simp at h;simp at h;simp at h
theorem rU (s:St P ι (m.nm ι) slots done ls env a.tmps)(H:RM P G ι m w.heap){op:Op}{ro:OG}(h:qp P slots done op ro){v:d9}(C:rH ro ls env m=some v):
  v.lt (m.nm ι)∧QO P a.eval op (l9 ι v) w:=by
 cases h with
 | @load t x sz x' f p=>
  obtain⟨q,_⟩:=r9 s p;have key:∀id off,G6 x' ls env=.ptr id off->Q6 (m.get id) (λrs n D=>match sz with | none=>cell1 rs n D off | some k=>ob (jR rs n D off k) λl=>some (.agg l))=some v->
    v.lt (m.nm ι)∧QO P a.eval (.load t x) (l9 ι v) w:=by
   intro id off d E;obtain⟨K,M⟩:=wQ f H E;refine⟨M,λo g=>?_⟩;simp [execOp,g,q,d,l9,Instr.loadAt,Instr.sureAddr,K]
  cases sz with
  | none=>obtain⟨id,off,d,E⟩:=dW C;exact key id off d E
  | some k=>obtain⟨id,off,d,E⟩:=dW C;exact key id off d E
 | @look t kt e kk z ok x k x' k' hu hk hz d hkk=>
  obtain⟨q,a8⟩:=r9 s d;obtain⟨I,_⟩:=r9 s hkk;rcases vN C with⟨d,h⟩ | ⟨id,d,h⟩;obtain⟨r,B,F⟩:=u6 h;obtain⟨K,M⟩:=yY (ι:=ι) w hu hk hz (n:=(m.nm ι)) (by simp) B F;refine⟨K,λo g=>?_⟩;have:=M (.map none) (.inl ⟨rfl,rfl⟩);have d:G6 x' ls env=.nilMap:=d;simp [execOp,g,q,d,l9,I,this]
  ·obtain⟨es,f | f,p⟩:=CV h
   case inr=>obtain⟨r,B,F⟩:=u6 p;obtain⟨L,ck,Y,Z,c3⟩:=H.blk id _ f;obtain⟨K,M⟩:=Gd (ι:=ι) w hu hk hz c3 B F Z (fD Y (by intro _ _ _ e;cases e));refine⟨K,λo g=>?_⟩;have d:G6 x' ls env=.map id:=d;simp [execOp,g,q,d,l9,I,M]
   obtain⟨r,B,F⟩:=u6 p;obtain⟨o1,o2⟩:=Jv H f;obtain⟨K,M⟩:=yY (ι:=ι) w hu hk hz o2 B F;refine⟨K,λo g=>?_⟩;have:=M (.map (some (ι id).b)) (.inr ⟨_,rfl,λw' hw=>by subst hw;exact o1⟩);have d:G6 x' ls env=.map id:=d;simp [execOp,g,q,d,l9,I,this]
 | @lenM c t kt e x x' E A y hu d=>
  obtain⟨q,_⟩:=r9 s d;have A:c.argTypes=#[t]:=by rw [← A,aag]
  have y:c.args=#[x]:=by rw [← y,aag]
  rcases vN C with⟨d,h⟩ | ⟨id,d,h⟩;cases h;have d:G6 x' ls env=.nilMap:=d;exact⟨by simp [d9.lt],λo g=>by simp [execOp,g,resolve,E,y,A,invoke,builtin,Builtin.len_,run_underlying hu,q,d,l9,goInt]⟩;obtain⟨es,f,p⟩:=Ao h;obtain⟨o1,o2⟩:=Jv H f;cases p;have d:G6 x' ls env=.map id:=d;exact⟨by simp [d9.lt],λo g=>by simp [execOp,g,resolve,E,y,A,invoke,builtin,Builtin.len_,run_underlying hu,q,d,l9,goInt,o1]⟩
 | @bytesStr t b e x x' f p B d=>obtain⟨q,_⟩:=r9 s d;rcases rO C with⟨d,h⟩ | ⟨id,off,len,cap,d,h⟩ | ⟨id,off,len,cap,d,h⟩;cases h;have d:G6 x' ls env=.nilSlice:=d;refine⟨by simp [d9.lt],λo g=>?_⟩;simp [execOp,g,q,d,l9,convert,run_underlying f,run_underlying p,run_underlying B,Conv.bytesToString];rfl;obtain⟨l,F,h⟩:=u6 h;obtain⟨a7,h5,h⟩:=u6 h;cases h;have d:G6 x' ls env=.slice id off len cap:=d;have:=ni H (x:=a.eval x) (by rw [q,d];rfl) F h5;refine⟨by simp [d9.lt],λo g=>?_⟩;rw [q,d] at this;simp only [l9] at this;simp [execOp,g,q,d,l9,convert,run_underlying f,run_underlying p,run_underlying B,this];obtain⟨l,F,h⟩:=u6 h;obtain⟨a7,h5,h⟩:=u6 h;cases h;have d:G6 x' ls env=.sliceU id off len cap:=d;have:=ni H (x:=a.eval x) (by rw [q,d];rfl) F h5;refine⟨by simp [d9.lt],λo g=>?_⟩;rw [q,d] at this;simp only [l9] at this;simp [execOp,g,q,d,l9,convert,run_underlying f,run_underlying p,run_underlying B,this]
 | @slData c t e x x' E A y hu d=>
  obtain⟨q,I⟩:=r9 s d;have A:c.argTypes=#[t]:=by rw [← A,aag]
  have y:c.args=#[x]:=by rw [← y,aag]
  rcases rO C with⟨f,p⟩ | ⟨id,off,len,cap,f,p⟩ | ⟨id,off,len,es,f,p⟩;have f:G6 x' ls env=.nilSlice:=f;cases p;exact⟨trivial,λo g=>by simp [execOp,g,resolve,E,y,A,invoke,builtin,Ct,q,f,l9]⟩;have f:G6 x' ls env=.slice id off len cap:=f;obtain⟨B,p⟩:=C8 p;cases p;have B:0<cap:=Eq.mp X8 B;rw [f] at I;exact⟨I,λo g=>by simp [execOp,g,resolve,E,y,A,invoke,builtin,DZ (Nat.ne_of_gt B),q,f,l9]⟩;have f:G6 x' ls env=.sliceU id off len es:=f;obtain⟨B,p⟩:=C8 p;cases p;have B:0<len:=Eq.mp X8 B;rw [f] at I;obtain⟨W,q2,X⟩:=I;have X:off+len*es<=(ι id).cap:=X;have a1:((ι id).cap-off) / es≠0:=by
   have:1<=((ι id).cap-off) / es:=(adV q2).2 (by
    have:1*es<=len*es:=aac _ B;omega)
   omega
  refine⟨W,λo g=>?_⟩;simp [execOp,g,resolve,E,y,A,invoke,builtin,DZ a1,q,f,l9]
 | @toUns a' b' t x x' k ha hb hs hk d=>
  obtain⟨q,I⟩:=r9 s d
  change rG (G6 x') ls env m=some v at C
  unfold rG at C;split at C;rename_i f;cases C;exact⟨trivial,λo g=>by simp [execOp,g,q,f,l9,convert,run_underlying ha,run_underlying hb,Conv.unsafePointer]⟩;rename_i id off f;obtain⟨rs,n,D,S,h⟩:=dh C;obtain⟨p,h⟩:=C8 h;cases h;have p:off<n*rs:=Eq.mp X8 p;obtain⟨c,e,fz,W,q2,⟨X,_⟩,_⟩:=H.blk id _ S;obtain⟨j,hj,T⟩:=abh.1 hs;refine⟨⟨_,S,rfl⟩,λo g=>?_⟩;have:=Lib.run_to_unsafe (P:=P) w (ι.at id off) ha hb hj (by rw [T];exact hk) (e:=e) (cells:=c.size) (by simp [World.shape?,J5.at,W]) (by show (ι id).base+off<c.size;omega);simp [execOp,g,q,f,l9,this];cases C
 | @fromUns a' b' u x x' k ha hb hs hk d=>
  obtain⟨q,I⟩:=r9 s d
  change jS (Lm P u) (G6 x') ls env m=some v at C
  unfold jS at C;split at C;rename_i f;cases C;exact⟨trivial,λo g=>by simp [execOp,g,q,f,l9,convert,run_underlying ha,run_underlying hb,Conv.unsafePointer]⟩;rename_i id off f;obtain⟨rs,n,D,S,h⟩:=dh C;obtain⟨p,h⟩:=C8 h;obtain⟨ty,B,h⟩:=u6 h;obtain⟨F,h⟩:=C8 h;cases h;obtain rfl:n=1:=gI p;obtain⟨c,e,fz,W,q2,⟨X,N,_,_,V⟩,_⟩:=H.blk id _ S;obtain⟨rfl,a0,a6⟩:=V ty rfl B;obtain⟨U,R⟩:=Ph (Eb F);obtain⟨j,hj,T⟩:=abh.1 hs;refine⟨⟨_,S,rfl⟩,λo g=>?_⟩;have:=Lib.run_from_unsafe (P:=P) w (ι.at id off) ha hb hj (e:=e) (cells:=c.size) (by simp [World.shape?,J5.at,W]) (by
   rw [a6,Nat.div_self (agz U)];show liesAt P P.depth e 1 ((ι id).base+off) u 1=true;rw [a0,aad];exact R)
  simp [execOp,g,q,f,l9,this];cases C
 | @entry x x' d=>
  obtain⟨q,_⟩:=r9 s d;obtain⟨id,off,d,h⟩:=dW C;have d:G6 x' ls env=.ptr id off:=d;obtain⟨h0,h⟩:=C8 h;obtain rfl:off=0:=gI h0;rcases Ea h with⟨_,_,_,h⟩ | ⟨mp,since,seen,J,h⟩;cases h;cases seen with
  | nil=>cases h
  | cons i seen=>
   have h:Oq (m.get mp) (λes=>bi (Nat.beq (len' es) since) (ob (pE i es) λe=>some (.tuple [e.1,e.2])) none)=some v:=h;obtain⟨es,a2,h⟩:=Ao h;obtain⟨f,h⟩:=C8 h;have f:=gI f;rw [I5] at f;obtain⟨e,p,h⟩:=u6 h;rw [jk] at p;cases h;obtain⟨b1,b2,sn,st,b3,b4,b5⟩:=H.blk id _ J;have a4:=H.spot id _ J rfl;obtain⟨Y,Z⟩:=Jv H a2;have he:=Z e (Xl p);refine⟨by simp [d9.lt,aM,he],λo g=>?_⟩;have a5:st=since:=b5 (by simp);have O:sn.back?=some i:=by have:=congrArg List.head? b4;simpa [List.head?_reverse] using this
   have Q:(I6 ι es 0).toArray.find? (λe=>e.born==i)=some {key:=l9 ι e.1,val:=l9 ι e.2,born:=i}:=by have:=za ι es i 0;rw [p] at this;simpa using this
   have J:=fD (P:=P) b3 (by intro _ _ _ e;cases e);have a3:a.eval x=.pointer (some ⟨(ι id).b,0,none⟩):=by rw [q,d];simp [l9,J5.at,b1,a4]
   simp [execOp,g,a3,Instr.entry,J,O,Y,a5,f,Q,l9,o9]
end
section
variable {P:Program}{G:Mem}{ι:J5}{n:Nm}{slots:List Nat}{done:List (Option Nat)}{ls:List d9}{env:T d9}{a:Act}
theorem LM (rs:Nat)(l:List d9)(r:List (List d9))(h:rowsOf rs 0 l=some r):l=[]∧r=[]:=by
 cases l with
 | nil=>cases h;exact⟨rfl,rfl⟩
 | cons=>cases h
theorem LP (rs k:Nat)(l:List d9):rowsOf rs (k+1) l=ob (takeN rs l) λr=>ob (rowsOf rs k (lX rs l)) λrest=>some (r::rest):=rfl
theorem gY (rs:Nat):∀(k:Nat) (l:List d9) (r:List (List d9)),rowsOf rs k l=some r->
  l.length=k*rs∧r.length=k∧∀i,i<k->∃row,r[i]?=some row∧row.length=rs∧∀j,j<rs->row[j]?=l[i*rs+j]?:=by
 intro k;induction k with
 | zero=>intro l r h;obtain⟨rfl,rfl⟩:=LM rs l r h;simp
 | succ k ih=>
  intro l r h;rw [LP] at h;obtain⟨x,n,h⟩:=u6 h;obtain⟨y,b,h⟩:=u6 h;cases h;obtain⟨rfl,p⟩:=lg _ _ _ n;rw [lZ] at b;obtain⟨f,g,m⟩:=ih _ _ b;rw [List.length_drop] at f;refine⟨by rw [aco];omega,by simp [g],λi o=>?_⟩;cases i with
  | zero=>exact⟨_,rfl,by simp;omega,λj a=>by simp [a]⟩
  | succ i=>obtain⟨row,c,d,e⟩:=m i (by omega);refine⟨row,by simpa using c,d,λj a=>?_⟩;rw [e j a,aee];congr 1;rw [aco];omega
theorem LQ {h:Array Obj}{l:Loc}{es k:Nat}{cells:List d9}{d:List (List d9)}(B:rowsOf es k cells=some d){c:Array Value}{e:TypeId}{p:Nat×Nat}
  (A:h[l.b]?=some (Obj.cells c e p)) (h0:l.base=0) (D:l.cap=c.size) (m:aM n cells) (f:∀(j:Nat) (v:d9),cells[j]?=some v->c[j]?=some (l9 ι v)) (u:cells.length<=c.size):
  dF P ι n h l (.cells es k (T.ofList d)):=by
 obtain⟨x,y,z⟩:=gY _ _ _ _ B;refine⟨c,e,p,A,by omega,⟨by omega,d.length,by omega,T.eB d,by rw [← y];exact uD (T.eB d)⟩,λi t=>?_⟩;obtain⟨o,w,q,r⟩:=z i t;refine⟨o,by rw [T.aC];exact w,q,bQ.2 λv C=>?_,λj a=>?_⟩;obtain⟨j,a⟩:=aai C;have g:j<es:=ae7 (Hl.1 a).1 q;rw [r j g] at a;exact N8 m (Xl a);rw [r j a,h0,aad];have s:i*es+j<cells.length:=by
  rw [x]
  calc i*es+j<i*es+es:=by omega
   _=(i+1)*es:=by rw [aco]
   _<=k*es:=aac _ t
 rw [q9 s];exact f _ _ (q9 s)
theorem VB {h:Array Obj}{l:Loc}{cs:List d9}{e:TypeId}{c:Nat×Nat}
  (d:h[l.b]?=some (.cells (o9 ι cs).toArray e c)) (h0:l.base=0) (f:l.cap=cs.length) (a:aM n cs):dF P ι n h l (o7 cs):=by
 refine⟨_,e,c,d,by simp;omega,⟨by simp;omega,1,J2 1,.nd .e .e,uD (.nd .e .e)⟩,λi g=>?_⟩;obtain rfl:i=0:=by omega
 refine⟨cs,rfl,(I5 cs).symm,a,λj k=>?_⟩;rw [h0];simp [aG]
theorem SK {h:Array Obj}{l:Loc}{cs:List d9}{e:TypeId}{f:Nat×Nat}
  (g:h[l.b]?=some (.cells (o9 ι cs).toArray e f)) (h0:l.base=0) (k:l.cap=cs.length) (a:aM n cs) (c:cs.length=P.cellsOf e):dF P ι n h l (dZ e cs):=by
 refine⟨_,e,f,g,by simp;omega,⟨by simp;omega,2,by omega,.nd (.nd .e .e) .e,λty _ d=>?_⟩,λi m=>?_⟩;have d:some e=some ty:=d;cases d;exact⟨rfl,h0,by simpa using c⟩;obtain rfl:i=0:=by omega
 refine⟨cs,rfl,(I5 cs).symm,a,λj o=>?_⟩;rw [h0];simp [aG]
theorem Ap {a:Nat}{l:Loc}{cs:List d9}(c:¬ n a)(h:aM n cs):o9 (ι.upd a l) cs=o9 ι cs:=
 eP (n:=n) (λi b=>ι.upd_ne l (λe=>c (by subst e;exact b))) cs h
theorem LU {a:Nat}{l:Loc}{v:d9}(c:¬ n a)(h:v.lt n):l9 (ι.upd a l) v=l9 ι v:=
 P8 (n:=n) (λi b=>ι.upd_ne l (λe=>c (by subst e;exact b))) v h
structure Makes (P:Program)(ι:J5)(n:Nm)(ρ:Operand->Value)(op:Op)(nid:Nat)(v:d9)(b:O6)(w:World)(l:Loc)(obj:Obj)(w':World):Prop where
 loc:l.b=w.heap.size
 spot:l.spot=none
 run:∀o:Oper,o.op=op->(execOp ρ o).run P w=.ok (.value (l9 (ι.upd nid l) v)) w'
 grew:Vw w w' obj
 live:bV b=false
 free:∀c e fz,obj=.cells c e fz->∀k,k<c.size->¬ (fz.1<=k∧k<fz.2)
 blk:∀n':Nm,n.le n'->n' nid->n'.cap nid=l.cap->dF P (ι.upd nid l) n' (w.heap.push obj) l b∧v.lt n'
inductive oJ (P:Program)(ι:J5)(n:Nm)(ρ:Operand->Value)(op:Op)(nid:Nat)(w:World):d9×Option O6->Prop
 | none {v}:v.lt n->Gives P ρ op (l9 ι v)->oJ P ι n ρ op nid w (v,none)
 | made {v b} (l:Loc) (obj:Obj) (w':World):Makes P ι n ρ op nid v b w l obj w'->oJ P ι n ρ op nid w (v,some b)
 | tail {v p} (l:Loc):n p->(l.cap=0∨(l.b=(ι p).b∧l.base+l.cap<=(ι p).base+(ι p).cap∧((ι p).spot=none->l.spot=none)))->Gives P ρ op (l9 (ι.upd nid l) v)->(∀n':Nm,n.le n'->n' nid->n'.cap nid=l.cap->v.lt n')->
   oJ P ι n ρ op nid w (v,some (.tail p))
theorem dw {w:World}{o:Obj}:(w.heap.push o)[w.heap.size]?=some o:=by simp
theorem GL {i:Op}{b:Nat}{w:World}{cs:List d9}(m:¬ n b)(d:aM n cs){e:TypeId}
  (f:∀o:Oper,o.op=i->(execOp a.eval o).run P w=.ok (.value (.pointer (some ⟨w.heap.size,0,none⟩))) {w with heap:=w.heap.push (.cells (o9 ι cs).toArray e)}):
  oJ P ι n a.eval i b w (.ptr b 0,some (o7 cs)):=by
 refine .made ⟨w.heap.size,0,cs.length,none⟩ (.cells (o9 ι cs).toArray e) {w with heap:=w.heap.push (.cells (o9 ι cs).toArray e)} ⟨rfl,rfl,λo p=>?_,⟨rfl,rfl,rfl,rfl⟩,rfl,λc q r h k s=>?_,λt j g _=>⟨?_,g⟩⟩;rw [f o p];simp [l9,J5.at];cases h;simp;rw [← Ap (l:=⟨w.heap.size,0,cs.length,none⟩) m d];exact VB dw rfl rfl (dD j _ d)
theorem Ec {j:Op}{b:Nat}{w:World}{cs:List d9}(p:¬ n b)(d:aM n cs){e:TypeId}(i:cs.length=P.cellsOf e)
  (f:∀o:Oper,o.op=j->(execOp a.eval o).run P w=.ok (.value (.pointer (some ⟨w.heap.size,0,none⟩))) {w with heap:=w.heap.push (.cells (o9 ι cs).toArray e)}):
  oJ P ι n a.eval j b w (.ptr b 0,some (dZ e cs)):=by
 refine .made ⟨w.heap.size,0,cs.length,none⟩ (.cells (o9 ι cs).toArray e) {w with heap:=w.heap.push (.cells (o9 ι cs).toArray e)} ⟨rfl,rfl,λo q=>?_,⟨rfl,rfl,rfl,rfl⟩,rfl,λc r s h k t=>?_,λu m g _=>⟨?_,g⟩⟩;rw [f o q];simp [l9,J5.at];cases h;simp;rw [← Ap (l:=⟨w.heap.size,0,cs.length,none⟩) p d];exact SK dw rfl rfl (dD m _ d) i
theorem dM (e:TypeId)(cs:Array Value)(w:World):(newRow e cs).run P w=.ok ⟨w.heap.size,0,none⟩ {w with heap:=w.heap.push (.cells cs e)}:=by simp [newRow,newObj,Sem.run]
theorem rV (z:List d9)(k:Nat):R6 z (k+1)=z++R6 z k:=by show V8 z (R6 z k)=_;rw [Q9]
theorem ze (z:List d9):R6 z 0=[]:=rfl
theorem eF (z:List d9):∀k,(R6 z k).length=k*z.length
 | 0=>by simp [ze]
 | k+1=>by rw [rV,Z8,eF z k,aco];omega
theorem rW {z:List d9}(h:aM n z):∀k,aM n (R6 z k)
 | 0=>trivial
 | k+1=>by rw [rV,bQ];intro v hv;rcases aae.1 hv with hv | hv;exact N8 h hv;exact N8 (rW h k) hv
theorem uL (z:List d9):∀(k i:Nat),i<k*z.length->(R6 z k)[i]?=z[i%z.length]?
 | 0,i,h=>by simp at h
 | k+1,i,h=>by rw [rV];by_cases hi:i<z.length;rw [Z9 hi,agp hi];have hi:z.length<=i:=adK hi;rw [aat hi,uL z k _ (by rw [aco] at h;omega),← Nat.mod_eq_sub_mod hi]
theorem Ed (z:List d9)(k:Nat):(Array.range (k*z.length)).map (λi=>(o9 ι z).toArray[i%(o9 ι z).toArray.size]!)=(o9 ι (R6 z k)).toArray:=by
 apply Array.ext;simp [eF];intro i d f;have a:i<k*z.length:=by simpa using d
 have j:0<z.length:=agz λe=>by rw [e] at a;simp at a
 have c:i%z.length<z.length:=ahR _ j;have g:=uL z k i a;rw [Array.getElem_map,Array.getElem_range];have h:(o9 ι (R6 z k))[i]?=some (o9 ι z)[i%z.length]!:=by rw [aG,g,q9 c];simp [aU,c]
 have b:(o9 ι (R6 z k)).toArray[i]?=some ((o9 ι z).toArray[i%(o9 ι z).toArray.size]!):=by simpa using h
 rw [aaf f] at b;exact (Y4 b).symm
theorem VD {i:Op}{b:Nat}{w:World}{cells:List d9}(r:¬ n b)(d:aM n cells){e:TypeId}{es k len:Nat}{m:List (List d9)}(t:rowsOf es k cells=some m)
  (f:∀o:Oper,o.op=i->(execOp a.eval o).run P w=.ok (.value (.slice (some ⟨w.heap.size,0,none⟩) len k)) {w with heap:=w.heap.push (.cells (o9 ι cells).toArray e)}):
  oJ P ι n a.eval i b w (.slice b 0 len k,some (.cells es k (T.ofList m))):=by
 refine .made ⟨w.heap.size,0,cells.length,none⟩ (.cells (o9 ι cells).toArray e) {w with heap:=w.heap.push (.cells (o9 ι cells).toArray e)} ⟨rfl,rfl,λo s=>?_,⟨rfl,rfl,rfl,rfl⟩,rfl,λc u x h k y=>?_,λz q g _=>⟨?_,g⟩⟩;rw [f o s];simp [l9,J5.at];cases h;simp;rw [← Ap (l:=⟨w.heap.size,0,cells.length,none⟩) r d];exact LQ t dw rfl (by simp) (dD q _ d) (λj v p=>by simp [aG,p]) (by simp)
theorem nR {t:TypeId}{z:List d9}(h:Co P t=some z):qG P t=some z∧aH P t=some z.length:=by simp only [Co] at h;split at h;split at h;cases h;rename_i a b c;exact⟨b,by rw [a,c]⟩;cases h;cases h
theorem xP {t:TypeId}{k:Nat}(h:aH P t=some k):P.cellsOf t=k:=by unfold aH at h;unfold Program.cellsOf;rw [h];rfl
theorem run_askRoom (k:Nat)(w:World):(askRoom k).run P w=.ok () w:=by unfold askRoom;split<;>simp [mark,Sem.run]
theorem zf (e:TypeId)(c:Array Value)(hp:Array Obj)(w:World):
  (markStringish ⟨hp.size,0,none⟩).run P {w with heap:=hp.push (.cells c e)}=.ok () {w with heap:=hp.push (.cells c e (c.size,c.size+1))}:=by
 simp only [markStringish,Xb,run_shape,World.shape?,J4];have d:∀(f:Obj->Obj),(hp.push (.cells c e)).modify hp.size f=hp.push (f (.cells c e)):=by
  intro f;apply Array.ext;simp;intro i a b;rw [Array.getElem_modify];simp only [Array.size_push,Array.size_modify] at a b;by_cases h:hp.size=i;subst h;simp;have:i<hp.size:=by omega
  simp [h,Array.getElem_push_lt this]
 simp [World.freeze,d]
theorem rX (s:St P ι n slots done ls env a.tmps)(E:∀i,n i->n.cap i=(ι i).cap){D:Nat}(hn:¬ n D){op:Op}{lo:Sk}(h:mW P slots done op lo){r:d9×Option O6}(y:wK lo ls env D=some r)(w:World):
  oJ P ι n a.eval op D w r:=by
 cases h with
 | @alloc t z W=>cases y;obtain⟨v,K,R,h3⟩:=cZ (w:=w) W ι;exact GL (e:=t) hn (h3 n) λo A=>by simp [execOp,A,Instr.alloc,K,newVar,dM,R]
 | @box t x x' hx=>cases y;obtain⟨U,e2⟩:=r9 s hx;exact GL (e:=t) hn (uw e2) λo A=>by simp [execOp,A,Instr.box,U,newVar,dM,lD]
 | @allocT t z W=>cases y;obtain⟨W,O⟩:=nR W;obtain⟨v,K,R,h3⟩:=cZ (w:=w) W ι;exact Ec (e:=t) hn (h3 n) (xP O).symm λo A=>by simp [execOp,A,Instr.alloc,K,newVar,dM,R]
 | @boxT t k x x' hk hx=>
  obtain⟨K,y⟩:=C8 y;cases y;obtain⟨U,e2⟩:=r9 s hx;have K:(G6 x' ls env).cells.length=k:=by rw [← I5];exact gI K
  exact Ec (e:=t) hn (uw e2) (by rw [xP hk];exact K) λo A=>by simp [execOp,A,Instr.box,U,newVar,dM,lD]
 | @mkMap t=>cases y;refine .made ⟨w.heap.size,0,0,none⟩ (.map #[] 0) {w with heap:=w.heap.push (.map #[] 0)} ⟨rfl,rfl,λo A=>?_,⟨rfl,rfl,rfl,rfl⟩,rfl,(λc e' fz h=>by cases h),λn' hm C _=>⟨⟨?_,by simp⟩,C⟩⟩;simp [execOp,A,Instr.makeMap,l9,newObj,Sem.run];simp [I6]
 | @mkMapN t k m kt e hu=>cases y;refine .made ⟨w.heap.size,0,0,none⟩ (.map #[] 0) {w with heap:=w.heap.push (.map #[] 0)} ⟨rfl,rfl,λo A=>?_,⟨rfl,rfl,rfl,rfl⟩,rfl,(λc e' fz h=>by cases h),λn' hm C _=>⟨⟨?_,by simp⟩,C⟩⟩;simp [execOp,A,Instr.makeMap,l9,newObj,Sem.run,run_underlying hu,Act.eval,asInt,asIntOf];simp [I6]
 | @buildSlice t len parts e es ps z hu hes hps a3 W=>
  obtain⟨cells,K,y⟩:=u6 y;obtain⟨rl,R,y⟩:=u6 y;cases y;obtain⟨v,a4,a5,Y⟩:=cZ (P:=P) (w:=w) W ι;obtain⟨g,Q,g3⟩:=Al s _ parts.toList ps hps _ cells (rW (Y n) len) K;obtain⟨r1,_,_⟩:=gY _ _ _ _ R;rw [eF] at g3;have a1:(parts.map λp=>(p.1,a.eval p.2)).toList=parts.toList.map λp=>(p.1,a.eval p.2):=by simp
  refine VD (e:=e) hn Q R λo A=>?_
  have af:¬ len*es>2^24:=by have:(2:Nat)^24=16777216:=rfl
                            omega
  simp only [execOp,A,Instr.buildSlice,Xb,run_underlying hu,J4,run_sizeOf hes,if_neg af,Z7];have a0:∀Z:Array Value,(len*es=0∨Z=(o9 ι z).toArray)->(Array.range (len*es)).map (λi=>Z[i%Z.size]!)=(o9 ι (R6 z len)).toArray:=by
   intro Z hZ;by_cases N:len*es=0;have:R6 z len=[]:=afv (by rw [eF];omega);rw [this,N];simp [o9];rcases hZ with h | rfl;exact absurd h N;have hm:len*z.length=len*es:=by omega
   have hp:0<len:=agz λe=>N (by rw [e,adE]);have ai:z.length=es:=Nat.eq_of_mul_eq_mul_left hp hm;rw [← ai];exact Ed z len
  by_cases N:len*es=0;rw [if_pos N];simp only [Xb,Z7,J4,a1,a0 #[] (.inl N),g];simp [dM];rw [if_neg N];simp only [Xb,a4,Z7,J4,a1,a5,a0 _ (.inr rfl),g];simp [dM]
 | @mkSlice t l c e es by' z l' c' hu hes hby W hl J=>
  obtain⟨ah,a8⟩:=nR W;rw [hes] at a8;cases a8;obtain⟨i,len,K,y⟩:=fC y;obtain⟨j,cap,R,y⟩:=fC y;obtain⟨g,y⟩:=C8 y;obtain⟨Q,y⟩:=C8 y;obtain⟨g3,y⟩:=C8 y;cases y;have g:len<=cap:=Xd g;have Q:by'*cap<=281474976710656:=Xd Q;have g3:cap<9223372036854775808:=Eq.mp X8 g3;have K:G6 l' ls env=.int i (len:Int):=K;have R:G6 c' ls env=.int j (cap:Int):=R;obtain⟨U,_⟩:=r9 s hl;obtain⟨e2,_⟩:=r9 s J;obtain⟨ak,ab,ac⟩:=vM (w:=w) hby;obtain⟨v,a4,a5,Y⟩:=cZ (P:=P) (w:=w) ah ι;have M:=eF z cap;have B:∀o:Oper,o.op=.makeSlice t l c->(execOp a.eval o).run P w=.ok (.value (.slice (some ⟨w.heap.size,0,none⟩) len cap)) {w with heap:=w.heap.push (.cells (o9 ι (R6 z cap)).toArray e)}:=by
   intro o A;have w1:IntKind.i64.wrap (len:Int)=len:=yR _ ⟨by omega,by omega⟩;have w2:IntKind.i64.wrap (cap:Int)=cap:=yR _ ⟨by omega,by omega⟩;have a6:¬ ((by':Int)*(cap:Int)>2^48):=by have:((by'*cap:Nat):Int)=(by':Int)*(cap:Int):=(by simp);rw [← this];have a9:(2:Int)^48=281474976710656:=rfl;rw [a9];omega
   simp only [execOp,A,Instr.makeSlice,Xb,run_underlying hu,J4,U,e2,K,R,l9,asInt,asIntOf,Z7,ab,ac,w1,w2];rw [if_neg (by simp only [aci,decide_eq_true_eq,not_or];exact⟨⟨⟨by omega,a6⟩,by omega⟩,by omega⟩)];simp only [Xb,run_askRoom,J4,run_sizeOf hes,aic];by_cases N:cap*z.length=0;have a7:R6 z cap=[]:=afv (by rw [M];exact N);have ag:∀f:Nat->Value,(Array.range 0).map f=#[]:=by intro f;simp
   simp only [Xb,Z7,J4,N,a7,if_true,ag];simp [dM,o9];have hk:=Ed (ι:=ι) z cap;simp only [if_neg N,Xb,Z7,J4,a4,a5,hk];simp [dM]
  refine .made ⟨w.heap.size,0,(R6 z cap).length,none⟩ (.cells (o9 ι (R6 z cap)).toArray e) {w with heap:=w.heap.push (.cells (o9 ι (R6 z cap)).toArray e)} ⟨rfl,rfl,λo A=>?_,⟨rfl,rfl,rfl,rfl⟩,rfl,λc e' fz h k hk=>?_,λn' hm C _=>⟨?_,C⟩⟩;rw [B o A];simp [l9,J5.at];cases h;simp;refine⟨_,_,_,dw,by simp,⟨by simp [M],cap,J2 _,by simpa using T.OX z cap .e 0 .e,uD (by simpa using T.OX z cap .e 0 .e)⟩,λi hi=>⟨z,?_,rfl,Y _,λj hj=>?_⟩⟩;rw [T.QN _ _ _ _ T.Ok.e];simp [hi];have hb:i*z.length+j<cap*z.length:=by
   calc i*z.length+j<i*z.length+z.length:=by omega
    _=(i+1)*z.length:=by rw [aco]
    _<=cap*z.length:=aac _ hi
  rw [aad,acN,aG,uL _ _ _ hb];rw [show (i*z.length+j)%z.length=j from by rw [ad4,akj,agp hj]];rw [q9 hj];simp [LU (l:=⟨w.heap.size,0,(R6 z cap).length,none⟩) hn (N8 (Y n) (aa3 hj))]
 | @strBytes t u e x x' K R h3 hx=>
  obtain⟨str,h4,y⟩:=iC y;obtain⟨rl,h5,y⟩:=u6 y;cases y;have h4:G6 x' ls env=.str str:=h4;obtain⟨U,_⟩:=r9 s hx;have V:∀l:List UInt8,bytesOf l=l.map λb=>d9.int .u8 b.toNat:=by
   intro l;induction l with
   | nil=>rfl
   | cons b l ih=>simp [bytesOf,ih]
  rw [I5] at *;generalize G:str.length+w.tape w.drawn (.appendCap str.length 0 e)%(2^63-str.length)=cap;have a3:str.length<=cap:=by omega
  let cells:Array Value:=(o9 ι (bytesOf str)).toArray++Array.replicate (cap-str.length) (.int .u8 0)
  have O:cells.size=cap:=by simp [cells,V];omega
  have I:aM n (bytesOf str):=by rw [V,bQ];intro v y;obtain⟨b,_,rfl⟩:=acY.1 y;simp [d9.lt]
  have B:∀o:Oper,o.op=.convert t u x->(execOp a.eval o).run P w =
    .ok (.value (.slice (some ⟨w.heap.size,0,none⟩) str.length cap)) {w with heap:=w.heap.push (.cells cells e (cap,cap+1)),drawn:=w.drawn+1}:=by
   intro o A;simp only [execOp,A,Xb,convert,run_underlying K,run_underlying R,run_underlying h3,J4,U,h4,l9,Conv.stringToBytes];rw [run_choose];simp only [Question.forced,aa9,if_false,J4,Question.cut,oG,G];have J:(⟨str.toArray⟩:ByteArray).data.map (λb=>Value.int .u8 b.toNat)++Array.replicate (cap-str.length) (.int .u8 0)=cells:=by simp only [cells,V,aU,ae2];congr 1;simp [l9,Function.comp_def]
   have J:str.toArray.map (λb=>Value.int .u8 b.toNat)++Array.replicate (cap-str.length) (.int .u8 0)=cells:=J;rw [J,dM];simp only [J4];rw [zf e cells w.heap {w with drawn:=w.drawn+1}];simp [O]
  refine .made ⟨w.heap.size,0,cap,none⟩ (.cells cells e (cap,cap+1)) {w with heap:=w.heap.push (.cells cells e (cap,cap+1)),drawn:=w.drawn+1} ⟨rfl,rfl,λo A=>?_,⟨rfl,rfl,rfl,rfl⟩,rfl,λc e' fz h k hk=>?_,λn' hm C E=>⟨?_,⟨C,J2 1,by rw [E];show 0+str.length*1<=cap;omega⟩⟩⟩;rw [B o A];simp [l9,J5.at];cases h;rw [O] at hk;simp;omega;refine LQ h5 dw rfl O.symm (dD hm _ I) (λj v hj=>?_) (by rw [O,V];simpa using a3);have ae:j<(bytesOf str).length:=(Hl.1 hj).1;have y:=N8 I (Xl hj);rw [LU (l:=⟨w.heap.size,0,cap,none⟩) hn y];simp only [cells];rw [aia (by simpa using ae)];simp [aG,hj]
 | @sl t x lo hi e es x' lo' hi' hu hes hx hlo hhi=>
  obtain⟨U,e2⟩:=r9 s hx;have y:eX (kX lo') 0 ls env (λl=>Option.rec (K6 D es (G6 x' ls env) l none) (λh=>jQ (h ls env) λh=>K6 D es (G6 x' ls env) l (some h)) (kX hi'))=some r:=y;generalize hX:G6 x' ls env=X at *;have hb:∀d,(∀l,K6 D es X l none=K6 D es X l (some d))->
    ∃l h,K6 D es X l (some h)=some r∧∀cap w,l<=h->h<=cap->(Instr.sliceBounds true d cap (lo.map a.eval) (hi.map a.eval) none).run P w=.ok (l,h,cap) w:=by
   intro d hd;have h':eX (kX lo') 0 ls env (λl=>eX (kX hi') d ls env λh=>K6 D es X l (some h))=some r:=by
    rw [← y];congr 1;funext l;cases hhi':kX hi' with
    | none=>simp only [eX];exact (hd l).symm
    | some f=>rfl
   obtain⟨l,h,g,_,_,Q⟩:=rR s hlo hhi h';exact⟨l,h,g,λcap w p q=>Q true d cap w rfl p q⟩
  have F:∀(ad:Option Addr) (len cap l h:Nat) (w:World),l9 ι X=.slice ad len cap->(Instr.sliceBounds true len cap (lo.map a.eval) (hi.map a.eval) none).run P w=.ok (l,h,cap) w->
    ∀o:Oper,o.op=.slice t x lo hi none->(execOp a.eval o).run P w=.ok (.value (.slice (if cap=l then ad else ad.map (·.add (l*es))) (h-l) (cap-l))) w:=by
   intro ad len cap l h w J aa o A;simp [execOp,A,Instr.sliceAt,run_underlying hu,Instr.slice,U,J,aa,run_sizeOf hes]
  cases X with
  | nilSlice=>obtain⟨l,h,g,Q⟩:=hb 0 (λl=>by simp [K6,qD,aah]);have g:bi (Nat.beq l 0) (bi (Nat.beq h 0) (some (d9.nilSlice,none)) none) none=some r:=g;obtain⟨q1,g⟩:=C8 g;obtain⟨S,g⟩:=C8 g;obtain rfl:=gI q1;obtain rfl:=gI S;cases g;refine .none (by simp [d9.lt]) λo A w=>?_;rw [F none 0 0 0 0 w rfl (Q 0 w (J2 _) (J2 _)) o A];rfl
  | slice id off len cap=>obtain⟨l,h,g,Q⟩:=hb len (λl=>rfl);have g:K6.known es l id off cap h=some r:=g;simp only [K6.known] at g;obtain⟨q1,g⟩:=C8 g;obtain⟨S,g⟩:=C8 g;have q1:=Xd q1;have S:=Xd S;cases g;refine .none e2 λo A w=>?_;rw [F _ len cap l h w rfl (Q cap w q1 S) o A];simp only [l9,uH,abe,J5.oF];by_cases J:cap=l;rw [if_pos J,if_pos J.symm];rfl;rw [if_neg J,if_neg (λe=>J e.symm)];rfl
  | sliceU id off len es'=>
   obtain⟨l,h,g,Q⟩:=hb len (λl=>rfl);have g:K6.unk D es l id off len es' h=some r:=g;simp only [K6.unk] at g;obtain⟨q1,p1⟩:=C8 g;obtain⟨S,p2⟩:=C8 p1;obtain⟨q3,p3⟩:=C8 p2;clear g p1 p2;have q1:=Xd q1;have S:=Xd S;obtain rfl:=gI q3;obtain⟨L,H,G⟩:=e2;have G:off+len*es<=(n.cap id):=G;rw [E id L] at G;have M:len<=((ι id).cap-off) / es:=(adV H).2 (by omega);have hX:l9 ι (.sliceU id off len es)=.slice (some (ι.at id off)) len (((ι id).cap-off) / es):=by simp [l9]
   have B:=λw=>F _ _ _ l h w hX (Q _ w q1 (aP S M));have a2:∀k,k*es<=(ι id).cap-off->((ι id).cap-(off+k*es)) / es=((ι id).cap-off) / es-k:=by intro k hk;rw [← Nat.sub_sub,ad4 k es,Nat.sub_mul_div]
   cases I:Nat.blt l len with
   | true=>
    have g:some (d9.sliceU id (off+l*es) (h-l) es,none)=some r:=(by rw [I] at p3;exact p3);have am:l<len:=Eq.mp X8 I;cases g;have a3:h*es<=len*es:=aac _ S;have aj:l*es+(h-l)*es=h*es:=(by rw [← acG];congr 1;omega);refine .none ⟨L,H,by rw [E id L];omega⟩ λo A w=>?_;rw [B w o A,if_neg (by omega)];simp only [l9,abe,J5.oF]
    rw [a2 l (by have:l*es<=len*es:=aac _ (by omega)
                 omega)]
   | false=>
    have al:len<=l:=by rcases aef l len with hh | hh;rw [(Eq.mpr X8 hh:Nat.blt l len=true)] at I;cases I;exact hh
    have g:bi (Nat.beq l 0) (some (d9.sliceU id off (h-l) es,none)) (some (.sliceU D 0 0 es,some (.tail id)))=some r:=(by rw [I] at p3;exact p3);rw [uH] at g;split at g;rename_i N;subst N;cases g;obtain rfl:len=0:=(by omega);obtain rfl:h=0:=(by omega);refine .none ⟨L,H,by rw [E id L];omega⟩ λo A w=>?_;rw [B w o A];simp only [l9,abe,J5.oF,adE,Y6,ai1,ite_self];cases g;obtain rfl:l=len:=(by omega);obtain rfl:h=l:=(by omega);by_cases J:((ι id).cap-off) / es=h;refine .tail ⟨(ι id).b,(ι id).base+off,0,if off=0 then (ι id).spot else none⟩ L (.inl rfl) (λo A w=>?_) λn' hm C E=>⟨C,H,by rw [E];simp⟩;rw [B w o A,if_pos J,J];simp [l9,J5.at];refine .tail ⟨(ι id).b,(ι id).base+(off+h*es),(ι id).cap-(off+h*es),if off+h*es=0 then (ι id).spot else none⟩ L (.inr ⟨rfl,by show (ι id).base+(off+h*es)+((ι id).cap-(off+h*es))<=(ι id).base+(ι id).cap;omega,λhh=>by show (if off+h*es=0 then (ι id).spot else none)=none;rw [hh];simp⟩) (λo A w=>?_) λn' hm C E=>⟨C,H,by rw [E];simp⟩;rw [B w o A,if_neg J,← a2 h (by omega)];have a0:=J5.oF ι id off (h*es);simp only [l9,abe,a0];simp [J5.at]
  | _=>obtain⟨l,h,g,_⟩:=hb 0 (λl=>rfl);cases g
end
theorem Mem.nC {m:Mem}(h:T.Ok m.t m.nx){id:Nat}{b b':O6}(c:m.get id=some b)(a:bV b'=false)(i:Nat)(f:m.has i):(m.set id b').has i:=by obtain⟨x,d,e⟩:=f;by_cases he:i=id;subst he;exact⟨b',by rw [Mem.U7 h (Mem.H9 h c),if_pos rfl],a⟩;exact⟨x,by rw [Mem.U7 h (Mem.H9 h c),if_neg he];exact d,e⟩
theorem getElem?_set_ne (a:Array Obj)(i j:Nat)(o:Obj)(h:i≠j):(a.setIfInBounds i o)[j]?=a[j]?:=Y2 h
structure Put (w w':World)(b:Nat)(o:Obj):Prop where
 heap:w'.heap=w.heap.setIfInBounds b o
 os:w'.os=w.os
 out:w'.output=w.output
 tape:w'.tape=w.tape
theorem Step.set' {P:Program}{G:Mem}{ι:J5}{m:Mem}{w w':World}(h:RM P G ι m w.heap){id:Nat}{b b':O6}(r:m.lim<=id)(q:m.get id=some b)(u:R8 b=true)
  (L:bV b'=false) {o:Obj} (s:Put w w' (ι id).b o)
  (D:dF P ι ((m.set id b').nm ι) (w.heap.setIfInBounds (ι id).b o) (ι id) b')
  (S:R8 b'=true->∀c e fz,o=.cells c e fz->∀k,k<c.size->¬ (fz.1<=k∧k<fz.2)):
  Step P G ι m w ι (m.set id b') w':=by
 have F:=Mem.H9 h.ok q;have a:=Mem.U7 h.ok F b';have l:=λi p=>Mem.nC h.ok q L i p;have v:=h.own id b r q u;have E:(ι id).b<w.heap.size:=eD (h.blk id b q) u;refine⟨⟨h.ok.put id b' F,?_,?_,h.glim,h.limn,h.gle,λi p=>by rw [a,if_neg (by have:=h.glim;omega)];exact h.base i p,λi p=>l i (h.ghas i p),h.glob,λi x d f=>by
   rw [a] at d;split at d;rename_i e;subst e;exact h.spot i b q u;exact h.spot i x d f,h.Lx λt A O=>by
   rw [s.heap,getElem?_set_ne];intro e;exact O ⟨id,b,r,q,u,e⟩⟩,λ_ _=>rfl,l,J2 _,rfl,?_,by rw [s.heap];simp,?_,?_,s.os,s.out,s.tape⟩
 intro i x d;rw [a] at d;rw [s.heap];split at d;rename_i e;subst e;cases d;exact D;rename_i e;exact (h.blk i x d).mono (n:=m.nm ι) (λ_ _=>rfl) (Mem.V7 l λ_ _=>rfl) (λf=>getElem?_set_ne _ _ _ _ (λK=>v.alone i x e d f K.symm));intro i x p d f;rw [a] at d;have I:∀j y,m.get j=some y->R8 y=true->j≠i->∀(z:O6),m.get i=some z->R8 z=true->(ι j).b≠(ι i).b:=λj y H B N z C g=>(h.own i z p C g).alone j y N H B;have M:∃z,m.get i=some z∧R8 z=true:=by split at d;rename_i e;subst e;exact⟨b,q,u⟩;exact⟨x,d,f⟩
 obtain⟨z,C,g⟩:=M;refine⟨λj y Q H B=>?_,λc e fz J=>?_⟩;rw [a] at H;split at H;rename_i R;subst R;exact I j b q u Q z C g;exact I j y H B Q z C g;by_cases he:i=id;subst he;rw [if_pos rfl] at d;cases d;rw [s.heap,Y5 E] at J;exact S f c e fz (Y4 J);rw [s.heap,getElem?_set_ne _ _ _ _ (λK=>v.alone i z he C g K.symm)] at J;exact (h.own i z p C g).free c e fz J;intro i p;rw [a,if_neg (by omega)];intro t A O;rw [s.heap,getElem?_set_ne];intro e;exact O ⟨id,b,r,q,u,e⟩;rintro t ⟨i,x,p,d,f,rfl⟩;rw [a] at d;split at d;rename_i e;subst e;exact .inl ⟨i,b,r,q,u,rfl⟩;exact .inl ⟨i,x,p,d,f,rfl⟩
theorem Step.set {P:Program}{G:Mem}{ι:J5}{m:Mem}{w w':World}(h:RM P G ι m w.heap){id:Nat}{b b':O6}(f:m.lim<=id)(i:m.get id=some b)(j:R8 b=true)
  (d:bV b'=false) {o:Obj} (l:Put w w' (ι id).b o)
  (a:dF P ι ((m.set id b').nm ι) (w.heap.setIfInBounds (ι id).b o) (ι id) b')
  (g:∀c e fz,o=.cells c e fz->∀k,k<c.size->¬ (fz.1<=k∧k<fz.2)):
  Step P G ι m w ι (m.set id b') w':=Step.set' h f i j d l a λ_=>g
theorem Step.kill {P:Program}{G:Mem}{ι:J5}{m:Mem}{w:World}(h:RM P G ι m w.heap){id:Nat}{b:O6}(q:m.lim<=id)(o:m.get id=some b):
  Step P G ι m w ι (m.set id .dead) w:=by
 have k:=Mem.H9 h.ok o;have d:=Mem.U7 h.ok k .dead;have e:=λi f=>Mem.nC (b':=.dead) h.ok o rfl i f;have g:∀i x,(m.set id .dead).get i=some x->R8 x=true->m.get i=some x:=λi x c a=>by rw [d] at c;split at c;cases c;cases a;exact c
 refine⟨⟨h.ok.put id .dead k,?_,?_,h.glim,h.limn,h.gle,λi f=>by rw [d,if_neg (by have:=h.glim;omega)];exact h.base i f,λi f=>e i (h.ghas i f),h.glob,λi x c a=>h.spot i x (g i x c a) a,h.gsz⟩,λ_ _=>rfl,e,J2 _,rfl,?_,J2 _,λ_ _ _=>rfl,?_,rfl,rfl,rfl⟩;intro i x c;rw [d] at c;split at c;cases c;trivial;exact (h.blk i x c).mono (n:=m.nm ι) (λ_ _=>rfl) (Mem.V7 e λ_ _=>rfl) (λ_=>rfl);intro i x f c a;have p:=h.own i x f (g i x c a) a;exact⟨λj y r s l=>p.alone j y r (g j y s l) l,p.free⟩;intro i f;rw [d,if_neg (by omega)];rintro b₁ ⟨i,x,f,c,a,rfl⟩;exact .inl ⟨i,x,f,g i x c a,a,rfl⟩
section
variable {P:Program}{G:Mem}{ι:J5}{m:Mem}{w:World}{slots:List Nat}{done:List (Option Nat)}{ls:List d9}{env:T d9}{a:Act}
def aL (P:Program)(G:Mem)(ι:J5)(m:Mem)(w:World)(outs:List VM)(v:Value)(w':World):Prop:=
 ∃r∈outs,∃ι',Step P G ι m w ι' r.m w'∧r.v.lt (r.m.nm ι')∧v=l9 ι' r.v
def Does (P:Program)(ρ:Operand->Value)(o:Oper)(w:World)(R:Value->World->Prop):Prop:=
 match (execOp ρ o).run P w with
 | .ok (.value v) w'=>R v w'
 | .ok .skip w'=>R undef w'
 | .ok (.enter f args) w'=>CallsIn Fence.wide 0 P f args w' λe w''=>∃v,e=.returned v∧R v w''
 | .ok (.round l f tmps assign body) w'=>RoundIn Fence.wide 0 P l f tmps assign body w' λe w''=>∃v,e=.returned v∧R v w''
 | _=>False
theorem M9 {a:Operand->Value}{o:Oper}{R:Value->World->Prop}{v:Value}{w':World}(h:(execOp a o).run P w=.ok (.value v) w')(b:R v w'):Does P a o w R:=by unfold Does;rw [h];exact b
theorem Aq {a:Operand->Value}{o:Oper}{R:Value->World->Prop}{w':World}(h:(execOp a o).run P w=.ok .skip w')(b:R undef w'):Does P a o w R:=by unfold Does;rw [h];exact b
theorem qc:∀{l:List d9},K5 l=true->∀v∈l,w9 v=true
 | [],_,v,hv=>by cases hv
 | x::l,h,v,hv=>by
  have h:bi (w9 x) (K5 l) false=true:=h;cases hx:w9 x with
  | false=>rw [hx] at h;cases h
  | true=>rw [hx] at h;rcases Z4.1 hv with rfl | hv;exact hx;exact qc h v hv
theorem Ar {v:d9}(h:w9 v=true):(∀l,l9 ι v≠.agg l)∧∀l,l9 ι v≠.tuple l:=by cases v<;>simp_all [w9,l9]
theorem run_store {a:Addr}{v x:Value}{w:World}(d:w.cell? a=some x)(e:w.frozen? a=false)(b:∀l,v≠.agg l)(c:∀l,v≠.tuple l):
  (store a v).run P w=.ok () (w.setCell a v):=by
 cases v<;>first | exact absurd rfl (b _) | exact absurd rfl (c _) | simp [store,Sem.run,d,e]
def over (c:Array Value)(o:Nat):List Value->Array Value
 | []=>c
 | v::l=>over (c.setIfInBounds o v) (o+1) l
@[simp] theorem afx (l:List Value):∀(c:Array Value) (o:Nat),(over c o l).size=c.size:=by
 induction l with
 | nil=>intro c o;rfl
 | cons v l ih=>intro c o;rw [over,ih];simp
theorem zh (l:List Value):∀(c:Array Value) (o:Nat),o+l.length<=c.size->∀i,(over c o l)[i]?=if i<o then c[i]? else if i<o+l.length then l[i-o]? else c[i]?:=by
 induction l with
 | nil=>intro c o h i;simp [over];omega
 | cons v l ih=>intro c o h i;simp only [Y1] at h ⊢;rw [over,ih _ _ (by simp;omega)];by_cases h1:i<o;rw [if_pos h1,if_pos (by omega),Y2 (by omega)];by_cases h2:i=o;subst h2;rw [if_pos (by omega),if_neg h1,if_pos (by omega),Y5 (by omega)];simp;rw [if_neg (by omega),if_neg h1];by_cases h3:i<o+1+l.length;rw [if_pos h3,if_pos (by omega),show i-o=(i-(o+1))+1 from by omega];simp;rw [if_neg h3,if_neg (by omega),Y2 (by omega)]
theorem oK {b:Nat}{e:TypeId}{d:Nat×Nat}:∀(vs:List Value) (c:Array Value) (base i:Nat) (w:World),w.heap[b]?=some (.cells c e d)->
  base+i+vs.length<=c.size->(∀k,k<c.size->¬ (d.1<=k∧k<d.2))->(∀v∈vs,(∀l,v≠.agg l)∧∀l,v≠.tuple l)->
  (storeCells ⟨b,base,none⟩ vs i).run P w=.ok () {w with heap:=w.heap.setIfInBounds b (.cells (over c (base+i) vs) e d)}:=by
 intro vs;induction vs with
 | nil=>
  intro c base i w a p h n;have:w.heap.setIfInBounds b (.cells c e d)=w.heap:=by apply acP;intro j;by_cases hj:b=j;subst hj;rw [Y5 (K9.1 a).1,a];rw [Y2 hj]
  simp [storeCells,over,this]
 | cons v vs ih=>
  intro c base i w a p h n;simp only [Y1] at p;have f:base+i<c.size:=by omega
  have o:=n v (by simp);have q:w.cell? ⟨b,base+i,none⟩=some c[base+i]:=by simp [World.cell?,a,f]
  have m:w.frozen? ⟨b,base+i,none⟩=false:=by have:=h (base+i) f;simp only [World.frozen?,a,agm,decide_eq_false_iff_not];omega
  simp only [storeCells,Xb];rw [show (⟨b,base,none⟩:Addr).add i=⟨b,base+i,none⟩ from by simp [Addr.add],run_store q m o.1 o.2,J4];have g:w.setCell ⟨b,base+i,none⟩ v={w with heap:=w.heap.setIfInBounds b (.cells (c.setIfInBounds (base+i) v) e d)}:=by simp only [World.setCell];congr 1;apply acP;intro j;rw [agQ];by_cases hj:b=j;subst hj;rw [if_pos rfl,a,Y5 (K9.1 a).1];simp;rw [if_neg hj,Y2 hj]
  rw [g,ih (c.setIfInBounds (base+i) v) base (i+1) _ (by simp [Y5 (K9.1 a).1]) (by simp;omega) (by simpa using h) (λx r=>n x (by simp [r]))];congr 2;simp [over,aeo]
theorem Gf {rs n off:Nat}{rows rows':T (List d9)}{b:List d9}(h:U1 rs n rows off b=some rows'):
  off / rs<n∧∃row,rows.get (off / rs)=some row∧off%rs+b.length<=rs∧rows'=rows.put (off / rs) (kU (off%rs) b row):=by
 obtain⟨c,h⟩:=C8 h;obtain⟨row,d,h⟩:=u6 h;obtain⟨a,h⟩:=C8 h;have a:=Xd a;rw [I5] at a;cases h;exact⟨Eq.mp X8 c,row,d,a,rfl⟩
theorem zi {n:Nm}{h h':Array Obj}{l:Loc}{rs k off:Nat}{rows rows':T (List d9)}{g:List d9}(hb:dF P ι n h l (.cells rs k rows))(V:U1 rs k rows off g=some rows')
  (w:aM n g) {c:Array Value} {e:TypeId} {r:Nat×Nat} (R:h[l.b]?=some (.cells c e r)) (t:h'[l.b]?=some (.cells (over c (l.base+off) (o9 ι g)) e r)):
  dF P ι n h' l (.cells rs k rows')∧l.base+off+g.length<=c.size:=by
 obtain⟨B,C,s,F,M,⟨O,N,Q,a,q⟩,G⟩:=hb;rw [R] at F;cases F;obtain⟨A,X,Z,w3,rfl⟩:=Gf V;obtain⟨f,D,J,E,K⟩:=G _ A;rw [Z] at D;cases D;have S:off / rs*rs+off%rs=off:=by rw [ad4];exact ajJ off rs
 have H:off / rs*rs+rs<=k*rs:=by
  calc off / rs*rs+rs=(off / rs+1)*rs:=by rw [aco]
   _<=k*rs:=aac _ A
 have m:l.base+off+g.length<=c.size:=by omega
 refine⟨⟨_,e,r,t,by simpa using M,⟨O,N,Q,a.put _ _ (by omega),λY p I=>?_⟩,λi U=>?_⟩,m⟩;have L:off / rs=0:=Nat.lt_one_iff.1 (ae7 A p);rw [L,Sy a (by omega) (by omega)] at I;obtain⟨x,y,z⟩:=q Y p I;exact⟨x,y,by simpa using z⟩;by_cases hi0:i=off / rs;subst hi0;refine⟨_,T.aT a _ _ (by omega),by rw [yP _ _ _ (by omega)];exact J,?_,λj u=>?_⟩;rw [jY _ _ _ (by omega),bQ];intro v d;rcases aae.1 d with d | d;exact N8 E (ae0 d);rcases aae.1 d with d | d;exact N8 w d;exact N8 E (adZ d);have o:=K j u;rw [zh _ _ _ (by simp;omega),Sv _ _ _ (by omega)];simp only [U0];by_cases c1:j<off%rs;rw [if_pos (by omega),if_neg (by omega)];exact o;by_cases c2:j<off%rs+g.length;rw [if_neg (by omega),if_pos (by omega),if_pos (by omega),aG];congr 2;omega;rw [if_neg (by omega),if_neg (by omega),if_neg (by omega)];exact o;obtain⟨f,x,y,z,W⟩:=G i U;refine⟨f,by rw [T.bA a _ _ _ (by omega) (λe=>hi0 e.symm)];exact x,y,z,λj u=>?_⟩;rw [zh _ _ _ (by simp;omega),← W j u];simp only [U0];rcases aef i (off / rs) with hlt | hge;have:i*rs+rs<=off / rs*rs:=by
  calc i*rs+rs=(i+1)*rs:=by rw [aco]
   _<=off / rs*rs:=aac _ hlt
 rw [if_pos (by omega)];have:off / rs*rs+rs<=i*rs:=by
  calc off / rs*rs+rs=(off / rs+1)*rs:=by rw [aco]
   _<=i*rs:=aac _ (by omega)
 rw [if_neg (by omega),if_neg (by omega)]
theorem Gg (rs n:Nat)(rows:T (List d9))(off:Nat):iB rs n [] rows off=some rows:=rfl
theorem Ee (rs n:Nat)(v:d9)(a:List d9)(rows:T (List d9))(off:Nat):
  iB rs n (v::a) rows off=ob (U1 rs n rows off [v]) λrows'=>iB rs n a rows' (off+1):=rfl
theorem gG {h:Array Obj}{b:Nat}{x o:Obj}(hb:h[b]?=some x):(h.setIfInBounds b o)[b]?=some o:=
 Y5 (K9.1 hb).1
theorem set_set (h:Array Obj)(b:Nat)(x y:Obj):(h.setIfInBounds b x).setIfInBounds b y=h.setIfInBounds b y:=by apply acP;intro j;by_cases hj:b=j;subst hj;by_cases hb:b<h.size;rw [Y5 (by simpa using hb),Y5 hb];simp [adK hb];rw [Y2 hj,Y2 hj,Y2 hj]
theorem Gh {n:Nm}{l:Loc}{rs k:Nat}{e:TypeId}{g:Nat×Nat}:∀(vs:List d9) (off:Nat) (rows rows':T (List d9)) (h:Array Obj) (c:Array Value),
  dF P ι n h l (.cells rs k rows)->iB rs k vs rows off=some rows'->aM n vs->h[l.b]?=some (.cells c e g)->
  dF P ι n (h.setIfInBounds l.b (.cells (over c (l.base+off) (o9 ι vs)) e g)) l (.cells rs k rows')∧(vs≠[]->l.base+off+vs.length<=c.size):=by
 intro vs;induction vs with
 | nil=>intro off rows rows' h c i f _ a;rw [Gg] at f;cases f;refine⟨i.mono (n:=n) (λ_ _=>rfl) (Nm.le_refl n) λ_=>?_,λh=>absurd rfl h⟩;rw [gG a,a];rfl
 | cons v vs ih=>
  intro off rows rows' h c i f d a;rw [Ee] at f;obtain⟨m,r,s⟩:=u6 f;obtain⟨o,p⟩:=zi (h':=h.setIfInBounds l.b (.cells (over c (l.base+off) (o9 ι [v])) e g)) i r ⟨d.1,trivial⟩ a (gG a);obtain⟨j,q⟩:=ih (off+1) _ _ _ _ o s d.2 (gG a);rw [set_set] at j;refine⟨?_,λ_=>?_⟩;simpa [o9,over,aeo] using j;cases vs with
  | nil=>simpa using p
  | cons u vs=>have:=q (by simp);simp at this ⊢;omega
theorem GN (r:RM P G ι m w.heap){id rs k off:Nat}{rows rows':T (List d9)}(q:m.lim<=id)(p:m.get id=some (.cells rs k rows)){d:List d9}
  (y:K5 d=true) (A:aM (m.nm ι) d)
  (hb:∀c e fz,w.heap[(ι id).b]?=some (.cells c e fz)->dF P ι (m.nm ι) (w.heap.setIfInBounds (ι id).b (.cells (over c ((ι id).base+off) (o9 ι d)) e fz)) (ι id) (.cells rs k rows')∧
   (d≠[]->(ι id).base+off+d.length<=c.size)):
  ∃w',(storeCells (ι.at id off) (o9 ι d) 0).run P w=.ok () w'∧Step P G ι m w ι (m.set id (.cells rs k rows')) w':=by
 obtain⟨c,e,fz,g,_⟩:=r.blk id _ p;obtain⟨f,o⟩:=hb c e fz g;have a:=(r.own id _ q p rfl).free c e fz g;have s:∀v∈o9 ι d,(∀l,v≠.agg l)∧∀l,v≠.tuple l:=by intro v t;rw [aU] at t;obtain⟨u,B,rfl⟩:=acY.1 t;exact Ar (qc y u B)
 refine⟨{w with heap:=w.heap.setIfInBounds (ι id).b (.cells (over c ((ι id).base+off) (o9 ι d)) e fz)},?_,?_⟩;cases d with
 | nil=>
  have:w.heap.setIfInBounds (ι id).b (.cells c e fz)=w.heap:=by apply acP;intro j;by_cases hj:(ι id).b=j;subst hj;rw [gG g,g];rw [Y2 hj]
  simp [o9,storeCells,over,this]
 | cons v d=>have:=o (by simp);rw [J5.yQ (r.spot id _ p rfl)];exact oK (o9 ι (v::d)) c ((ι id).base+off) 0 w g (by simpa using this) a s
 refine Step.set r q p rfl rfl ⟨rfl,rfl,rfl,rfl⟩ ?_ (λC D x h=>by cases h;simpa using a);exact f.mono (n:=m.nm ι) (λ_ _=>rfl) (Mem.V7 (λi z=>Mem.nC r.ok p rfl i z) λ_ _=>rfl) λ_=>rfl
theorem Gi (l:RM P G ι m w.heap){id off:Nat}{d:List d9}{β:Type}{k:Mem->Option β}{r:β}(hs:storeAt m id off d k=some r)(a:aM (m.nm ι) d):
  ∃m' w',k m'=some r∧(storeCells (ι.at id off) (o9 ι d) 0).run P w=.ok () w'∧Step P G ι m w ι m' w':=by
 obtain⟨g,hs⟩:=jX hs;obtain⟨v,hs⟩:=C8 hs;obtain⟨z,n,o,j,hs⟩:=dh hs;obtain⟨rows',y,x⟩:=u6 hs;have f:m.lim<=id:=by rcases aef id m.lim with h | h;rw [(Eq.mpr X8 h:Nat.blt id m.lim=true)] at g;cases g;exact h
 obtain⟨w',t,u⟩:=GN (off:=off) (rows':=rows') l f j v a (λc e s i=>by
  obtain⟨p,q⟩:=zi (h':=w.heap.setIfInBounds (ι id).b (.cells (over c ((ι id).base+off) (o9 ι d)) e s)) (l.blk id _ j) y a i (gG i);exact⟨p,λ_=>q⟩)
 exact⟨_,w',x,t,u⟩
theorem mX (g:RM P G ι m w.heap){id off:Nat}{b:List d9}{β:Type}{k:Mem->Option β}{r:β}(hs:jE m id off b k=some r)(d:aM (m.nm ι) b):
  ∃m' w',k m'=some r∧(storeCells (ι.at id off) (o9 ι b) 0).run P w=.ok () w'∧Step P G ι m w ι m' w':=by
 cases b with
 | nil=>exact⟨m,w,hs,by simp [o9,storeCells],Step.refl g⟩
 | cons v b=>
  have hs:bi (Nat.blt id m.lim) none (bi (K5 (v::b)) (Q6 (m.get id) λi n a=>ob (iB i n (v::b) a off) λrows'=>k (m.set id (.cells i n rows'))) none)=some r:=hs;obtain⟨j,hs⟩:=jX hs;obtain⟨q,hs⟩:=C8 hs;obtain⟨i,n,a,l,hs⟩:=dh hs;obtain⟨rows',u,t⟩:=u6 hs;have f:m.lim<=id:=by rcases aef id m.lim with h | h;rw [(Eq.mpr X8 h:Nat.blt id m.lim=true)] at j;cases j;exact h
  obtain⟨w',o,p⟩:=GN (off:=off) (rows':=rows') g f l q d (λc e x s=>Gh (v::b) off a rows' _ c (g.blk id _ l) u d s);exact⟨_,w',t,o,p⟩
theorem jJ {a b:Nat}(h:Nat.blt a b=false):b<=a:=by rcases aef a b with g | g;rw [(Eq.mpr X8 g:Nat.blt a b=true)] at h;cases h;exact g
theorem LV (s:St P ι (m.nm ι) slots done ls env a.tmps)(u:RM P G ι m w.heap){t:TypeId}{x y:Operand}{k:Nat}{l c:O8}(r:aH P t=some k)
  (A:K7 P slots done x=some l) (B:K7 P slots done y=some c) {cf:D7} {outs:List VM} (z:nO (.store k l c) cf ls env m=some outs):
  ∀o:Oper,o.op=.store t x y->Does P a.eval o w (aL P G ι m w outs):=by
 intro o v;obtain⟨id,off,f,h⟩:=dW z;have f:G6 l ls env=.ptr id off:=f;obtain⟨g,h⟩:=C8 h;have g:(G6 c ls env).cells.length=k:=by rw [← I5];exact gI g
 obtain⟨n,_⟩:=r9 s A;obtain⟨p,e⟩:=r9 s B;obtain⟨C,w',i,d,b⟩:=Gi u h (uw e);cases i;refine Aq (w':=w') ?_ ⟨_,aA.2 rfl,ι,b,trivial,rfl⟩;have j:(l9 ι (G6 c ls env)).cells.size=k:=by rw [lD];simp [g]
 have q:(l9 ι (G6 c ls env)).cells.toList=o9 ι (G6 c ls env).cells:=by rw [lD]
 simp [execOp,v,Instr.storeAt,n,p,f,l9,Instr.sureAddr,storeVar,run_sizeOf r,j,q,d]
end
section
variable {P:Program}{G:Mem}{ι:J5}{m:Mem}{w:World}{slots:List Nat}{done:List (Option Nat)}{ls:List d9}{env:T d9}{a:Act}
theorem rY {r:Nat}{o x:Obj}(h:w.heap[r]?=some x)(a:∀c e fz,x≠.cells c e fz):(setObj r o).run P w=.ok () {w with heap:=w.heap.setIfInBounds r o}:=by simp only [setObj,Sem.run,h]
theorem lU {kk:PK}{x y:d9}(h:FN kk x y=some true)(n:Nat):Instr.sameBits n (l9 ι x) (l9 ι y)=true:=by
 cases kk with
 | i=>obtain⟨k,p,q,rfl,rfl,a⟩:=oH (show K8 x y=some true from h);simp [l9,Instr.sameBits];simpa using a.symm
 | b=>obtain⟨p,q,rfl,rfl,a⟩:=gW (show nZ x y=some true from h);simp [l9,Instr.sameBits];simpa using a.symm
 | s=>obtain⟨p,q,rfl,rfl,a⟩:=jr (show eqStr x y=some true from h);simp [l9,Instr.sameBits,lS];simpa using a.symm
theorem wU:∀(ks:List PK) (x y:List d9),bF ks x y=some true->x.length=ks.length->y.length=ks.length->∀n,
  ((o9 ι x).zip (o9 ι y)).all (λ(p:Value×Value)=>Instr.sameBits n p.1 p.2)=true
 | [],x,y,_,h1,h2,n=>by cases x<;>simp_all [o9]
 | k::ks,x,y,h,h1,h2,n=>by
  cases x with
  | nil=>simp at h1
  | cons a x=>
   cases y with
   | nil=>simp at h2
   | cons b y=>
    rw [jG] at h;obtain⟨r,h3,h4⟩:=u6 h;cases r with
    | false=>cases h4
    | true=>have ih:=wU ks x y h4 (by simpa using h1) (by simpa using h2) n;simp only [o9,List.zip_cons_cons,alp,lU h3 n,aea];exact ih
theorem Jw {kk:Aa}{t:TypeId}(z:tH P t=some kk){x y:d9}(h:mM kk x y=some true)(f:x.cells.length=Af kk)(g:y.cells.length=Af kk):
  Instr.sameBits 10000 (l9 ι y) (l9 ι x)=true:=by
 have c:∀kk x y,FN kk x y=some true->FN kk y x=some true:=by
  intro kk x y h;cases kk with
  | i=>obtain⟨k,p,q,rfl,rfl,d⟩:=oH (show K8 x y=some true from h)
       have:p=q:=(by simpa using d.symm);subst this;exact h
  | b=>obtain⟨p,q,rfl,rfl,d⟩:=gW (show nZ x y=some true from h)
       have:p=q:=(by simpa using d.symm);subst this;exact h
  | s=>obtain⟨p,q,rfl,rfl,d⟩:=jr (show eqStr x y=some true from h)
       have:p=q:=(by simpa using d.symm);subst this;exact h
 rcases vO z with⟨rfl,_⟩ | ⟨_,rfl,_⟩ | ⟨rfl,_⟩ | ⟨fs,a,rfl,_,_⟩;exact lU (kk:=.b) (c .b x y h) _;exact lU (kk:=.i) (c .i x y h) _;exact lU (kk:=.s) (c .s x y h) _;obtain⟨l,rfl,n⟩:=dX h;obtain⟨j,rfl,o⟩:=dX n;have f:l.length=a.length:=f;have g:j.length=a.length:=g;have e:∀(a:List PK) (x y:List d9),bF a x y=some true->bF a y x=some true:=by
  intro a;induction a with
  | nil=>intro x y h;exact lG y x
  | cons k a ih=>
   intro x y h;cases x with
   | nil=>cases h
   | cons u x=>
    cases y with
    | nil=>cases h
    | cons v y=>
     rw [jG] at h ⊢;obtain⟨r,w,m⟩:=u6 h;cases r with
     | false=>cases m
     | true=>rw [c k u v w];exact ih x y m
 have:=wU (ι:=ι) a j l (e a l j o) g f 9999;simp only [l9,Instr.sameBits,ad5,U0,f,g,beq_self_eq_true,aea];exact this
theorem uM (ι:J5)(e:d9×d9):∀(es:List (d9×d9)) (j:Nat),I6 ι (es ++ [e]) j=I6 ι es j ++ [{key:=l9 ι e.1,val:=l9 ι e.2,born:=j+es.length}]
 | [],j=>by simp [I6]
 | x::es,j=>by simp [I6,uM ι e es,aeo,ajp 1]
theorem Ef (k v:d9)(i:Nat):bY [] k v i=[]:=rfl
theorem mh (e:d9×d9)(es:List (d9×d9))(k v:d9):bY (e::es) k v 0=(k,v)::es:=rfl
theorem mo (e:d9×d9)(es:List (d9×d9))(k v:d9)(i:Nat):bY (e::es) k v (i+1)=e::bY es k v i:=rfl
theorem wV (k v:d9):∀(es:List (d9×d9)) (i:Nat),(bY es k v i).length=es.length
 | [],i=>rfl
 | e::es,0=>by simp [mh]
 | e::es,i+1=>by simp [mo,wV k v es]
theorem rZ {k v:d9}:∀{es:List (d9×d9)} {i:Nat} {x:d9×d9},x∈bY es k v i->x=(k,v)∨x∈es
 | [],i,x,h=>by cases h
 | e::es,0,x,h=>by rw [mh] at h;rcases Z4.1 h with h | h;exact .inl h;exact .inr (Z5 _ h)
 | e::es,i+1,x,h=>by rw [mo] at h;rcases Z4.1 h with h | h;exact .inr (by rw [h];exact acr);rcases rZ h with h | h;exact .inl h;exact .inr (Z5 _ h)
theorem uN (ι:J5)(k v:d9):∀(es:List (d9×d9)) (i j:Nat),
  (I6 ι es j).modify i (λe=>{e with key:=l9 ι k,val:=l9 ι v})=I6 ι (bY es k v i) j
 | [],i,j=>by simp [I6,Ef]
 | e::es,0,j=>by simp [I6,mh]
 | e::es,i+1,j=>by simp [I6,mo,uN ι k v es]
theorem Cu (C:RM P G ι m w.heap){t O e:TypeId}{kk:Aa}(N:P.underlying t=some (.map O e))(J:tH P O=some kk){id:Nat}{k x:d9}{es:List (d9×d9)}
  (z:m.lim<=id) (v:m.get id=some (.map es)) {r:Option (Nat×d9)} (S:P7 (mM kk) (Af kk) k es=some r) (B:k.lt (m.nm ι)) (D:x.lt (m.nm ι)) {outs:List VM}
  (q:Option.rec (one .undef (m.set id (.map (V8 es [(k,x)])))) (λp=>ob (pE p.1 es) λe=>
   bi (Nat.beq (len' e.1.cells) (Af kk)) (one .undef (m.set id (.map (bY es k x p.1)))) none) r=some outs):
  ∃w',(Instr.mapUpdate t (.map (some (ι id).b)) (l9 ι k) (l9 ι x)).run P w=.ok () w'∧aL P G ι m w outs undef w':=by
 obtain⟨L,⟨y,b,R⟩,M⟩:=ko S;obtain⟨c,f⟩:=C.blk id _ v;have g:=fD (P:=P) c (by intro _ _ _ e;cases e);have l:=λo=>rY (P:=P) (o:=o) c (by intro _ _ _ e;cases e);have u:=lT (ι:=ι) J M w;have s:=CU (ι:=ι) J L R false w;cases r with
 | none=>cases q;refine⟨{w with heap:=w.heap.setIfInBounds (ι id).b (.map (I6 ι (es ++ [(k,x)]) 0).toArray (es ++ [(k,x)]).length)},?_,_,aA.2 rfl,ι,Step.set C z v rfl rfl (o:=.map (I6 ι (es ++ [(k,x)]) 0).toArray (es ++ [(k,x)]).length) ⟨rfl,rfl,rfl,rfl⟩ ?_ (by intro _ _ _ h;cases h),trivial,rfl⟩;simp only [Instr.mapUpdate,Xb,run_underlying N,g,J4,s,u,ng,ae9,l];simp [uM];rw [Q9];refine⟨gG c,λe d=>?_⟩;have a:=Mem.V7 (ι:=ι) (ι':=ι) (λi I=>Mem.nC (b':=.map (es ++ [(k,x)])) C.ok v rfl i I) λ_ _=>rfl;rcases aae.1 d with d | d;exact⟨d9.L6 a _ (f e d).1,d9.L6 a _ (f e d).2⟩;rw [aA.1 d];exact⟨d9.L6 a _ B,d9.L6 a _ D⟩
 | some p=>
  obtain⟨e,F,q⟩:=u6 q;obtain⟨H,q⟩:=C8 q;cases q;rw [jk] at F;have H:e.1.cells.length=Af kk:=by rw [← I5];exact gI H
  obtain⟨j,T,E,K,_,Q⟩:=lH M;rw [aad] at E;rw [E,K] at F;cases F;have n:=Jw (ι:=ι) J Q L H;refine⟨{w with heap:=w.heap.setIfInBounds (ι id).b (.map (I6 ι (bY es k x p.1) 0).toArray es.length)},?_,_,aA.2 rfl,ι,Step.set C z v rfl rfl (o:=.map (I6 ι (bY es k x p.1) 0).toArray es.length) ⟨rfl,rfl,rfl,rfl⟩ ?_ (by intro _ _ _ h;cases h),trivial,rfl⟩;have A:(((I6 ι es 0).toArray[p.1]?).map (·.key)).getD (l9 ι k)=l9 ι e.1:=by simp [mg,E,K]
  simp only [Instr.mapUpdate,Xb,run_underlying N,g,J4,s,u,ng,abe,A,Instr.keyThatStays,n,if_true,Z7,l];rw [List.modify_toArray,uN];refine⟨by rw [wV];exact gG c,λe d=>?_⟩;have a:=Mem.V7 (ι:=ι) (ι':=ι) (λi I=>Mem.nC (b':=.map (bY es k x p.1)) C.ok v rfl i I) λ_ _=>rfl;rcases rZ d with d | d;rw [d];exact⟨d9.L6 a _ B,d9.L6 a _ D⟩;exact⟨d9.L6 a _ (f e d).1,d9.L6 a _ (f e d).2⟩
theorem GQ {ι:J5}(k v:d9):∀(L:List MapEntry) (es:List (d9×d9)) (j:Nat),L.map tJ=es.map (λe=>(l9 ι e.1,l9 ι e.2))->
  (L.modify j λe=>{e with key:=l9 ι k,val:=l9 ι v}).map tJ=(bY es k v j).map λe=>(l9 ι e.1,l9 ι e.2)
 | [],[],j,_=>by simp [Ef]
 | [],_ :: _,_,h=>by cases h
 | _ :: _,[],_,h=>by cases h
 | x::L,e::es,0,h=>by simp only [Z6,aeg] at h;rw [mh];simp [tJ];simpa [tJ] using h.2
 | x::L,e::es,j+1,h=>by simp only [Z6,aeg] at h;rw [mo];simp [h.1,GQ k v L es j h.2]
def LW (u:List UInt8)(x:d9)(e:d9×d9):d9×d9:=match e.1 with
 | .str t=>if t=u then (.str u,x) else e
 | _=>e
theorem VE (u:List UInt8)(x:d9)(e:d9×d9):(LW u x e).1=e.1:=by
 obtain⟨k,v⟩:=e;cases k<;>simp only [LW]
 split;rename_i h;rw [h];rfl
theorem QT {u:List UInt8}{x:d9}:∀{es:List (d9×d9)},(∀e∈es,e.1≠.str u)->es.map (LW u x)=es
 | [],_=>rfl
 | e::es,h=>by
  rw [Z6,QT λy hy=>h y (by simp [hy])];congr 1;have:=h e (by simp);obtain⟨k,v⟩:=e;cases k<;>simp only [LW]
  split;rename_i h';exact absurd (by simp [h']) this;rfl
theorem qd {u:List UInt8}{x v:d9}:∀{es:List (d9×d9)} {j:Nat},(es.map (·.1)).Nodup->es[j]?=some (.str u,v)->bY es (.str u) x j=es.map (LW u x)
 | [],j,_,h=>by simp at h
 | e::es,0,hn,h=>by simp at h;subst h;simp only [Z6,ad1] at hn;rw [mh,Z6,QT λy hy hk=>hn.1 (by rw [← hk];exact acY.2 ⟨y,hy,rfl⟩)];simp [LW]
 | e::es,j+1,hn,h=>by
  simp only [Z6,ad1] at hn;have h:es[j]?=some (.str u,v):=by simpa using h
  rw [mo,Z6,qd hn.2 h];congr 1;have hne:e.1≠.str u:=λhk=>hn.1 (by rw [hk];exact acY.2 ⟨_,Xl h,rfl⟩);obtain⟨k,w⟩:=e;cases k<;>simp only [LW]
  split;rename_i h';exact absurd (by simp [h']) hne;rfl
theorem Au (hm:RM P G ι m w.heap){t kt e:TypeId}{kk:Aa}(hu:P.underlying t=some (.map kt e))(Z:tH P kt=some kk){id:Nat}{u:List UInt8}{x:d9}{es:List (d9×d9)}
  (O:m.lim<=id) (Y:m.get id=some (.mapU es)) {r:Option (Nat×d9)} (hf:P7 (mM kk) (Af kk) (.str u) es=some r) (W:x.lt (m.nm ι)) {B:List (d9×d9)}
  (hr:(r=none∧B=es ++ [(.str u,x)])∨∃p,r=some p∧B=bY es (.str u) x p.1):
  ∃w',(Instr.mapUpdate t (.map (some (ι id).b)) (l9 ι (.str u)) (l9 ι x)).run P w=.ok () w'∧aL P G ι m w [⟨.undef,m.set id (.mapU B)⟩] undef w':=by
 obtain⟨h1,⟨y,b,h2⟩,C⟩:=ko hf;obtain⟨L,I,d,⟨hp,V,E⟩,q⟩:=hm.blk id _ Y;have s:=fD (P:=P) d (by intro _ _ _ e;cases e);have z:=λo=>rY (P:=P) (o:=o) d (by intro _ _ _ e;cases e);obtain⟨g,p1,p2⟩:=BH _ hp;obtain⟨r',q1,q2⟩:=abP Z p1 V E hf;have a5:(I6 ι g 0).map tJ=L.map tJ:=by rw [xM];exact p2.symm
 have D:=lT (ι:=ι) Z q1 w;rw [DY kt (l9 ι (.str u)) a5] at D;have N:=CU (ι:=ι) Z h1 h2 false w;have f:∀b',bV b'=false->(m.nm ι).le ((m.set id b').nm ι):=λb' a0=>Mem.V7 (ι:=ι) (ι':=ι) (λi hi=>Mem.nC (b':=b') hm.ok Y a0 i hi) λ_ _=>rfl;have S:es≠[]->mM kk=eqStr:=λF=>by
  cases es with
  | nil=>exact absurd rfl F
  | cons A es=>obtain⟨s0,a7⟩:=V A (by simp);rw [dH,a7] at C;obtain⟨b0,a2,_⟩:=u6 C;rw [(QS Z a2).1];rfl
 rcases hr with⟨rfl,rfl⟩ | ⟨p,rfl,rfl⟩;obtain rfl:r'=none:=by cases r'<;>simp at q2 ⊢
 refine⟨{w with heap:=w.heap.setIfInBounds (ι id).b (.map (L ++ [(⟨l9 ι (.str u),l9 ι x,I⟩:MapEntry)]).toArray (I+1))},?_,_,aA.2 rfl,ι,Step.set hm O Y rfl rfl (o:=.map (L ++ [(⟨l9 ι (.str u),l9 ι x,I⟩:MapEntry)]).toArray (I+1)) ⟨rfl,rfl,rfl,rfl⟩ ?_ (by intro _ _ _ h;cases h),trivial,rfl⟩;simp only [Instr.mapUpdate,Xb,run_underlying hu,s,J4,N,D,ng,ae9,z];simp;refine⟨_,_,gG d,⟨?_,λe c=>?_,?_⟩,λe c=>?_⟩;simp only [abK,Z6,agA];exact hp.append_right _;rcases aae.1 c with c | c;exact V e c;rw [aA.1 c];exact⟨u,rfl⟩;simp only [abK,Z6,agA];rw [List.nodup_append];refine⟨E,by simp,?_⟩;intro a ha b hb M;rw [aA.1 hb] at M;subst M;obtain⟨A,a3,a4⟩:=acY.1 ha;have Q:(d9.str u,A.2)∈es:=by rw [← a4];exact a3
 obtain⟨j,J,_⟩:=qb es 0 V E Q;rw [S (List.ne_nil_of_mem Q),J] at C;cases C;rcases aae.1 c with c | c;exact⟨d9.L6 (f _ rfl) _ (q e c).1,d9.L6 (f _ rfl) _ (q e c).2⟩;rw [aA.1 c];exact⟨trivial,d9.L6 (f _ rfl) _ W⟩;obtain⟨p',rfl⟩:∃p',r'=some p':=by cases r' with
  | none=>simp at q2
  | some p'=>exact⟨p',rfl⟩
 have F:es≠[]:=by rintro rfl;rw [dG] at C;cases C
 have c:=S F;have k:∃v,es[p.1]?=some (.str u,v):=by
  obtain⟨j,A,J,g2,_,K⟩:=lH C;rw [c] at K;obtain⟨a1,b1,g5,g6,g7⟩:=jr K;cases g5;have:u=b1:=by simpa using g7.symm
  subst this;exact⟨A.2,by rw [J,aad,g2,← g6]⟩
 have n:∃v,g[p'.1]?=some (.str u,v):=by
  obtain⟨j,A,J,g2,_,K⟩:=lH q1;rw [c] at K;obtain⟨a1,b1,g5,g6,g7⟩:=jr K;cases g5;have:u=b1:=by simpa using g7.symm
  subst this;exact⟨A.2,by rw [J,aad,g2,← g6]⟩
 obtain⟨v1,k⟩:=k;obtain⟨v2,n⟩:=n;have hL:∃X,L[p'.1]?=some X∧X.key=l9 ι (.str u):=by
  have:=congrArg (λl=>l[p'.1]?) p2;simp only [aaj,n,abe] at this;cases hl:L[p'.1]? with
  | none=>rw [hl] at this;cases this
  | some X=>rw [hl] at this;simp at this;exact⟨X,rfl,this.1⟩
 obtain⟨X,T,U⟩:=hL;have H:Instr.sameBits 10000 (l9 ι (.str u)) (l9 ι (.str u))=true:=by simp [l9,Instr.sameBits,lS]
 have a6:(g.map (·.1)).Nodup:=(p1.map _).nodup_iff.2 E;refine⟨{w with heap:=w.heap.setIfInBounds (ι id).b (.map (L.modify p'.1 λe=>{e with key:=l9 ι (.str u),val:=l9 ι x}).toArray I)},?_,_,aA.2 rfl,ι,Step.set hm O Y rfl rfl (o:=.map (L.modify p'.1 λe=>{e with key:=l9 ι (.str u),val:=l9 ι x}).toArray I) ⟨rfl,rfl,rfl,rfl⟩ ?_ (by intro _ _ _ h;cases h),trivial,rfl⟩;have R:((L.toArray[p'.1]?).map (·.key)).getD (l9 ι (.str u))=l9 ι (.str u):=by simp [T,U]
 simp only [Instr.mapUpdate,Xb,run_underlying hu,s,J4,N,D,ng,abe,R,Instr.keyThatStays,H,if_true,Z7,z];rw [List.modify_toArray];refine⟨_,_,gG d,⟨?_,λe c=>?_,?_⟩,λe c=>?_⟩;rw [show (L.modify p'.1 λe=>{e with key:=l9 ι (.str u),val:=l9 ι x}).map (λx=>(x.key,x.val))=(bY g (.str u) x p'.1).map (λe=>(l9 ι e.1,l9 ι e.2)) from GQ (.str u) x L g p'.1 p2,qd a6 n,qd E k];exact (p1.map _).map _;rcases rZ c with c | c;rw [c];exact⟨u,rfl⟩;exact V e c;rw [qd E k,ae2];rw [show ((λx=>x.1)∘LW u x:d9×d9->d9)=λe=>e.1 from funext λe=>VE u x e];exact E;rcases rZ c with c | c;rw [c];exact⟨trivial,d9.L6 (f _ rfl) _ W⟩;exact⟨d9.L6 (f _ rfl) _ (q e c).1,d9.L6 (f _ rfl) _ (q e c).2⟩
theorem GR {id:Nat}{k:d9}{es a:List (d9×d9)}(h:m.get id=some (.map es)):oh m id k a=one .undef (m.set id (.map a)):=by unfold oh;rw [h]
theorem Eh {id:Nat}{k:d9}{es a:List (d9×d9)}(h:m.get id=some (.mapU es)):oh m id k a=pF k λ_=>one .undef (m.set id (.mapU a)):=by unfold oh;rw [h]
theorem zk (s:St P ι (m.nm ι) slots done ls env a.tmps)(N:RM P G ι m w.heap){t S e:TypeId}{kk:Aa}(O:P.underlying t=some (.map S e))(M:tH P S=some kk)
  {x k y:Operand} {E d n:O8} (Q:K7 P slots done x=some E) (B:K7 P slots done k=some d) (R:K7 P slots done y=some n)
  {cf:D7} {outs:List VM} (T:nO (.mapSet kk E d n) cf ls env m=some outs):
  ∀o:Oper,(o.op=.mapUpdate t x k y∨o.op=.insert t x k y)->Does P a.eval o w (aL P G ι m w outs):=by
 intro o f;rcases vN T with⟨_,h⟩ | ⟨id,v,h⟩;cases h;obtain⟨L,h⟩:=jX h;obtain⟨q,j | j,h⟩:=CV h
 case inr=>
  obtain⟨r,D,b⟩:=u6 h;have v:G6 E ls env=.map id:=v;obtain⟨F,_⟩:=r9 s Q;obtain⟨H,z⟩:=r9 s B;obtain⟨I,g⟩:=r9 s R;have K:∃u,G6 d ls env=.str u∧∃c,outs=[⟨.undef,m.set id (.mapU c)⟩]∧((r=none∧c=q ++ [(.str u,G6 n ls env)])∨∃p,r=some p∧c=bY q (.str u) (G6 n ls env) p.1):=by
   cases r with
   | none=>have b:oh m id (G6 d ls env) (V8 q [(G6 d ls env,G6 n ls env)])=some outs:=b;rw [Eh j] at b;obtain⟨u,l,b⟩:=iC b;cases b;rw [l,Q9];exact⟨u,rfl,_,rfl,.inl ⟨rfl,rfl⟩⟩
   | some p=>obtain⟨U,_,b⟩:=u6 b;obtain⟨_,b⟩:=C8 b;rw [Eh j] at b;obtain⟨u,l,b⟩:=iC b;cases b;rw [l];exact⟨u,rfl,_,rfl,.inr ⟨p,rfl,rfl⟩⟩
  obtain⟨u,C,c,rfl,i⟩:=K;rw [C] at D;obtain⟨w',A,J⟩:=Au N O M (jJ L) j D g i;refine Aq (w':=w') ?_ J;rcases f with f | f<;>simp [execOp,f,F,H,I,v,C,l9,A]
  all_goals (simp only [l9] at A;simp [A])
 obtain⟨r,D,b⟩:=u6 h;have v:G6 E ls env=.map id:=v;obtain⟨F,_⟩:=r9 s Q;obtain⟨H,z⟩:=r9 s B;obtain⟨I,g⟩:=r9 s R;have b:Option.rec (one .undef (m.set id (.map (V8 q [(G6 d ls env,G6 n ls env)])))) (λp=>ob (pE p.1 q) λe=>
   bi (Nat.beq (len' e.1.cells) (Af kk)) (one .undef (m.set id (.map (bY q (G6 d ls env) (G6 n ls env) p.1)))) none) r=some outs:=by
  cases r with
  | none=>rw [← GR (k:=G6 d ls env) j];exact b
  | some p=>simp only [← GR (k:=G6 d ls env) j];exact b
 obtain⟨w',A,J⟩:=Cu N O M (jJ L) j D z g b;refine Aq (w':=w') ?_ J;rcases f with f | f<;>simp [execOp,f,F,H,I,v,l9,A]
theorem run_newObj (o:Obj)(w:World):(newObj o).run P w=.ok w.heap.size {w with heap:=w.heap.push o}:=by simp [newObj,Sem.run]
theorem LX (d:RM P G ι m w.heap)(mp:Option Nat)(since:Nat)(a:∀x,mp=some x->m.has x):
  aL P G ι m w [⟨.ptr m.nx 0,m.new (.iter mp since [])⟩] (.pointer (some ⟨w.heap.size,0,none⟩)) {w with heap:=w.heap.push (.mapIter (mp.map λx=>(ι x).b) since #[] since)}:=by
 have c:=Laid.new d.ok d.limn (.iter mp since []) rfl;refine⟨_,aA.2 rfl,ι.upd m.nx ⟨w.heap.size,0,0,none⟩,Step.lay (w':={w with heap:=w.heap.push (.mapIter (mp.map λx=>(ι x).b) since #[] since)}) d c (o:=.mapIter (mp.map λx=>(ι x).b) since #[] since) ⟨rfl,rfl,rfl,rfl⟩ rfl rfl ?_ (by intro _ _ _ h;cases h),c.self,by simp [l9,J5.at]⟩;refine⟨rfl,λx f=>c.has x (a x f),#[],since,?_,rfl,λ_=>rfl⟩;show (w.heap.push _)[w.heap.size]?=_;rw [dw];cases mp with
 | none=>rfl
 | some x=>simp [ι.upd_ne ⟨w.heap.size,0,0,none⟩ (λe=>c.free (e▸a x rfl):x≠m.nx)]
theorem LY (s:St P ι (m.nm ι) slots done ls env a.tmps)(d:RM P G ι m w.heap){t k e:TypeId}(l:P.underlying t=some (.map k e))
  {x:Operand} {c:O8} (f:K7 P slots done x=some c) {cf:D7} {outs:List VM} (q:nO (.range c) cf ls env m=some outs):
  ∀o:Oper,o.op=.range t x->Does P a.eval o w (aL P G ι m w outs):=by
 intro o j;obtain⟨g,n⟩:=r9 s f;rcases vN q with⟨b,h⟩ | ⟨id,b,h⟩;cases h;have b:G6 c ls env=.nilMap:=b;refine M9 (v:=.pointer (some ⟨w.heap.size,0,none⟩)) ?_ (LX d none 0 (by simp));simp [execOp,j,Instr.range,run_underlying l,g,b,l9];obtain⟨p,i,h⟩:=Ao h;cases h;have b:G6 c ls env=.map id:=b;obtain⟨r,u⟩:=Jv d i;rw [I5];refine M9 (v:=.pointer (some ⟨w.heap.size,0,none⟩)) ?_ (LX d (some id) p.length (by intro x f;cases f;exact⟨_,i,rfl⟩));simp [execOp,j,Instr.range,run_underlying l,g,b,l9,r]
theorem Jy (n:Nat):∀l:List Nat,rJ n l=l.contains n
 | []=>rfl
 | x::l=>by show bi (Nat.beq x n) true (rJ n l)=_;rw [Jy n l,uH,List.contains_cons];by_cases h:x=n;subst h;simp;rw [if_neg h,beq_eq_false_iff_ne.2 (λe=>h e.symm),ae5]
theorem xQ (m:Mem)(id mp since:Nat)(a:List Nat)(e:d9×d9)(es:List (d9×d9))(i:Nat):
  nexts m id mp since a (e::es) i=bi (rJ i a) (nexts m id mp since a es (i+1))
   (⟨.tuple [.bool true,e.1,e.2],m.set id (.iter (some mp) since (i::a))⟩::nexts m id mp since a es (i+1)):=rfl
theorem Av {m:Mem}{id mp since:Nat}{seen:List Nat}:∀{es:List (d9×d9)} {i j:Nat} {e:d9×d9},es[j]?=some e->seen.contains (i+j)=false->
  (⟨.tuple [.bool true,e.1,e.2],m.set id (.iter (some mp) since ((i+j)::seen))⟩:VM)∈nexts m id mp since seen es i
 | [],i,j,e,h,_=>by simp at h
 | x::es,i,0,e,h,hs=>by simp at h;subst h;rw [xQ,Jy,show seen.contains i=false from hs];exact acr
 | x::es,i,j+1,e,h,hs=>by
  rw [xQ];have:=Av (es:=es) (i:=i+1) (j:=j) (m:=m) (id:=id) (mp:=mp) (since:=since) (by simpa using h) (by rw [show i+1+j=i+(j+1) from by omega];exact hs);rw [show i+1+j=i+(j+1) from by omega] at this;cases rJ i seen with
  | true=>exact this
  | false=>exact Z5 _ this
theorem Ei {m:Mem}{id mp since:Nat}{seen:List Nat}:∀{es:List (d9×d9)} {i:Nat},(∀j,j<es.length->seen.contains (i+j)=true)->nexts m id mp since seen es i=[]
 | [],i,h=>rfl
 | e::es,i,h=>by rw [xQ,Jy,show seen.contains i=true from h 0 (by simp)];exact Ei λj hj=>by rw [show i+1+j=i+(j+1) from by omega];exact h (j+1) (by simpa using hj)
theorem Ej (n:Nat)(a:0<n)(w:World):∃k w',(choose (.mapNext n)).run P w=.ok k w'∧k<n∧(w'=w∨w'={w with drawn:=w.drawn+1}):=by rw [run_choose];by_cases h:n<=1;exact⟨0,w,by simp [Question.forced,h],a,.inl rfl⟩;exact⟨_,_,by simp only [Question.forced,h,decide_false,aa9,if_false];rfl,ahR _ a,.inr rfl⟩
theorem VF (u:RM P G ι m w.heap){id mp since:Nat}{seen:List Nat}{es:List (d9×d9)}(V:m.lim<=id)(q:m.get id=some (.iter (some mp) since seen))
  (D:m.get mp=some (.map es)) (J:es.length=since) (t:TypeId):
  ∃v w',(Instr.next (.pointer (some ⟨(ι id).b,0,none⟩)) false t).run P w=.ok v w'∧aL P G ι m w (Jc m (nexts m id mp since seen es 0)) v w':=by
 obtain⟨b1,b2,A,st,S,b4,b5⟩:=u.blk id _ q;obtain⟨c1,c2⟩:=u.blk mp _ D;have a1:st=since:=b5 (by simp);subst a1;subst J;have T:=fD (P:=P) S (by intro _ _ _ e;cases e);have U:=fD (P:=P) c1 (by intro _ _ _ e;cases e);generalize hL:I6 ι es 0=L at *;have a:∀x∈L,x.born<es.length:=by
  intro x p;obtain⟨j,g⟩:=aai p;rw [← hL,mg] at g;cases he:es[j]? with
  | none=>simp [he] at g
  | some e=>simp [he] at g;rw [← g];simpa using (Hl.1 he).1
 have B:(!A.isEmpty && !L.toArray.isEmpty&&L.toArray.all (λe=>decide (e.born≥es.length)))=false:=by
  cases L with
  | nil=>simp
  | cons x L=>have:=a x (by simp);simp;intro _ h;omega
 have O:∀l:List MapEntry,(∀x∈l,x∈L)->l.filter (λe=>decide (e.born<es.length))=l:=λl Y=>agv.2 λx p=>by simpa using a x (Y x p)
 have N:∀l:List MapEntry,(∀x∈l,x∈L)->l.filter (λe=>decide (e.born≥es.length))=[]:=λl Y=>agK.2 λx p=>by have:=a x (Y x p);simp;omega
 have n:=λx (p:x∈L.filter (λe=>!A.contains e.born))=>(ad2.1 p).1;simp only [Instr.next,Xb,T,J4,abe,U];rw [if_neg (by rw [B];simp)];simp only [List.filter_toArray,O _ n,N _ n];generalize hlf:L.filter (λe=>!A.contains e.born)=left at *;generalize hc:((if left.toArray.isEmpty=true then #[none] else #[])++Array.map some (left.toArray ++ [].toArray):Array (Option MapEntry))=cands;have c:cands=(if left=[] then #[none] else (left.map some).toArray):=by rw [← hc];cases left<;>simp
 have Q:0<cands.size:=by rw [c];split<;>simp_all;exact agz (by simp;assumption)
 obtain⟨k,w1,X,r,s⟩:=Ej (P:=P) cands.size Q w;simp only [Xb,X,J4];have f:w1.heap=w.heap:=by rcases s with rfl | rfl<;>rfl
 have z:w1.os=w.os∧w1.output=w.output∧w1.tape=w.tape:=by rcases s with rfl | rfl<;>exact⟨rfl,rfl,rfl⟩
 have F:∀x,x∈A.toList↔x∈seen:=λx=>by rw [← b4];simp
 by_cases hl0:left=[];rw [if_pos hl0] at c;have W:k=0:=by rw [c] at r;simpa using r
 rw [c,W];have y:nexts m id mp es.length seen es 0=[]:=Ei λj g=>by
  have p:(I6 ι es 0)[j]?=some {key:=l9 ι es[j].1,val:=l9 ι es[j].2,born:=0+j}:=by rw [mg];simp [g]
  have d:({key:=l9 ι es[j].1,val:=l9 ι es[j].2,born:=0+j}:MapEntry)∈L:=by rw [← hL];exact Xl p
  rw [hl0] at hlf;have:=agK.1 hlf _ d;simp at this ⊢;rw [← F];simpa using this
 refine⟨.tuple #[.bool false],w1,by simp,⟨.tuple [.bool false],m⟩,by rw [y];exact aA.2 rfl,ι,?_,by simp [d9.lt,aM],by simp [l9,o9]⟩;rcases s with rfl | rfl;exact Step.refl u;exact Step.drew u _;rw [if_neg hl0] at c;have H:k<left.length:=by rw [c] at r;simpa using r
 have E:cands[k]?=some (some left[k]):=by rw [c];simp [H]
 have d:left[k]∈L∧A.contains left[k].born=false:=by have:=ad2.1 (show left[k]∈L.filter (λe=>!A.contains e.born) from by rw [hlf];exact aa3 H);simpa using this
 generalize left[k]=x at *;obtain⟨j,g⟩:=aai d.1;rw [← hL,mg] at g;cases he:es[j]? with
 | none=>simp [he] at g
 | some e=>
  simp [he] at g;subst g;have M:seen.contains (0+j)=false:=by have h2:=d.2;rw [ab1] at h2 ⊢;intro C;apply h2;simp at C ⊢;have:=(F j).2 C;simpa using this
  have Z:(nexts m id mp es.length seen es 0)≠[]:=List.ne_nil_of_mem (Av he M);have a0:Jc m (nexts m id mp es.length seen es 0)=nexts m id mp es.length seen es 0:=by
   cases h:nexts m id mp es.length seen es 0 with
   | nil=>exact absurd h Z
   | cons=>rfl
  have R:=rY (P:=P) (w:=w1) (o:=.mapIter (some (ι mp).b) es.length (A.push j) es.length) (by rw [f];exact S) (by intro _ _ _ e;cases e);refine⟨.tuple #[.bool true,l9 ι e.1,l9 ι e.2],{w1 with heap:=w1.heap.setIfInBounds (ι id).b (.mapIter (some (ι mp).b) es.length (A.push j) es.length)},?_,_,by rw [a0];exact Av he M,ι,Step.set (w':={w1 with heap:=w1.heap.setIfInBounds (ι id).b (.mapIter (some (ι mp).b) es.length (A.push j) es.length)}) u V q rfl rfl (o:=.mapIter (some (ι mp).b) es.length (A.push j) es.length) ⟨by rw [f],z.1,z.2.1,z.2.2⟩ ?_ (by intro _ _ _ h;cases h),?_,?_⟩;rw [E];simp [R];refine⟨b1,λx p=>?_,A.push j,es.length,?_,?_,λ_=>rfl⟩;cases p;exact Mem.nC u.ok q rfl mp ⟨_,D,rfl⟩;simpa using gG S;simp [b4];have K:=c2 e (Xl he);have I:=Mem.V7 (ι:=ι) (ι':=ι) (λi hi=>Mem.nC (b':=.iter (some mp) es.length ((0+j)::seen)) u.ok q rfl i hi) λ_ _=>rfl;exact⟨trivial,d9.L6 I _ K.1,d9.L6 I _ K.2,trivial⟩;simp [l9,o9]
theorem Pj (s:St P ι (m.nm ι) slots done ls env a.tmps)(d:RM P G ι m w.heap)
  {x:Operand} {n:O8} (C:K7 P slots done x=some n) {cf:D7} {outs:List VM} (B:nO (.next n) cf ls env m=some outs):
  ∀o:Oper,o.op=.next x false->Does P a.eval o w (aL P G ι m w outs):=by
 intro o q;obtain⟨p,t⟩:=r9 s C;obtain⟨id,off,f,h⟩:=dW B;have f:G6 n ls env=.ptr id off:=f;obtain⟨A,h⟩:=C8 h;obtain rfl:off=0:=gI A;obtain⟨l,h⟩:=jX h;rcases Ea h with⟨sn',l',hit,h⟩ | ⟨mp,since,seen,hit,h⟩;cases h;obtain⟨g,D,H,I,r,E,F⟩:=d.blk id _ hit;have k:=fD (P:=P) r (by intro _ _ _ e;cases e);have c:a.eval x=.pointer (some ⟨(ι id).b,0,none⟩):=by rw [p,f];simp [l9,J5.at,g,d.spot _ _ hit rfl]
 refine M9 (v:=.tuple #[.bool false]) (w':=w) ?_ ⟨_,aA.2 rfl,ι,Step.refl d,by simp [d9.lt,aM],by simp [l9,o9]⟩;simp [execOp,q,c,Instr.next,k];obtain⟨u,j,h⟩:=Ao h;obtain⟨i,h⟩:=C8 h;have i:u.length=since:=by rw [← I5];exact gI i
 cases h;obtain⟨g,_⟩:=d.blk id _ hit;have c:a.eval x=.pointer (some ⟨(ι id).b,0,none⟩):=by rw [p,f];simp [l9,J5.at,g,d.spot _ _ hit rfl]
 obtain⟨v,w',y,z⟩:=VF d (jJ l) hit j i o.type;refine M9 (v:=v) (w':=w') ?_ z;simp [execOp,q,c,y]
end
section
variable {P:Program}{G:Mem}{ι:J5}{m:Mem}{w:World}{slots:List Nat}{done:List (Option Nat)}{ls:List d9}{env:T d9}{a:Act}
theorem oL (l:List UInt8):bytesOf l=l.map λb=>d9.int .u8 b.toNat:=by
 induction l with
 | nil=>rfl
 | cons b l ih=>simp [bytesOf,ih]
theorem uO {v:d9}{n:Nat}(h:lenOf v=some n)(w:World):(Builtin.lenOf (l9 ι v)).run P w=.ok n w:=by cases v<;>simp only [lenOf,J3,reduceCtorEq] at h<;>subst h<;>simp [l9,Builtin.lenOf,oG]
theorem iY (e:RM P G ι m w.heap){es n:Nat}{v:d9}{l:List d9}(h:eY m es n v=some l):
  (Builtin.firstCells es n (l9 ι v)).run P w=.ok (o9 ι l).toArray w∧aM (m.nm ι) l:=by
 cases v<;>simp only [eY,J3,reduceCtorEq] at h
 subst h;refine⟨?_,by rw [oL,bQ];intro v f;obtain⟨b,_,rfl⟩:=acY.1 f;simp [d9.lt]⟩;simp only [l9,Builtin.firstCells,Z7];congr 1;simp [oL,aU,l9,Function.comp_def,ByteArray.data_extract,agx];subst h;exact⟨by simp [l9,Builtin.firstCells,o9],trivial⟩;obtain⟨a,c,d⟩:=kg e h;exact⟨gX a d,c⟩;obtain⟨a,c,d⟩:=kg e h;exact⟨gX a d,c⟩
theorem Pk (s:St P ι (m.nm ι) slots done ls env a.tmps)(z:RM P G ι m w.heap){c:Call}{t u e:TypeId}{x y:Operand}{l p:O8}{es:Nat}(I:c.callee=.builtin .copy)
  (j:c.argTypes.toList=[t,u]) (g:c.args.toList=[x,y]) (L:P.underlying t=some (.slice e)) (q:aH P e=some es)
  (U:K7 P slots done x=some l) (V:K7 P slots done y=some p) {cf:D7} {outs:List VM} (D:nO (.copy es l p) cf ls env m=some outs):
  ∀o:Oper,o.op=.call c->Does P a.eval o w (aL P G ι m w outs):=by
 intro o K;have j:c.argTypes=#[t,u]:=by rw [← j,aag]
 have g:c.args=#[x,y]:=by rw [← g,aag]
 obtain⟨E,_⟩:=r9 s U;obtain⟨F,_⟩:=r9 s V;obtain⟨n,B,D⟩:=u6 D;have J:=uO (P:=P) (ι:=ι) B w;have H:∀id b d cap,l9 ι (G6 l ls env)=.slice (some (ι.at id b)) d cap->Vf.go es m n id b d (G6 p ls env)=some outs->Does P a.eval o w (aL P G ι m w outs):=by intro id b d cap f h;obtain⟨A,Q,h⟩:=u6 h;obtain⟨M,N⟩:=iY z Q;obtain⟨X,w',T,r,k⟩:=mX z h N;cases T;refine M9 (v:=.int .i64 (Nat.min n d)) (w':=w') ?_ ⟨_,aA.2 rfl,ι,k,trivial,rfl⟩;simp [execOp,K,resolve,I,g,j,invoke,builtin,Builtin.copy_,run_underlying L,E,F,f,J,run_sizeOf q,M,r,goInt]
 rcases rO D with⟨f,h⟩ | ⟨id,b,d,cap,f,h⟩ | ⟨id,b,d,cap,f,h⟩;cases h;have f:G6 l ls env=.nilSlice:=f;have S:∃C,(Builtin.firstCells es 0 (l9 ι (G6 p ls env))).run P w=.ok C w:=by
  have W:eY m es 0 (G6 p ls env)=some []:=by generalize G6 p ls env=v at B;have O:∀i b,U8 m i b 0=some []:=λi b=>rfl;cases v<;>simp only [lenOf,reduceCtorEq] at B<;>simp [eY,bytesOf,O]
  exact⟨_,(iY z W).1⟩
 obtain⟨C,R⟩:=S;refine M9 (v:=.int .i64 0) (w':=w) ?_ ⟨_,aA.2 rfl,ι,Step.refl z,trivial,rfl⟩;simp [execOp,K,resolve,I,g,j,invoke,builtin,Builtin.copy_,run_underlying L,E,F,f,J,run_sizeOf q,l9,goInt,R];have f:G6 l ls env=.slice id b d cap:=f;exact H id b d cap (by rw [f];rfl) h;have f:G6 l ls env=.sliceU id b d cap:=f;exact H id b d (((ι id).cap-b) / cap) (by rw [f];simp only [l9]) h
theorem zl (z:List d9)(k:Nat):Builtin.zeroCells (o9 ι z).toArray k=(o9 ι (R6 z k)).toArray:=by have:=Ed (ι:=ι) z k;rw [← this];simp [Builtin.zeroCells]
theorem LZ (s:St P ι (m.nm ι) slots done ls env a.tmps)(C:RM P G ι m w.heap){c:Call}{t e:TypeId}{x:Operand}{l:O8}{z:List d9}(p:c.callee=.builtin .clear)
  (j:c.argTypes.toList=[t]) (i:c.args.toList=[x]) (r:P.underlying t=some (.slice e)) (I:qG P e=some z)
  (H:K7 P slots done x=some l) {cf:D7} {outs:List VM} (F:nO (.clear z l) cf ls env m=some outs):
  ∀o:Oper,o.op=.call c->Does P a.eval o w (aL P G ι m w outs):=by
 intro o q;have j:c.argTypes=#[t]:=by rw [← j,aag]
 have i:c.args=#[x]:=by rw [← i,aag]
 obtain⟨n,_⟩:=r9 s H;obtain⟨J,u,y,A⟩:=cZ (P:=P) (w:=w) I ι;have B:∀id d b cap,l9 ι (G6 l ls env)=.slice (some (ι.at id d)) b cap->jE m id d (R6 z b) (λD=>one (.tuple []) D)=some outs->Does P a.eval o w (aL P G ι m w outs):=by
  intro id d b cap f h;obtain⟨D,w',E,g,k⟩:=mX C h (rW (A _) b);cases E;refine M9 (v:=.tuple #[]) (w':=w') ?_ ⟨_,aA.2 rfl,ι,k,by simp [d9.lt,aM],by simp [l9,o9]⟩;cases b with
  | zero=>
   rw [ze] at g;have:w'=w:=by simp [o9,storeCells] at g;exact g.symm
   subst this;simp [execOp,q,resolve,p,i,j,invoke,builtin,Builtin.clear_,run_underlying r,n,f]
  | succ b=>simp [execOp,q,resolve,p,i,j,invoke,builtin,Builtin.clear_,run_underlying r,n,f,u,y,zl,g]
 rcases rO F with⟨f,h⟩ | ⟨id,d,b,cap,f,h⟩ | ⟨id,d,b,cap,f,h⟩;cases h;have f:G6 l ls env=.nilSlice:=f;refine M9 (v:=.tuple #[]) (w':=w) ?_ ⟨_,aA.2 rfl,ι,Step.refl C,by simp [d9.lt,aM],by simp [l9,o9]⟩;simp [execOp,q,resolve,p,i,j,invoke,builtin,Builtin.clear_,run_underlying r,n,f,l9];have f:G6 l ls env=.slice id d b cap:=f;exact B id d b cap (by rw [f];rfl) h;have f:G6 l ls env=.sliceU id d b cap:=f;exact B id d b (((ι id).cap-d) / cap) (by rw [f];simp only [l9]) h
end
section
variable {P:Program}{G:Mem}{ι:J5}{m:Mem}{w:World}
theorem Step.abQ {G:Mem}(h:RM P G ι m w.heap){id:Nat}{b b':O6}(A:m.lim<=id)(E:m.get id=some b)(H:R8 b=true)(V:bV b'=false){o:Obj}{w':World}
  (C:Put w w' (ι id).b o) {l:Loc} (B:l.b=(ι id).b) (Q:l.spot=none)
  (I:dF P (ι.upd m.nx l) ((((m.set id .dead).new b')).nm (ι.upd m.nx l)) (w.heap.setIfInBounds (ι id).b o) l b')
  (W:∀c e fz,o=.cells c e fz->∀k,k<c.size->¬ (fz.1<=k∧k<fz.2)):
  Step P G ι m w (ι.upd m.nx l) ((m.set id .dead).new b') w':=by
 have L:=Mem.H9 h.ok E;have s:=Mem.U7 h.ok L .dead;have r:T.Ok (m.set id .dead).t (m.set id .dead).nx:=h.ok.put id .dead L;have g:∀i,((m.set id .dead).new b').get i=if i=m.nx then some b' else if i=id then some .dead else m.get i:=λi=>by rw [Mem.J8 r,s];rfl
 have F:∀i x,m.get i=some x->i≠m.nx:=λi x d e=>by have:=Mem.H9 h.ok d;omega
 have q:∀j,m.has j->ι.upd m.nx l j=ι j:=λj ⟨x,d,_⟩=>ι.upd_ne l (F j x d);have u:∀i,m.has i->((m.set id .dead).new b').has i:=λi ⟨x,d,hv⟩=>by by_cases he:i=id;exact⟨.dead,by rw [g,if_neg (F i x d),if_pos he],rfl⟩;exact⟨x,by rw [g,if_neg (F i x d),if_neg he];exact d,hv⟩
 have z:=h.own id b A E H;have J:(ι id).b<w.heap.size:=eD (h.blk id b E) H;have f:∀i x,((m.set id .dead).new b').get i=some x->R8 x=true->(i=m.nx∧x=b')∨(i≠m.nx∧i≠id∧m.get i=some x):=λi x d a=>by rw [g] at d;split at d;cases d;exact .inl ⟨by assumption,rfl⟩;split at d;cases d;cases a;exact .inr ⟨by assumption,by assumption,d⟩
 refine⟨⟨r.push b',?_,?_,h.glim,aib h.limn,h.gle,λi p=>by rw [g,if_neg (by have:=h.glim;have:=h.limn;omega),if_neg (by have:=h.glim;omega)];exact h.base i p,λi p=>u i (h.ghas i p),λi p=>by rw [q i (h.ghas i p)];exact h.glob i p,λi x d a=>by
   rcases f i x d a with⟨rfl,_⟩ | ⟨h1,_,h3⟩;rw [ι.V4];exact Q;rw [ι.upd_ne l h1];exact h.spot i x h3 a,h.Lx λD N R=>by
   rw [C.heap,getElem?_set_ne];intro e;exact R ⟨id,b,A,E,H,e⟩⟩,q,u,alb _,rfl,?_,by rw [C.heap];simp,?_,?_,C.os,C.out,C.tape⟩
 intro i x d;rw [g] at d;rw [C.heap];split at d;rename_i e;subst e;cases d;simpa using I;rename_i e;split at d;cases d;trivial;rename_i U;rw [ι.upd_ne l e];exact (h.blk i x d).mono (n:=m.nm ι) q (Mem.V7 u q) (λa=>getElem?_set_ne _ _ _ _ (λM=>z.alone i x U d a M.symm));intro i x p d a;have p:m.lim<=i:=p;rcases f i x d a with⟨rfl,rfl⟩ | ⟨h1,h2,h3⟩;refine⟨λj y O S v=>?_,λc e fz K=>?_⟩;rcases f j y S v with⟨h4,_⟩ | ⟨h4,h5,h6⟩;exact absurd h4 O;rw [ι.upd_ne l h4,ι.V4,B];exact z.alone j y h5 h6 v;rw [ι.V4,B,C.heap,Y5 J] at K;exact W c e fz (Y4 K);refine⟨λj y O S v=>?_,λc e fz K=>?_⟩;rw [ι.upd_ne l h1];rcases f j y S v with⟨rfl,_⟩ | ⟨h4,h5,h6⟩;rw [ι.V4,B];exact (h.own i x p h3 a).alone id b (λe=>h2 e.symm) E H;rw [ι.upd_ne l h4];exact (h.own i x p h3 a).alone j y O h6 v;rw [ι.upd_ne l h1,C.heap,getElem?_set_ne _ _ _ _ (λM=>z.alone i x h2 h3 a M.symm)] at K;exact (h.own i x p h3 a).free c e fz K;intro i p;rw [g,if_neg (by have:=h.limn;omega),if_neg (by omega)];intro D _ R;rw [C.heap,getElem?_set_ne];intro e;exact R ⟨id,b,A,E,H,e⟩;rintro D ⟨i,x,p,d,a,rfl⟩;rcases f i x d a with⟨rfl,rfl⟩ | ⟨h1,h2,h3⟩;rw [ι.V4,B];exact .inl ⟨id,b,A,E,H,rfl⟩;rw [ι.upd_ne l h1];exact .inl ⟨i,x,p,h3,a,rfl⟩
def Fits (P:Program)(ι:J5)(m:Mem)(es need:Nat)(cells:List d9)(b':O6):Prop:=
 bV b'=false∧∀(ι':J5) (n':Nm) (h':Array Obj) (l':Loc) (c':Array Value) (e:TypeId) (fz:Nat×Nat),(m.nm ι).le n'->(∀i,m.has i->ι' i=ι i)->
  h'[l'.b]?=some (.cells c' e fz)->l'.base+l'.cap<=c'.size->need*es<=l'.cap->(∀(j:Nat) (v:d9),cells[j]?=some v->c'[l'.base+j]?=some (l9 ι v))->dF P ι' n' h' l' b'
theorem vP {es need:Nat}{cells:List d9}{h:List (List d9)}(C:rowsOf es need cells=some h)(f:aM (m.nm ι) cells):Fits P ι m es need cells (.cells es need (T.ofList h)):=by
 refine⟨rfl,λD G E F t e u o c B b a k=>?_⟩;obtain⟨x,y,z⟩:=gY _ _ _ _ C;refine⟨t,e,u,B,b,⟨a,h.length,by omega,T.eB h,by rw [← y];exact uD (T.eB h)⟩,λi s=>?_⟩;obtain⟨p,w,q,r⟩:=z i s;refine⟨p,by rw [T.aC];exact w,q,bQ.2 λv g=>?_,λj d=>?_⟩;obtain⟨j,d⟩:=aai g;have l:j<es:=ae7 (Hl.1 d).1 q;rw [r j l] at d;exact d9.L6 o _ (N8 f (Xl d));rw [r j d];have A:i*es+j<cells.length:=by
  rw [x]
  calc i*es+j<i*es+es:=by omega
   _=(i+1)*es:=by rw [aco]
   _<=need*es:=aac _ s
 have g:=q9 A;rw [k _ _ g,g,abe,P8 (n:=m.nm ι) c _ (N8 f (Xl g))]
theorem SL (o:RM P G ι m w.heap){id es k:Nat}{rows:T (List d9)}(n:m.get id=some (.cells es k rows)):∀len,len<=k->
  ∃l:List d9,l.length=len*es∧aM (m.nm ι) l∧oI ι w id 0 l∧∀i,i<len->∃row,rows.get i=some row∧row.length=es∧∀j,j<es->l[i*es+j]?=row[j]?:=by
 intro len;induction len with
 | zero=>intro _;exact⟨[],by simp,trivial,λj v a=>by simp at a,λi u=>by omega⟩
 | succ len ih=>
  intro y;obtain⟨l,h,q,r,s⟩:=ih (by omega);obtain⟨c,e,C,_,_,_,t⟩:=o.blk id _ n;obtain⟨row,f,g,p,_⟩:=t len (by omega);refine⟨l++row,by simp [h,g,aco],bQ.2 λv a=>?_,λj v a=>?_,λi u=>?_⟩;rcases aae.1 a with a | a;exact N8 q a;exact N8 p a;by_cases d:j<l.length;rw [Z9 d] at a;exact r j v a;rw [aat (by omega)] at a;have x:=(Hl.1 a).1;have:=(Jt o n (i:=len) (by omega) (by omega:j-l.length<es) f a).1
  rwa [show len*es+(j-l.length)=0+j from by omega] at this
  by_cases hil:i<len;obtain⟨b,z,A,B⟩:=s i hil;refine⟨b,z,A,λj d=>?_⟩;have:i*es+j<l.length:=by
   rw [h]
   calc i*es+j<i*es+es:=by omega
    _=(i+1)*es:=by rw [aco]
    _<=len*es:=aac _ hil
  rw [Z9 this];exact B j d;obtain rfl:i=len:=by omega
  refine⟨row,f,g,λj d=>?_⟩;rw [aat (by omega)];congr 1;omega
theorem VG (K:RM P G ι m w.heap){id es k len:Nat}{rows:T (List d9)}(I:m.get id=some (.cells es k rows))(y:len<=k)(z:0<len){l new:List d9}(J:l.length=len*es)
  (p:∀i,i<len->∃row,rows.get i=some row∧row.length=es∧∀j,j<es->l[i*es+j]?=row[j]?) (x:new.length=es) (t:aM (m.nm ι) l) (g:aM (m.nm ι) new):
  Fits P ι m es (len+1) (l++new) (.cells es (len+1) (rows.put len new)):=by
 obtain⟨_,_,_,_,_,⟨_,N,R,c,_⟩,_⟩:=K.blk id _ I;refine⟨rfl,λO V Q U C e D s f H r o q=>⟨C,e,D,H,r,⟨o,?_⟩,λi S=>?_⟩⟩;rcases aef len N with h | h;exact⟨N,by omega,c.put _ _ h,λM E=>by omega⟩;obtain rfl:len=N:=by omega
 exact⟨len+1,J2 _,c.push _,λM E=>by omega⟩;by_cases hil:i=len;subst hil;refine⟨new,T.aT c _ _ (by omega),x,dD s _ g,λj a=>?_⟩;have d:new[j]?=some new[j]:=q9 (by omega);have:(l++new)[i*es+j]?=some new[j]:=by rw [aat (by omega),← d];congr 1;omega
 rw [q _ _ this,d,abe,P8 (n:=m.nm ι) f _ (N8 g (Xl d))];obtain⟨row,L,A,B⟩:=p i (by omega);have b:∀j,j<es->i*es+j<l.length:=λj a=>by
  rw [J]
  calc i*es+j<i*es+es:=by omega
   _=(i+1)*es:=by rw [aco]
   _<=len*es:=aac _ (by omega)
 refine⟨row,by rw [T.bA c _ _ _ (by omega) (λe=>hil e.symm)];exact L,A,bQ.2 λv d=>?_,λj a=>?_⟩;obtain⟨j,a⟩:=aai d;have u:j<es:=ae7 (Hl.1 a).1 A;rw [← B j u] at a;exact d9.L6 s _ (N8 t (Xl a));have d:l[i*es+j]?=some (l[i*es+j]'(b j a)):=q9 (b j a);have F:(l++new)[i*es+j]?=some (l[i*es+j]'(b j a)):=by rw [Z9 (b j a)];exact d
 rw [q _ _ F,← B j a,d,abe,P8 (n:=m.nm ι) f _ (N8 t (Xl d))]
end
section
variable {P:Program}{G:Mem}{ι:J5}{m:Mem}{w:World}{a:Act}
theorem GU (need:Nat):∀(r c:Nat),Builtin.growBy need r c<=max c (need+(need+768) / 4)
 | 0,c=>by simp only [Builtin.growBy];omega
 | r+1,c=>by simp only [Builtin.growBy];split;omega;have:=GU need r (c+(c+768) / 4);omega
theorem nextslicecap_le (need old:Nat)(h:old<need):Builtin.nextslicecap need old<=2*need+2048:=by unfold Builtin.nextslicecap;split;omega;split;omega;have:=GU need 4 old;omega
def El:TypeDesc->Bool
 | .int _=>true
 | _=>false
def ade (P:Program)(w:World)(zs:Bool)(by' n:Nat)(x:Value):Prop:=
 (zs=false∧(Builtin.lenOf x).run P w=.ok n w)∨(zs=true∧(∃k,x=.int k n)∧n<9223372036854775808∧n*by'<=281474976710656)
def ku (zs:Bool)(e:TypeId)(es sLen sCap:Nat)(base:Option Addr)(x:Value)(n:Nat):Sem Value:=do
 let appended:Sem (Array Value):=
  if !zs then Builtin.firstCells es n x
  else if n*es=0 then pure #[]
  else do pure (Builtin.zeroCells (← zeroValue e).cells n)
 let need:=sLen+n
 if need<=sCap then
  let new ← appended
  if let some a:=base then storeCells (a.add (sLen*es)) new.toList
  pure (.slice base need sCap)
 else
  if (need:Int)>IntKind.i64.max∧(zs∨(← typeInfo e).bytes=0) then runtimePanic (.error "growslice: len out of range")
  if Builtin.nextslicecap need sCap*(← typeInfo e).bytes>2^48 then (if zs then runtimePanic (.error "growslice: len out of range") else do
   if !(← Builtin.mayShare es sLen n base x) then mark .noRoom
   unsupported (.resourceLimit "append: a slice or a string whose bytes no memory bears"))
  let newCap ← choose (.appendCap need sCap e)
  askRoom (newCap*(← typeInfo e).bytes)
  let old ← Builtin.firstCells es sLen (.slice base sLen sCap)
  let new ← appended
  let rest:=Builtin.zeroCells (← zeroValue e).cells (newCap-need)
  pure (.slice (some (← newRow e (old++new++rest))) need newCap)
theorem BI {t u e T:TypeId}{d:TypeDesc}{es a n sLen sCap:Nat}{base:Option Addr}{x:Value}(o:P.underlying t=some (.slice e))(c:aH P e=some es)(m:P.underlying u=some d)
  (i:fK P e=some a) (p:ade P w (El d) a n x):
  (Builtin.append_ #[t,u] T #[.slice base sLen sCap,x]).run P w=(ku (El d) e es sLen sCap base x n).run P w:=by
 obtain⟨g,j,l⟩:=vM (w:=w) i;rcases p with⟨hz,h1⟩ | ⟨hz,⟨k,rfl⟩,h2,h3⟩;cases d with
 | int=>cases hz
 | _=>simp only [Builtin.append_,acN,agD,ach,Xb,run_underlying o,J4,run_sizeOf c,run_underlying m,Z7,aa9,if_false,h1,ku,El];rfl
 cases d with
 | int k'=>
  have q:IntKind.i64.wrap (n:Int)=n:=yR _ ⟨by omega,by omega⟩;have b:¬ ((n:Int)*(g.bytes:Int)>2^48):=by
   rw [l];have:((n*a:Nat):Int)=(n:Int)*(a:Int):=by simp
   rw [← this];have h:(2:Int)^48=281474976710656:=rfl;rw [h];omega
  have f:¬ ((n:Int)<0):=by omega
  simp only [Builtin.append_,acN,agD,ach,Xb,run_underlying o,J4,run_sizeOf c,run_underlying m,Z7,if_true,asInt,asIntOf,q,f,if_false,j,b,aic,ku,El];rfl
 | _=>cases hz
theorem kC {zs:Bool}{e:TypeId}{es sLen sCap n:Nat}{base:Option Addr}{x:Value}{new:List Value}{w':World}(b:sLen+n<=sCap)
  (c:(if (!zs)=true then Builtin.firstCells es n x else if n*es=0 then pure #[] else do pure (Builtin.zeroCells (← zeroValue e).cells n):Sem (Array Value)).run P w=.ok new.toArray w)
  (a:match base with | some ad=>(storeCells (ad.add (sLen*es)) new 0).run P w=.ok () w' | none=>w'=w):
  (ku zs e es sLen sCap base x n).run P w=.ok (.slice base (sLen+n) sCap) w':=by
 unfold ku;simp only [b,if_true];rw [Xb,c,J4];cases base with
 | none=>subst a;simp
 | some ad=>simp only [] at a;simp [a]
theorem kD {zs:Bool}{e:TypeId}{es by' sLen sCap n:Nat}{base:Option Addr}{x:Value}{z:List d9}{old new:List Value}(i:fK P e=some by')(G:qG P e=some z)
  (f:¬ sLen+n<=sCap) (A:(2*(sLen+n)+2048)*by'<=281474976710656) (j:1<=by')
  (m:∀w':World,w'.heap=w.heap->(Builtin.firstCells es sLen (.slice base sLen sCap)).run P w'=.ok old.toArray w')
  (l:∀w':World,w'.heap=w.heap->(if (!zs)=true then Builtin.firstCells es n x else if n*es=0 then pure #[] else do pure (Builtin.zeroCells (← zeroValue e).cells n):Sem (Array Value)).run P w'=.ok new.toArray w'):
  ∃(capN:Nat) (rest:List Value),sLen+n<=capN∧rest.length=(capN-(sLen+n))*z.length∧
   (ku zs e es sLen sCap base x n).run P w=.ok (.slice (some ⟨w.heap.size,0,none⟩) (sLen+n) capN)
    {w with heap:=w.heap.push (.cells (old++new++rest).toArray e),drawn:=w.drawn+1}:=by
 obtain⟨g,s,t⟩:=vM (w:=w) i;have F:(2*(sLen+n)+2048)*1<=(2*(sLen+n)+2048)*by':=Nat.mul_le_mul_left _ j;have h:=nextslicecap_le (sLen+n) sCap (by omega);have B:Builtin.nextslicecap (sLen+n) sCap*by'<=(2*(sLen+n)+2048)*by':=aac _ h;have C:¬ (((sLen+n:Nat):Int)>IntKind.i64.max):=by have:IntKind.i64.max=9223372036854775807:=rfl;rw [this];omega
 have D:¬ (Builtin.nextslicecap (sLen+n) sCap*g.bytes>2^48):=by rw [t];have o:(2:Nat)^48=281474976710656:=rfl;rw [o];omega
 obtain⟨H,u,v,_⟩:=cZ (P:=P) (w:={w with drawn:=w.drawn+1}) G (λ_=>⟨0,0,0,none⟩);refine⟨sLen+n+w.tape w.drawn (.appendCap (sLen+n) sCap e)%(2^63-(sLen+n)),(Builtin.zeroCells H.cells (sLen+n+w.tape w.drawn (.appendCap (sLen+n) sCap e)%(2^63-(sLen+n))-(sLen+n))).toList,by omega,?_,?_⟩;simp [Builtin.zeroCells,v];unfold ku;simp only [f,if_false];have k:∀w',(typeInfo e).run P w'=.ok g w':=by
  intro w';obtain⟨I,y,_⟩:=vM (w:=w') i;have E:∀c d:World,∀a b,(typeInfo e).run P c=.ok a c->(typeInfo e).run P d=.ok b d->a=b:=by intro c d a b p q;unfold typeInfo at p q;simp only [Xb,run_program,J4] at p q;split at p<;>split at q<;>simp_all
  rw [y,E w' w _ _ y s]
 have r:∀w':World,(choose (.appendCap (sLen+n) sCap e)).run P w'=.ok (sLen+n+w'.tape w'.drawn (.appendCap (sLen+n) sCap e)%(2^63-(sLen+n))) {w' with drawn:=w'.drawn+1}:=by intro w';rw [run_choose];simp [Question.forced,Question.cut]
 simp only [Xb,k,J4,C,D,false_and,if_false,Z7,r,run_askRoom,m {w with drawn:=w.drawn+1} rfl,l {w with drawn:=w.drawn+1} rfl,u,dM];simp only [ajs,← List.append_toArray,aag]
theorem Em (l:RM P G ι m w.heap){es need capN:Nat}{cells:List d9}{b':O6}(f:Fits P ι m es need cells b'){c:Array Value}{e:TypeId}{w':World}
  (p:Vw w w' (.cells c e)) (n:c.size=capN*es) (d:need<=capN) (g:∀(j:Nat) (v:d9),cells[j]?=some v->c[j]?=some (l9 ι v)):
  Step P G ι m w (ι.upd m.nx ⟨w.heap.size,0,capN*es,none⟩) (m.new b') w':=by
 obtain⟨o,f⟩:=f;have a:=Laid.new l.ok l.limn b' o;have b:∀j,m.has j->(ι.upd m.nx ⟨w.heap.size,0,capN*es,none⟩) j=ι j:=λj i=>ι.upd_ne _ λh=>a.free (h▸i);refine Step.lay l a p rfl rfl ?_ ?_;refine f _ _ _ _ c e _ (Mem.V7 a.has b) b dw ?_ ?_ λj v i=>?_;show 0+capN*es<=c.size;omega;exact aac _ d;rw [aad];exact g j v i;intro q r s h k t;cases h;simp
theorem Fits.kill (o:RM P G ι m w.heap){es need q:Nat}{cells:List d9}{b' g:O6}(d:Fits P ι m es need cells b')(p:m.lim<=q)(l:m.get q=some g):Fits P ι (m.set q .dead) es need cells b':=by have f:=Step.kill o p l;refine⟨d.1,λc s k r h e j b a=>d.2 c s k r h e j (Nm.le_trans (Mem.V7 f.has λ_ _=>rfl) b) λi n=>a i (f.has i n)⟩
theorem SN (f:RM P G ι m w.heap){es need capN q:Nat}{cells:List d9}{b' i:O6}(k:Fits P ι m es need cells b')(g:m.lim<=q)(d:m.get q=some i){c:Array Value}{e:TypeId}{w':World}
  (l:Vw w w' (.cells c e)) (h:c.size=capN*es) (a:need<=capN) (b:∀(j:Nat) (v:d9),cells[j]?=some v->c[j]?=some (l9 ι v)):
  Step P G ι m w (ι.upd m.nx ⟨w.heap.size,0,capN*es,none⟩) ((m.set q .dead).new b') w':=
 (Step.kill f g d).trans (Em (Step.kill f g d).rm (Fits.kill f k g d) l h a b)
theorem Zk (A:RM P G ι m w.heap){q rs k:Nat}{rows:T (List d9)}(K:m.lim<=q)(H:m.get q=some (.cells rs k rows)){c:Array Value}{e:TypeId}{f:Nat×Nat}(F:w.heap[(ι q).b]?=some (.cells c e f))
  {B C len n es:Nat} {old new:List d9} {b':O6} (D:B+C<=c.size) (g:(len+n)*es<=C) (Q:old.length=len*es) (O:new.length=n*es) (s:K5 new=true)
  (r:∀(j:Nat) (v:d9),old[j]?=some v->c[B+j]?=some (l9 ι v)) (E:Fits P ι m es (len+n) (old++new) b'):
  ∃w',(storeCells ⟨(ι q).b,B+len*es,none⟩ (o9 ι new) 0).run P w=.ok () w'∧
   Step P G ι m w (ι.upd m.nx ⟨(ι q).b,B,C,none⟩) ((m.set q .dead).new b') w':=by
 have t:=A.own q _ K H rfl;have l:=t.free c e f F;have L:(len+n)*es=len*es+n*es:=acG _ _ _;have x:=oK (P:=P) (o9 ι new) c (B+len*es) 0 w F (by simp;omega) l (λv z=>by
  rw [aU] at z;obtain⟨u,R,rfl⟩:=acY.1 z;exact Ar (qc s u R))
 refine⟨_,x,?_⟩;obtain⟨z,E⟩:=E;have I:=Step.kill A K H;have d:=Laid.new I.rm.ok I.rm.limn b' z;have a:∀j,m.has j->(ι.upd m.nx ⟨(ι q).b,B,C,none⟩) j=ι j:=λj ⟨y,hy,_⟩=>ι.upd_ne _ λh=>by have:=Mem.H9 A.ok hy;omega
 refine Step.abQ (o:=.cells (over c (B+len*es+0) (o9 ι new)) e f) (w':={w with heap:=w.heap.setIfInBounds (ι q).b (.cells (over c (B+len*es+0) (o9 ι new)) e f)}) A K H rfl z ⟨rfl,rfl,rfl,rfl⟩ rfl rfl ?_ ?_;refine E _ _ _ _ _ e f (Mem.V7 (λi N=>d.has i (I.has i N)) a) a (gG F) ?_ g λj v p=>?_;simpa using D;show (over c (B+len*es+0) (o9 ι new))[B+j]?=some (l9 ι v);rw [zh _ _ _ (by simp;omega)];by_cases h1:j<old.length;rw [Z9 h1] at p;rw [if_pos (by omega)];exact r j v p;rw [aat (by omega)] at p;have W:=(Hl.1 p).1;rw [if_neg (by omega),if_pos (by simp;omega),aG,show B+j-(B+len*es+0)=j-old.length from by omega,p];rfl;intro U V M h S J;cases h;exact l S (by simpa using J)
theorem nT {w':World}{l:Loc}{m':Mem}(d:l.spot=none)(f:Step P G ι m w (ι.upd m.nx l) m' w')(g:m'.has m.nx){es need:Nat}(c:1<=es)(e:need*es<=l.cap){cap:Nat}(a:cap=l.cap / es):
  aL P G ι m w [⟨.sliceU m.nx 0 need es,m'⟩] (.slice (some ⟨l.b,l.base,none⟩) need cap) w':=by
 refine⟨_,aA.2 rfl,_,f,⟨g,c,?_⟩,?_⟩;show 0+need*es<=((ι.upd m.nx l) m.nx).cap;rw [J5.V4];omega;simp [l9,J5.at,a,d]
theorem Jz (h:T.Ok m.t m.nx){b:O6}(hb:bV b=false):(m.new b).has m.nx:=⟨b,by rw [Mem.J8 h,if_pos rfl],hb⟩
theorem uP {n bytes es:Nat}(h:big n bytes es=true):(2*n+2048)*bytes<=281474976710656∧1<=es∧1<=bytes:=by
 unfold big at h;cases h1:Nat.ble (Nat.mul (Nat.add (Nat.mul 2 n) 2048) bytes) 281474976710656 with
 | false=>rw [h1] at h;cases h
 | true=>
  rw [h1] at h;cases h2:Nat.ble 1 es with
  | false=>rw [h2] at h;cases h
  | true=>rw [h2] at h;exact⟨Xd h1,Xd h2,Xd h⟩
theorem VH {β:Type}{b:Option O6}{c:Nat->Nat->T (List d9)->Option β}{k:Nat->Option β}{r:β}(h:Gy b c k=some r):
  (∃rs n rows,b=some (.cells rs n rows)∧c rs n rows=some r)∨∃p,b=some (.tail p)∧k p=some r:=by
 unfold Gy at h;split at h;exact .inl ⟨_,_,_,rfl,h⟩;exact .inr ⟨_,rfl,h⟩;cases h
theorem zm {es n:Nat}{cells:List d9}{outs:List VM}(h:grown m es n cells=some outs):∃rl,rowsOf es n cells=some rl∧outs=[⟨.sliceU m.nx 0 n es,m.new (.cells es n (T.ofList rl))⟩]:=by obtain⟨rl,a,h⟩:=u6 h;cases h;exact⟨rl,a,rfl⟩
theorem Ma {α:Type}{b:Bool}{x y:Option α}{r:α}(h:bi b x y=some r):(b=true∧x=some r)∨(b=false∧y=some r):=by
 cases b with
 | true=>exact .inl ⟨rfl,h⟩
 | false=>exact .inr ⟨rfl,h⟩
theorem GV {a b:Nat}(h:Nat.ble a b=false):¬ a<=b:=λc=>by rw [Y3 c] at h;cases h
end
section
variable {P:Program}{G:Mem}{ι:J5}{m:Mem}{w:World}{slots:List Nat}{done:List (Option Nat)}{ls:List d9}{env:T d9}{a:Act}
theorem QU (f:RM P G ι m w.heap){id rs k:Nat}{rows:T (List d9)}(d:m.get id=some (.cells rs k rows)):∃c e fz,w.heap[(ι id).b]?=some (.cells c e fz)∧(ι id).base+(ι id).cap<=c.size∧
  ∀j v,w.cell? (ι.at id j)=some v->c[(ι id).base+j]?=some v:=by
 obtain⟨c,e,fz,a,g,_⟩:=f.blk id _ d;refine⟨c,e,fz,a,g,λj v h=>?_⟩;simpa [World.cell?,J5.at,a,f.spot id _ d rfl] using h
theorem Mc (o:RM P G ι m w.heap){e:TypeId}{es E n:Nat}{z:List d9}(hz:Co P e=some z)(ad:aH P e=some es)(U:fK P e=some E)
  {zs:Bool} {x:Value} {new:List d9} (i:aM (m.nm ι) new) (a2:n=0->new=[])
  (g:∀w':World,w'.heap=w.heap->(if (!zs)=true then Builtin.firstCells es n x else if n*es=0 then pure #[] else do pure (Builtin.zeroCells (← zeroValue e).cells n):Sem (Array Value)).run P w'=.ok (o9 ι new).toArray w')
  {sv:d9} (a9:sv.lt (m.nm ι)) {outs:List VM} (h:Bp m es E n new sv=some outs):
  ∃base sLen sCap v w',l9 ι sv=.slice base sLen sCap∧(ku zs e es sLen sCap base x n).run P w=.ok v w'∧aL P G ι m w outs v w':=by
 obtain⟨Z,aa⟩:=nR hz;obtain rfl:es=z.length:=by rw [ad] at aa;exact Y4 aa
 rcases rO h with⟨rfl,h⟩ | ⟨id,off,len,cap,rfl,h⟩ | ⟨id,off,len,es',rfl,h⟩
 ·
  refine⟨none,0,0,?_⟩;cases n with
  | zero=>have h:one .nilSlice m=some outs:=h;cases h;obtain rfl:=a2 rfl;exact⟨.slice none 0 0,w,rfl,kC (J2 0) (g w rfl) rfl,_,aA.2 rfl,ι,Step.refl o,trivial,rfl⟩
  | succ n=>
   have h:bi (big (n+1) E z.length) (grown m z.length (n+1) new) none=some outs:=h;obtain⟨L,h⟩:=C8 h;obtain⟨b1,D,b3⟩:=uP L;obtain⟨rl,I,rfl⟩:=zm h;obtain⟨capN,f,r1,r2,r3⟩:=kD (P:=P) (w:=w) (zs:=zs) (e:=e) (es:=z.length) (sLen:=0) (sCap:=0) (base:=none) (x:=x) (n:=n+1) (old:=[]) U Z (by omega) (by simpa using b1) b3
    (λw' _=>by simp [Builtin.firstCells]) g
   have d:=(gY _ _ _ _ I).1;have s:=Em o (vP I i) (c:=([]++o9 ι new++f).toArray) (e:=e) (w':={w with heap:=w.heap.push (.cells ([]++o9 ι new++f).toArray e),drawn:=w.drawn+1}) ⟨rfl,rfl,rfl,rfl⟩ (capN:=capN)
    (by simp only [ad5,Z8,ac2,U0,d,r2,aad];rw [← acG];congr 1;omega) (by omega)
    (λj v t=>by
     have y:=(Hl.1 t).1;simp only [adW,acN];rw [Z9 (by simpa using y),aG,t];rfl)
   refine⟨_,_,rfl,r3,?_⟩;have:=nT rfl s (Jz o.ok rfl) D (need:=n+1) (aac _ (by omega)) (cap:=capN) (by show capN=capN*z.length / z.length;rw [ae6 _ D]);simpa using this
 ·
  refine⟨some (ι.at id off),len,cap,?_⟩;have h:bi (Nat.ble (len+n) cap) (jE m id (off+len*z.length) new λm'=>one (.slice id off (len+n) cap) m')
   (bi (big (len+n) E z.length) (ob (U8 m id off (len*z.length)) λold=>grown m z.length (len+n) (V8 old new)) none)=some outs:=h
  rcases Ma h with⟨hf,h⟩ | ⟨hf,h⟩;obtain⟨m',w',hk,a6,s⟩:=mX o h i;cases hk;exact⟨_,w',rfl,kC (Xd hf) (g w rfl) (by simp only [J5.oF];exact a6),_,aA.2 rfl,ι,s,s.has id a9,by simp [l9]⟩;obtain⟨L,h⟩:=C8 h;obtain⟨b1,D,b3⟩:=uP L;obtain⟨old,ho,h⟩:=u6 h;rw [Q9] at h;obtain⟨rl,I,rfl⟩:=zm h;obtain⟨o1,o2,o3⟩:=kg o ho;obtain⟨capN,f,r1,r2,r3⟩:=kD (P:=P) (w:=w) (zs:=zs) (e:=e) (es:=z.length) (sLen:=len) (sCap:=cap) (base:=some (ι.at id off)) (x:=x) (n:=n) (old:=o9 ι old) U Z (GV hf) b1 b3
   (λw' hw=>gX o1 (λj v t=>by have:=o3 j v t;simpa [World.cell?,hw] using this)) g
  have W:aM (m.nm ι) (old++new):=bQ.2 λv hv=>(aae.1 hv).elim (N8 o2) (N8 i);have d:=(gY _ _ _ _ I).1;have s:=Em o (vP I W) (c:=(o9 ι old++o9 ι new++f).toArray) (e:=e) (w':={w with heap:=w.heap.push (.cells (o9 ι old++o9 ι new++f).toArray e),drawn:=w.drawn+1}) ⟨rfl,rfl,rfl,rfl⟩ (capN:=capN)
   (by
    rw [Z8] at d;simp only [ad5,Z8,U0,d,r2];rw [← acG];congr 1;omega) (by omega)
   (λj v t=>by
    have y:=(Hl.1 t).1;rw [Z8] at y;rw [acN,Z9 (by simpa using y),aU,aU,← abK,aaj,t];rfl)
  refine⟨_,_,rfl,r3,?_⟩;exact nT rfl s (Jz o.ok rfl) D (need:=len+n) (aac _ (by omega)) (cap:=capN) (by show capN=capN*z.length / z.length;rw [ae6 _ D])
 ·
  obtain⟨ah,a7,Y⟩:=a9;have Y:off+len*es'<=(ι id).cap:=Y;have M:len<=((ι id).cap-off) / es':=(adV a7).2 (by omega);refine⟨some (ι.at id off),len,((ι id).cap-off) / es',?_⟩;cases n with
  | zero=>have h:one (.sliceU id off len es') m=some outs:=h;cases h;obtain rfl:=a2 rfl;refine⟨_,w,rfl,kC (w':=w) M (g w rfl) (by simp [o9,storeCells]),_,aA.2 rfl,ι,Step.refl o,⟨ah,a7,Y⟩,by simp [l9]⟩
  | succ n=>
   have h:bi (Nat.beq z.length es') (bi (big (len+(n+1)) E z.length) (bi (Nat.ble m.lim id) (bi (K5 new)
    (Gy (m.get id)
     (λJ k a=>
      bi (bi (Nat.beq J z.length) (bi (Nat.beq off 0) (bi (Nat.ble len k) (bi (Nat.beq (n+1) 1) (bi (Nat.beq (len' new) z.length) (Nat.blt 0 len) false) false) false) false) false)
       (one (.sliceU m.nx 0 (Nat.succ len) z.length) ((m.set id .dead).new (.cells z.length (Nat.succ len) (a.put len new))))
       (ob (Q7 J k a (len*z.length) off) λold=>grown (m.set id .dead) z.length (len+(n+1)) (V8 old new)))
     (λp=>Q6 (m.get p) λ_ _ _=>bi (Nat.ble m.lim p) (bi (Nat.beq len 0) (grown (m.set p .dead) z.length (n+1) new) none) none)) none) none) none) none=some outs:=h
   obtain⟨q1,k1⟩:=C8 h;clear h;obtain rfl:=gI q1;obtain⟨q2,k2⟩:=C8 k1;obtain⟨b1,D,b3⟩:=uP q2;obtain⟨q3,k3⟩:=C8 k2;have Q:m.lim<=id:=Xd q3;obtain⟨a5,h⟩:=C8 k3;clear k1 k2 k3;have F:∀(q J k:Nat) (a:T (List d9)),m.lim<=q->m.get q=some (.cells J k a)->∀(B C:Nat) (old:List d9) (b':O6),C=(ι id).cap-off->
     ((ι id).b=(ι q).b∨C=0)->B=(ι id).base+off->(C≠0->B+C<=(ι q).base+(ι q).cap)->(C≠0->(ι id).spot=none)->old.length=len*z.length->new.length=(n+1)*z.length->aM (m.nm ι) old->oI ι w id off old->
     Fits P ι m z.length (len+(n+1)) (old++new) b'->outs=[⟨.sliceU m.nx 0 (len+(n+1)) z.length,(m.set q .dead).new b'⟩]->
     ∃v w',l9 ι (.sliceU id off len z.length)=.slice (some (ι.at id off)) len (((ι id).cap-off) / z.length)∧
      (ku zs e z.length len (((ι id).cap-off) / z.length) (some (ι.at id off)) x (n+1)).run P w=.ok v w'∧aL P G ι m w outs v w':=by
    intro q J k a hq u B C old b' hC L hB ac a8 X N ai a3 hF r;subst r;have a4:=(Step.kill o hq u).rm;have O:((m.set q .dead).new b').has m.nx:=Jz (m:=m.set q .dead) a4.ok hF.1;by_cases hfit:len+(n+1)<=((ι id).cap-off) / z.length;have H:(len+(n+1))*z.length<=C:=(by rw [hC];exact (adV D).1 hfit);have R:C≠0:=by have:1*1<=(len+(n+1))*z.length:=alh (by omega) D;omega
    have L:=L.resolve_right R;have A:=a8 R;obtain⟨c,a0,fz,c1,c2,c3⟩:=QU o u;obtain⟨w',g1,g2⟩:=Zk o hq u c1 (B:=B) (C:=C) (len:=len) (n:=n+1) (es:=z.length) (old:=old) (new:=new) (b':=b') (by have:=ac R;omega) H X N a5
     (λj v t=>by
      have:=a3 j v t;simp only [World.cell?,J5.at,L,c1,A] at this;rw [hB,aeo];simpa using this) hF
    refine⟨_,w',by simp [l9],kC hfit (g w rfl) (by
     have:(ι.at id off).add (len*z.length)=⟨(ι q).b,B+len*z.length,none⟩:=(by simp [J5.at,Addr.add,L,hB,A]);simp only [this];exact g1),?_⟩
    have:=nT rfl g2 O D (need:=len+(n+1)) H (cap:=((ι id).cap-off) / z.length) (by show _=C / z.length;rw [hC]);have S:ι.at id off=⟨(ι q).b,B,none⟩:=(by simp [J5.at,L,hB,A]);rw [S];exact this;obtain⟨capN,f,r1,r2,r3⟩:=kD (P:=P) (w:=w) (zs:=zs) (e:=e) (es:=z.length) (sLen:=len) (sCap:=((ι id).cap-off) / z.length) (base:=some (ι.at id off)) (x:=x) (n:=n+1) (old:=o9 ι old) U Z hfit b1 b3
     (λw' hw=>gX X (λj v t=>by have:=a3 j v t;simpa [World.cell?,hw] using this)) g
    have s:=SN o hF hq u (c:=(o9 ι old++o9 ι new++f).toArray) (e:=e) (w':={w with heap:=w.heap.push (.cells (o9 ι old++o9 ι new++f).toArray e),drawn:=w.drawn+1}) ⟨rfl,rfl,rfl,rfl⟩ (capN:=capN)
     (by
      simp only [ad5,Z8,U0,X,N,r2];rw [← acG,← acG];congr 1;omega) (by omega)
     (λj v t=>by
      have y:=(Hl.1 t).1;rw [Z8] at y;rw [acN,Z9 (by simpa using y),aU,aU,← abK,aaj,t];rfl)
    refine⟨_,_,by simp [l9],r3,?_⟩;exact nT rfl s O D (need:=len+(n+1)) (aac _ (by omega)) (cap:=capN) (by show capN=capN*z.length / z.length;rw [ae6 _ D])
   rcases VH h with⟨J,k,a,u,h⟩ | ⟨p,u,h⟩
   ·obtain⟨cc,a0,ab,c1,c2,c3⟩:=QU o u;rcases Ma h with⟨hf,h9⟩ | ⟨_,h⟩
    ·
     clear h;have ae:J=z.length∧off=0∧len<=k∧n=0∧new.length=z.length∧0<len:=by
      cases p1:Nat.beq J z.length<;>rw [p1] at hf<;>simp only [R4,O9] at hf<;>try (cases hf;done)
      cases p2:Nat.beq off 0<;>rw [p2] at hf<;>simp only [R4,O9] at hf<;>try (cases hf;done)
      cases p3:Nat.ble len k<;>rw [p3] at hf<;>simp only [R4,O9] at hf<;>try (cases hf;done)
      cases p4:Nat.beq (n+1) 1<;>rw [p4] at hf<;>simp only [R4,O9] at hf<;>try (cases hf;done)
      cases p5:Nat.beq (len' new) z.length<;>rw [p5] at hf<;>simp only [R4,O9] at hf<;>try (cases hf;done)
      have p4:=gI p4;have p5:=gI p5;rw [I5] at p5;exact⟨gI p1,gI p2,Xd p3,by omega,p5,Eq.mp X8 hf⟩
     obtain⟨rfl,rfl,hk,rfl,N,af⟩:=ae;cases h9;obtain⟨l,l1,l2,l3,l4⟩:=SL o u len hk;exact F id z.length k a Q u _ _ l _ rfl (.inl rfl) rfl (λ_=>by omega) (λ_=>o.spot id _ u rfl) l1 (by omega) l2 l3 (VG o u hk af l1 l4 N l2 i) rfl
    obtain⟨old,ho,h⟩:=u6 h;rw [Q9] at h;obtain⟨rl,I,r⟩:=zm h;obtain⟨o1,o2,o3⟩:=uI o u _ _ _ ho;have W:aM (m.nm ι) (old++new):=bQ.2 λv hv=>(aae.1 hv).elim (N8 o2) (N8 i);have d:=(gY _ _ _ _ I).1;rw [Z8,o1,acG] at d;exact F id J k a Q u _ _ old _ rfl (.inl rfl) rfl (λ_=>by omega) (λ_=>o.spot id _ u rfl) o1 (by omega) o2 o3 (vP I W) r
   obtain⟨J,k,a,a1,h⟩:=dh h;obtain⟨q4,h⟩:=C8 h;have V:=Xd q4;obtain⟨q5,h⟩:=C8 h;obtain rfl:=gI q5;obtain⟨rl,I,r⟩:=zm h;obtain⟨t1,K⟩:=o.blk id _ u;have d:=(gY _ _ _ _ I).1;refine F p J k a V a1 _ _ [] (.cells z.length (n+1) (T.ofList rl)) rfl ?_ rfl ?_ ?_ (by simp) d trivial (λj v t=>by simp at t) ?_ ?_;rcases K with K | K;exact .inr (by omega);exact .inl K.1;intro ag;rcases K with K | K;omega;omega;intro ag;rcases K with K | K;omega;exact K.2.2 (o.spot p _ a1 rfl);rw [adW,aad];exact vP I i;rw [r,aad];rfl
def alU (d:TypeDesc):Bool:=match d with | .int _=>true | _=>false
theorem Zl (d:TypeDesc):alU d=El d:=by cases d<;>rfl
theorem GX (s:St P ι (m.nm ι) slots done ls env a.tmps)(N:RM P G ι m w.heap){c:Call}{t u e:TypeId}{d:TypeDesc}{x y:Operand}{S A:O8}{es g:Nat}{z:List d9}(hc:c.callee=.builtin .append)
  (q:c.argTypes.toList=[t,u]) (l:c.args.toList=[x,y]) (hu:P.underlying t=some (.slice e)) (hd:P.underlying u=some d) (p:aH P e=some es) (V:Co P e=some z) (D:fK P e=some g)
  (hx:K7 P slots done x=some S) (hy:K7 P slots done y=some A) {cf:D7} {outs:List VM} (f:nO (.app es (El d) z g S A) cf ls env m=some outs):
  ∀o:Oper,o.op=.call c->Does P a.eval o w (aL P G ι m w outs):=by
 intro o ho;have q:c.argTypes=#[t,u]:=by rw [← q,aag]
 have l:c.args=#[x,y]:=by rw [← l,aag]
 obtain⟨Z,g1⟩:=r9 s hx;obtain⟨e2,g2⟩:=r9 s hy;obtain⟨I,H⟩:=nR V;have E:es=z.length:=by rw [p] at H;exact Y4 H
 have B:∀(n:Nat) (b:List d9),ade P w (El d) g n (l9 ι (G6 A ls env))->aM (m.nm ι) b->(n=0->b=[])->
   (∀w':World,w'.heap=w.heap->(if (!El d)=true then Builtin.firstCells es n (l9 ι (G6 A ls env)) else if n*es=0 then pure #[] else do pure (Builtin.zeroCells (← zeroValue e).cells n):Sem (Array Value)).run P w'=.ok (o9 ι b).toArray w')->
   Bp m es g n b (G6 S ls env)=some outs->Does P a.eval o w (aL P G ι m w outs):=by
  intro n b hn M O F h;obtain⟨U,Y,X,v,w',q1,W,q3⟩:=Mc N V p D M O F g1 h;refine M9 (v:=v) (w':=w') ?_ q3;rw [← BI (T:=o.type) hu p hd D hn] at W;simp [execOp,ho,resolve,hc,l,q,invoke,builtin,Z,e2,q1,W]
 cases hi:El d with
 | true=>rw [hi] at f;obtain⟨k,n,C,f⟩:=fC f;obtain⟨j,f⟩:=C8 f;obtain⟨L,f⟩:=C8 f;have j:n*g<=281474976710656:=Xd j;have L:n<9223372036854775808:=Eq.mp X8 L;have C:G6 A ls env=.int k n:=C;refine B n (R6 z n) (.inr ⟨hi,⟨k,by rw [C];rfl⟩,L,j⟩) (by obtain⟨_,_,_,J⟩:=cZ (P:=P) (w:=w) I ι;exact rW (J _) n) (λr=>by rw [r];rfl) (λw' _=>?_) f;obtain⟨zv,Q,R,J⟩:=cZ (P:=P) (w:=w') I ι;simp only [hi,ahY,aa9,if_false];split;rename_i r;have:R6 z n=[]:=aa2.1 (by rw [eF,← E];exact r);simp [this,o9];simp [Q,R,zl]
 | false=>
  rw [hi] at f;obtain⟨n,C,f⟩:=u6 f;obtain⟨b,j,f⟩:=u6 f;refine B n b (.inl ⟨hi,uO C w⟩) (iY N j).2 (λr=>?_) (λw' hw=>?_) f;subst r;have r:∀i K,U8 m i K 0=some []:=λi K=>rfl;generalize G6 A ls env=v at j;cases v<;>simp only [eY,reduceCtorEq] at j<;>simp_all [bytesOf]
  simp only [hi,Bool.not_false,if_true];exact (iY (w:=w') (by rw [hw];exact N) j).1
end
section
variable {P:Program}{G:Mem}{ι:J5}{m:Mem}{w:World}{slots:List Nat}{done:List (Option Nat)}{ls:List d9}{env:T d9}{a:Act}
theorem JA (s:St P ι (m.nm ι) slots done ls env a.tmps)(c:RM P G ι m w.heap){t:TypeId}(i:P.underlying t=some .string)
  {x:Operand} {d:O8} (k:K7 P slots done x=some d) {cf:D7} {outs:List VM} (j:nO (.rangeS d) cf ls env m=some outs):
  ∀o:Oper,o.op=.range t x->Does P a.eval o w (aL P G ι m w outs):=by
 intro o g;obtain⟨f,_⟩:=r9 s k;obtain⟨str,b,h⟩:=iC j;cases h;have b:G6 d ls env=.str str:=b;have e:=Laid.new c.ok c.limn (.siter str 0) rfl;refine M9 (v:=.pointer (some ⟨w.heap.size,0,none⟩)) (w':={w with heap:=w.heap.push (.stringIter ⟨str.toArray⟩ 0)}) ?_
  ⟨_,aA.2 rfl,ι.upd m.nx ⟨w.heap.size,0,0,none⟩,Step.lay (w':={w with heap:=w.heap.push (.stringIter ⟨str.toArray⟩ 0)}) c e (o:=.stringIter ⟨str.toArray⟩ 0) (l:=⟨w.heap.size,0,0,none⟩) ⟨rfl,rfl,rfl,rfl⟩ rfl rfl ⟨rfl,dw⟩ (by intro _ _ _ h;cases h),e.self,by simp [l9,J5.at]⟩
 simp [execOp,g,Instr.range,run_underlying i,f,b,l9,run_newObj]
theorem SQ {β:Type}{b:Option O6}{k:List UInt8->Nat->Option β}{r:β}(h:Jd b k=some r):∃s p,b=some (.siter s p)∧k s p=some r:=by
 match b,h with
 | some (.siter s p),h=>exact⟨s,p,rfl,h⟩
theorem Me (s:St P ι (m.nm ι) slots done ls env a.tmps)(k:RM P G ι m w.heap)
  {x:Operand} {u:O8} (E:K7 P slots done x=some u) {cf:D7} {outs:List VM} (D:nO (.nextS u) cf ls env m=some outs):
  ∀o:Oper,o.op=.next x true->Does P a.eval o w (aL P G ι m w outs):=by
 intro o z;obtain⟨A,_⟩:=r9 s E;obtain⟨id,off,n,h⟩:=dW D;have n:G6 u ls env=.ptr id off:=n;obtain⟨B,h⟩:=C8 h;obtain rfl:off=0:=gI B;obtain⟨C,h⟩:=jX h;have r:=jJ C;obtain⟨c,p,q,h⟩:=SQ h;obtain⟨y,l⟩:=k.blk id _ q;have t:=k.spot id _ q rfl;have g:=fD (P:=P) l (by intro _ _ _ e;cases e);have i:=λo=>rY (P:=P) (o:=o) l (by intro _ _ _ e;cases e);have j:ByteArray.size ⟨c.toArray⟩=c.length:=oG c;have f:a.eval x=.pointer (some ⟨(ι id).b,0,none⟩):=by rw [A,n];simp [l9,J5.at,y,t]
 rw [I5] at h;cases d:Nat.blt p c.length with
 | false=>
  rw [d] at h;cases h;have d:¬ p<c.length:=by have:=jJ d;omega
  refine M9 (v:=.tuple #[.bool false]) (w':=w) ?_ ⟨_,aA.2 rfl,ι,Step.refl k,by simp [d9.lt,aM],by simp [l9,o9]⟩;simp [execOp,z,f,Instr.next,g,j,d]
 | true=>
  rw [d] at h;cases h;have d:p<c.length:=Eq.mp X8 d;refine M9 (v:=.tuple #[.bool true,.int .i64 p,.int .i32 (Utf8.decode ⟨c.toArray⟩ p).1]) (w':={w with heap:=w.heap.setIfInBounds (ι id).b (.stringIter ⟨c.toArray⟩ (p+(Utf8.decode ⟨c.toArray⟩ p).2))}) ?_
   ⟨_,aA.2 rfl,ι,Step.set k r q rfl rfl (o:=.stringIter ⟨c.toArray⟩ (p+(Utf8.decode ⟨c.toArray⟩ p).2)) ⟨rfl,rfl,rfl,rfl⟩ ⟨y,gG l⟩ (by intro _ _ _ h;cases h),by simp [d9.lt,aM],by simp [l9,o9]⟩
  simp [execOp,z,f,Instr.next,g,j,d,i,goInt]
theorem En {e:TypeId}(h:Bw P e=true):P.underlying e=some (.int .u8)∧aH P e=some 1∧fK P e=some 1∧∃z,Co P e=some z∧z.length=1:=by unfold Bw at h;simp only [q8,beq_iff_eq] at h;obtain⟨⟨⟨a,b⟩,d⟩,f⟩:=h;obtain⟨z,c⟩:=aji.1 f;refine⟨?_,b,d,z,c,?_⟩;split at a;assumption;cases a;have:=(nR c).2;rw [b] at this;exact (Y4 this).symm
theorem SS (t:List UInt8):K5 (bytesOf t)=true:=by
 induction t with
 | nil=>rfl
 | cons b t ih=>show bi true (K5 (bytesOf t)) false=true;rw [ih];rfl
theorem Aw (ι:J5)(t:List UInt8)(j:Nat):(o9 ι (bytesOf t))[j]?=(t[j]?).map λb=>Value.int .u8 (b.toNat:Int):=by rw [aG,oL,aaj];cases t[j]? <;> simp [l9]
theorem iD (t:List UInt8):(bytesOf t).length=t.length:=by rw [oL,acp]
theorem Pm (s:St P ι (m.nm ι) slots done ls env a.tmps)(E:RM P G ι m w.heap){c:Call}{t u e:TypeId}{x y:Operand}{H R:O8}(hc:c.callee=.builtin .append)
  (a2:c.argTypes.toList=[t,u]) (U:c.args.toList=[x,y]) (hu:P.underlying t=some (.slice e)) (hd:P.underlying u=some .string) (ab:Bw P e=true)
  (hx:K7 P slots done x=some H) (hy:K7 P slots done y=some R) {cf:D7} {outs:List VM} (g:nO (.appB e H R) cf ls env m=some outs):
  ∀o:Oper,o.op=.call c->Does P a.eval o w (aL P G ι m w outs):=by
 obtain⟨_,Z,F,z,hz,af⟩:=En ab;have old:nO (.app 1 false z 1 H R) cf ls env m=some outs->∀o:Oper,o.op=.call c->Does P a.eval o w (aL P G ι m w outs):=
  λh=>GX s E hc a2 U hu hd Z hz F hx hy h
 obtain⟨e1,g1⟩:=r9 s hx;obtain⟨e2,g2⟩:=r9 s hy;have a3:c.argTypes=#[t,u]:=by rw [← a2,aag]
 have V:c.args=#[x,y]:=by rw [← U,aag]
 obtain⟨a9,_⟩:=nR hz;have I:∀{d:List UInt8} {base:Option Addr} {sLen sCap:Nat} {v:Value} {w':World},G6 R ls env=.str d->l9 ι (G6 H ls env)=.slice base sLen sCap->
   (ku false e 1 sLen sCap base (l9 ι (.str d)) d.length).run P w=.ok v w'->aL P G ι m w outs v w'->∀o:Oper,o.op=.call c->Does P a.eval o w (aL P G ι m w outs):=by
  intro d base sLen sCap v w' S q2 q3 q4 o ho;refine M9 (v:=v) (w':=w') ?_ q4;have hn:ade P w (El .string) 1 d.length (l9 ι (.str d)):=.inl ⟨rfl,uO (v:=.str d) (by simp [lenOf]) w⟩;have h3:(ku (El .string) e 1 sLen sCap base (l9 ι (.str d)) d.length).run P w=.ok v w':=q3;rw [← BI (T:=o.type) hu Z hd F hn] at h3;simp [execOp,ho,resolve,hc,V,a3,invoke,builtin,e1,e2,S,q2,h3]
 have C:∀(d:List UInt8) (w':World),w'.heap=w.heap->(if (!false)=true then Builtin.firstCells 1 d.length (l9 ι (.str d)) else if d.length*1=0 then pure #[] else do pure (Builtin.zeroCells (← zeroValue e).cells d.length):Sem (Array Value)).run P w'=.ok (o9 ι (bytesOf d)).toArray w':=by
  intro d w' hw;have:eY m 1 d.length (.str d)=some (bytesOf d):=by simp [eY]
  exact (iY (w:=w') (by rw [hw];exact E) this).1
 have aa:∀{m0:Mem} (st:Step P G ι m w ι m0 w) (f d:List UInt8) (capN:Nat) (i:List Value),m0.nx=m.nx->f.length+d.length<=capN->i.length=(capN-(f.length+d.length))*z.length->
   outs=[⟨.sliceU m.nx 0 (f.length+d.length) 1,m0.new (.buf e (f++d))⟩]->
   aL P G ι m w outs (.slice (some ⟨w.heap.size,0,none⟩) (f.length+d.length) capN) {w with heap:=w.heap.push (.cells (o9 ι (bytesOf f)++o9 ι (bytesOf d)++i).toArray e),drawn:=w.drawn+1}:=by
  intro m0 st f d capN i ac X N p;subst p;have hl:=Laid.new st.rm.ok st.rm.limn (.buf e (f++d)) rfl;rw [ac] at hl;have ad:(o9 ι (bytesOf f)++o9 ι (bytesOf d)++i).toArray.size=capN:=by simp only [ad5,Z8,U0,iD,N,af];omega
  have Q:=st.trans (Step.lay (w':={w with heap:=w.heap.push (.cells (o9 ι (bytesOf f)++o9 ι (bytesOf d)++i).toArray e),drawn:=w.drawn+1}) st.rm hl (o:=.cells (o9 ι (bytesOf f)++o9 ι (bytesOf d)++i).toArray e) ⟨rfl,rfl,rfl,rfl⟩ (l:=⟨w.heap.size,0,capN,none⟩) rfl rfl
   ⟨rfl,_,_,dw,by simp;omega,by rw [ad];exact J2 _,λj b q=>?_⟩ (by intro c' e' fz h k hk;cases h;simp))
  exact nT rfl Q hl.self (by omega) (need:=f.length+d.length) (by simpa using X) (by simp);have L:=(Hl.1 q).1;rw [acN,Z9 (by simpa [iD] using L)];by_cases h1:j<f.length;rw [Z9 h1] at q;rw [Z9 (by simpa [iD] using h1),Aw,q];rfl;rw [aat (by omega)] at q;rw [aat (by simp [iD];omega),Aw];simp only [U0,iD];rw [q];rfl
 change wL e (G6 H) (G6 R) cf ls env m=some outs at g
 unfold wL at g;split at g;rename_i D;obtain⟨d,A,g⟩:=iC g;cases d with
 | nil=>refine old ?_;show qF 1 1 (G6 H) (G6 R) cf ls env m=some outs;unfold qF;rw [A,D];exact g
 | cons b0 t0=>
  generalize hstr:b0::t0=d at *;have g:bi (big (len' d) 1 1) (one (.sliceU m.nx 0 (len' d) 1) (m.new (.buf e d))) none=some outs:=by rw [← hstr] at g ⊢;exact g
  obtain⟨W,g⟩:=C8 g;rw [I5] at W g;obtain⟨b1,_,b3⟩:=uP W;have p:outs=[⟨.sliceU m.nx 0 (([]:List UInt8).length+d.length) 1,m.new (.buf e ([]++d))⟩]:=by cases g;simp
  have a0:0<d.length:=by rw [← hstr];simp
  obtain⟨capN,i,r1,r2,r3⟩:=kD (P:=P) (w:=w) (zs:=false) (e:=e) (es:=1) (sLen:=0) (sCap:=0) (base:=none) (x:=l9 ι (.str d)) (n:=d.length) (old:=[]) F a9 (by omega) (by simpa using b1) b3
   (λw' _=>by simp [Builtin.firstCells]) (C d)
  refine I A (by rw [D];rfl) r3 ?_;have:=aa (Step.refl E) [] d capN i rfl (by simpa using r1) (by simpa using r2) p;simpa [bytesOf,o9] using this
 rename_i id off len es D;split at g;rename_i ty' f K;obtain⟨d,A,g⟩:=iC g;obtain⟨k1,a4⟩:=C8 g;obtain⟨k2,a5⟩:=C8 a4;obtain⟨k3,a6⟩:=C8 a5;obtain⟨k4,a7⟩:=C8 a6;obtain⟨k5,a8⟩:=C8 a7;clear g a4 a5 a6 a7;rw [I5] at k4;have r:m.lim<=id:=Xd k5;obtain rfl:e=ty':=gI k1;obtain rfl:off=0:=gI k2;obtain rfl:es=1:=gI k3;obtain rfl:len=f.length:=gI k4;have g:=a8;clear a8;cases d with
 | nil=>refine old ?_;show qF 1 1 (G6 H) (G6 R) cf ls env m=some outs;unfold qF;rw [A,D];exact g
 | cons b0 t0=>
  generalize hstr:b0::t0=d at *;have g:bi (big (Nat.add f.length (len' d)) 1 1) (one (.sliceU m.nx 0 (Nat.add f.length (len' d)) 1) ((m.set id .dead).new (.buf e (V8 f d)))) none=some outs:=by rw [← hstr] at g ⊢;exact g
  obtain⟨W,g⟩:=C8 g;rw [I5] at W g;rw [Q9] at g;obtain⟨b1,_,b3⟩:=uP W;have p:outs=[⟨.sliceU m.nx 0 (f.length+d.length) 1,(m.set id .dead).new (.buf e (f++d))⟩]:=by cases g;rfl
  have a0:0<d.length:=by rw [← hstr];simp
  obtain⟨q0,cs,fz,S,q2,q3,q4⟩:=E.blk id _ K;have O:=E.spot id _ K rfl;have Y:l9 ι (G6 H ls env)=.slice (some ⟨(ι id).b,0,none⟩) f.length (ι id).cap:=by rw [D];simp [l9,J5.at,q0,O]
  have B:=(E.own id _ r K rfl).free cs e fz S;have J:∀w':World,w'.heap=w.heap->∀(j:Nat) (v:d9),(bytesOf f)[j]?=some v->w'.cell? (ι.at id (0+j))=some (l9 ι v):=by
   intro w' hw j v q;rw [oL,aaj] at q;cases hb':f[j]? with
   | none=>rw [hb'] at q;cases q
   | some b'=>rw [hb'] at q;cases q;have:=q4 j b' hb';simp [World.cell?,hw,J5.at,q0,O,S,l9,this]
  by_cases hfit:f.length+d.length<=(ι id).cap
  ·
   have a1:=oK (P:=P) (o9 ι (bytesOf d)) cs (f.length*1) 0 w S (by simp [iD];omega) B (λv g=>by
    rw [aU] at g;obtain⟨u',ae,rfl⟩:=acY.1 g;exact Ar (qc (SS d) u' ae))
   refine I A Y (kC hfit (C d w rfl) (by
    have:(⟨(ι id).b,0,none⟩:Addr).add (f.length*1)=⟨(ι id).b,f.length*1,none⟩:=(by simp [Addr.add];intro h;simp [h]);simp only [this];exact a1)) ?_
   subst p;have M:=Laid.new (Step.kill E r K).rm.ok (Step.kill E r K).rm.limn (.buf e (f++d)) rfl;have Q:=Step.abQ (l:=⟨(ι id).b,0,(ι id).cap,none⟩) (o:=.cells (over cs (f.length*1+0) (o9 ι (bytesOf d))) e fz) (w':={w with heap:=w.heap.setIfInBounds (ι id).b (.cells (over cs (f.length*1+0) (o9 ι (bytesOf d))) e fz)})
    (b':=.buf e (f++d)) E r K rfl rfl ⟨rfl,rfl,rfl,rfl⟩ rfl rfl ⟨rfl,_,_,gG S,by simpa using hfit,by simpa using q3,λj b q=>?_⟩ (by intro c' e' ag h k hk;cases h;exact B k (by simpa using hk))
   have:=nT rfl Q M.self (J2 1) (need:=f.length+d.length) (by simpa using hfit) (cap:=(ι id).cap) (by simp);simpa using this;have L:=(Hl.1 q).1;rw [Z8] at L;rw [zh _ _ _ (by simp [iD];omega)];by_cases h1:j<f.length;rw [Z9 h1] at q;rw [if_pos (by omega)];exact q4 j b q;rw [aat (by omega)] at q;rw [if_neg (by omega),if_pos (by simp [iD];omega),Aw,show j-(f.length*1+0)=j-f.length from by omega,q];rfl
  obtain⟨capN,i,r1,r2,r3⟩:=kD (P:=P) (w:=w) (zs:=false) (e:=e) (es:=1) (sLen:=f.length) (sCap:=(ι id).cap) (base:=some ⟨(ι id).b,0,none⟩) (x:=l9 ι (.str d)) (n:=d.length) (old:=o9 ι (bytesOf f)) F a9 hfit b1 b3
   (λw' hw=>by
    have:=gX (P:=P) (ι:=ι) (w:=w') (id:=id) (off:=0) (len:=f.length) (cap:=(ι id).cap) (es:=1) (n:=f.length) (l:=bytesOf f) (by rw [iD,ald]) (J w' hw);simpa [J5.at,q0,O] using this) (C d)
  exact I A Y r3 (aa (Step.kill E r K) f d capN i rfl r1 r2 p)
 exact old g;exact old g
theorem Pn {w:World}{b:Nat}{c:Array Value}{e:TypeId}{fz:Nat×Nat}(h:w.heap[b]?=some (.cells c e fz))(n:Nat):∃fz',w.freeze ⟨b,0,none⟩ n={w with heap:=w.heap.setIfInBounds b (.cells c e fz')}:=by
 have g:=(K9.1 h).1;have i:w.heap[b]=.cells c e fz:=(K9.1 h).2;have a:∀(f:Obj->Obj) fz',f (.cells c e fz)=.cells c e fz'->w.heap.modify b f=w.heap.setIfInBounds b (.cells c e fz'):=by intro f fz' k;apply acP;intro j;rw [agQ,Array.getElem?_setIfInBounds];by_cases hj:b=j;subst hj;simp [h,k,g,i];simp [hj]
 unfold World.freeze;split;refine⟨fz,?_⟩;have d:w.heap.modify b id=w.heap:=by apply acP;intro j;rw [agQ];split<;>simp
 rw [← a id fz rfl,d];obtain⟨m,l⟩:=fz;exact⟨_,by congr 1;exact a _ _ rfl⟩
theorem Zm {β:Type}{v:d9}{k:Nat->Option β}{r:β}(h:Za v k=some r):∃n:Nat,v=.int .i64 (n:Int)∧k n=some r:=by unfold Za at h;split at h;exact⟨_,rfl,h⟩;cases h
theorem Po (s:St P ι (m.nm ι) slots done ls env a.tmps)(C:RM P G ι m w.heap){c:Call}{t u e:TypeId}{x y:Operand}{U V:O8}(L:c.callee=.builtin .unsafeString)
  (g:c.argTypes.toList=[t,u]) (f:c.args.toList=[x,y]) (hu:P.underlying t=some (.pointer e)) (K:Bw P e=true)
  (hx:K7 P slots done x=some U) (hy:K7 P slots done y=some V) {cf:D7} {outs:List VM} (i:nO (.ustr e U V) cf ls env m=some outs):
  ∀o:Oper,o.op=.call c->Does P a.eval o w (aL P G ι m w outs):=by
 intro o Q;obtain⟨_,M,_⟩:=En K;obtain⟨X,_⟩:=r9 s hx;obtain⟨E,_⟩:=r9 s hy;have g:c.argTypes=#[t,u]:=by rw [← g,aag]
 have f:c.args=#[x,y]:=by rw [← f,aag]
 obtain⟨n,q,i⟩:=Zm i;have q:G6 V ls env=.int .i64 (n:Int):=q
 change (match G6 U ls env with
  | .nilPtr=>bi (Nat.beq n 0) (one (.str []) m) none
  | .ptr id p=>bi (Nat.beq p 0) (bi (Nat.ble m.lim id) (match m.get id with
   | some (.buf ty' s)=>bi (Nat.beq e ty') (bi (Nat.beq n (len' s)) (bi (Nat.ble n 9223372036854775807) (one (.str s) (m.set id .dead)) none) none) none
   | _=>none) none) none
  | _=>none)=some outs at i
 split at i;rename_i H;obtain⟨I,k⟩:=C8 i;clear i;cases k;obtain rfl:n=0:=gI I;refine M9 (v:=.string .empty) (w':=w) ?_ ⟨_,aA.2 rfl,ι,Step.refl C,trivial,rfl⟩;have:=Lib.run_unsafeString_none (P:=P) w t u o.type none;simp [execOp,Q,resolve,L,f,g,invoke,builtin,X,E,q,H,l9,this];rename_i id p H;obtain⟨I,k⟩:=C8 i;obtain⟨Z,l⟩:=C8 k;clear i k;obtain rfl:p=0:=gI I;have z:m.lim<=id:=Xd Z;split at l;rename_i ty' d O;obtain⟨h5,A⟩:=C8 l;obtain⟨Y,B⟩:=C8 A;obtain⟨h7,T⟩:=C8 B;clear l A B;rw [I5] at Y;cases T;obtain rfl:e=ty':=gI h5;obtain rfl:n=d.length:=gI Y;have J:d.length<=9223372036854775807:=Xd h7;obtain⟨q0,W,fz,D,q2,q3,q4⟩:=C.blk id _ O;have R:=C.spot id _ O rfl;obtain⟨F,N⟩:=Pn D d.length;have S:Step P G ι m w ι (m.set id .dead) (w.freeze ⟨(ι id).b,0,none⟩ d.length):=by rw [N];exact Step.set' C z O rfl rfl (o:=.cells W e F) ⟨rfl,rfl,rfl,rfl⟩ trivial (λh=>by cases h)
 refine M9 (v:=.string ⟨d.toArray⟩) (w':=w.freeze ⟨(ι id).b,0,none⟩ d.length) ?_ ⟨_,aA.2 rfl,ι,S,trivial,rfl⟩;have r:a.eval x=.pointer (some ⟨(ι id).b,0,none⟩):=by rw [X,H];simp [l9,J5.at,q0,R]
 by_cases h0:d=[];subst h0;have:=Lib.run_unsafeString_none (P:=P) w t u o.type (some ⟨(ι id).b,0,none⟩);simp [execOp,Q,resolve,L,f,g,invoke,builtin,r,E,q,l9,this,World.freeze];rfl;have:=Lib.run_unsafeString_row (P:=P) w t u o.type e hu (xP M) (ι id).b W.size (by simp [World.shape?,D]) d h0 (by omega) J (λj b hj=>by
  have:=q4 j b hj;by_cases h0:j=0;subst h0;simpa [World.cell?,Addr.add,D] using this;simpa [World.cell?,Addr.add,D,h0] using this)
 simp [execOp,Q,resolve,L,f,g,invoke,builtin,r,E,q,l9,this];cases l;cases i
end
section
variable {P:Program}{G:Mem}{ι:J5}{m:Mem}{w:World}{slots:List Nat}{done:List (Option Nat)}{ls:List d9}{env:T d9}{a:Act}
def Ay (P:Program)(f:FuncId):Prop:=∃fn,P.funcs[f]?=some fn∧fn.body.isSome=true∧fn.name≠ "runtime.NumGoroutine"
def P5 (P:Program)(G:Mem)(ι:J5)(m:Mem)(w:World)(outs:List VM)(e:Ending)(w':World):Prop:=
 (∃v,e=.returned v∧aL P G ι m w outs v w')∨
  ∃r∈outs,∃x ι',r.v=.mq x∧Step P G ι m w ι' r.m w'∧x.lt (r.m.nm ι')∧e=.panicked [{v:=l9 ι' x,recovered:=false}]
def kW (P:Program)(ρ:Operand->Value)(o:Oper)(w:World)(R:Ending->World->Prop):Prop:=
 match (execOp ρ o).run P w with
 | .ok (.value v) w'=>R (.returned v) w'
 | .ok .skip w'=>R (.returned undef) w'
 | .ok (.enter f args) w'=>CallsIn Fence.wide 0 P f args w' R
 | .ok (.round l f tmps assign body) w'=>RoundIn Fence.wide 0 P l f tmps assign body w' R
 | .halt (.panic v) w'=>R (.panicked [{v,recovered:=false}]) w'
 | _=>False
theorem X9 {c:Operand->Value}{o:Oper}{outs:List VM}(h:Does P c o w (aL P G ι m w outs)):kW P c o w (P5 P G ι m w outs):=by
 unfold Does at h;unfold kW;generalize (execOp c o).run P w=res at h;cases res with
 | halt=>exact h.elim
 | ok x w'=>
  cases x with
  | value v=>exact .inl ⟨_,rfl,h⟩
  | skip=>exact .inl ⟨_,rfl,h⟩
  | enter f args=>exact ai9 h λe b a=>.inl a
  | round l f tmps assign body=>exact RoundIn.mono h λe b a=>.inl a
  | _=>exact h.elim
theorem Pp {a:Operand->Value}{o:Oper}{R:Value->World->Prop}(h:Does P a o w R):kW P a o w (λe w'=>∃v,e=.returned v∧R v w'):=by
 unfold Does at h;unfold kW;generalize (execOp a o).run P w=res at h;cases res with
 | halt=>exact h.elim
 | ok x w'=>
  cases x with
  | value v=>exact⟨_,rfl,h⟩
  | skip=>exact⟨_,rfl,h⟩
  | enter f args=>exact h
  | round l f tmps assign body=>exact h
  | _=>exact h.elim
structure nD (P:Program)(G:Mem)(cf:D7):Prop where
 func:∀{f:FuncId} {args:List d9} {m:Mem} {outs:List VM},cf (.func f) args m=some outs->Ay P f∧∀{ι:J5} {w:World},RM P G ι m w.heap->aM (m.nm ι) args->
  CallsIn Fence.wide 0 P f (o9 ι args).toArray w (P5 P G ι m w outs)
 yield:∀{l:Nat} {args:List d9} {m:Mem} {outs:List VM},cf (.yield l) args m=some outs->∀{ι:J5} {w:World},RM P G ι m w.heap->aM (m.nm ι) args->
  ∃L:Loop,w.heap[(ι l).b]?=some (.loop L)∧args.length=L.params.size∧
   RoundIn Fence.wide 0 P (ι l).b L.fn ((L.params.zip (o9 ι args).toArray).foldl (λt (p,v)=>t.setIfInBounds p v) L.tmps) L.assign L.body w (P5 P G ι m w outs)
 other:∀{fn:Fn} {args:List d9} {m:Mem} {outs:List VM},cf fn args m=some outs->(∃f,fn=.func f)∨∃l,fn=.yield l
theorem nE {f:FuncId}(h:Ay P f)(args:Array Value)(w:World):(callFunc f args).run P w=.ok (.enter f args) w:=by
 obtain⟨b,d,a,e⟩:=h;cases hb:b.body with
 | none=>rw [hb] at a;cases a
 | some c=>simp [callFunc,d,e,hb]
theorem kE (ι:J5)(l r:List d9):o9 ι (l++r)=o9 ι l++o9 ι r:=by simp [aU]
theorem jv {n:Nm}{l r:List d9}(h:aM n l)(h':aM n r):aM n (l++r):=bQ.2 λv a=>(aae.1 a).elim (N8 h) (N8 h')
theorem JB (s:St P ι (m.nm ι) slots done ls env a.tmps){c:Array Operand}{b:List O8}(h:jF P slots done c.toList=some b):
  c.map a.eval=(o9 ι (evs (fJ b) ls env)).toArray∧aM (m.nm ι) (evs (fJ b) ls env):=by
 obtain⟨d,e⟩:=lF s h;refine⟨?_,e⟩;rw [← d,← ajj,aag]
theorem Pq {cf:D7}(h:nD P G cf)(s:St P ι (m.nm ι) slots done ls env a.tmps)(p:RM P G ι m w.heap){c:Call}{f:FuncId}{e:List O8}(l:c.callee=.value (.func f))
  (g:jF P slots done c.args.toList=some e) {outs:List VM} (i:nO (.call f e) cf ls env m=some outs):
  ∀o:Oper,o.op=.call c->kW P a.eval o w (P5 P G ι m w outs):=by
 intro o q;obtain⟨j,k⟩:=JB s g;have i:cf (.func f) (evs (fJ e) ls env) m=some outs:=i;obtain⟨n,b⟩:=h.func i;have d:(execOp a.eval o).run P w=.ok (.enter f (o9 ι (evs (fJ e) ls env)).toArray) w:=by simp [execOp,q,resolve,l,Act.eval,Deferred.ofValue,invoke,j,nE n]
 unfold kW;rw [d];exact b p k
theorem Mf {cf:D7}(j:nD P G cf)(s:St P ι (m.nm ι) slots done ls env a.tmps)(F:RM P G ι m w.heap){c:Call}{f:Operand}{q:O8}{e:List O8}(E:c.callee=.value f)
  (z:K7 P slots done f=some q) (u:jF P slots done c.args.toList=some e) {outs:List VM} (O:nO (.callv q e) cf ls env m=some outs):
  ∀o:Oper,o.op=.call c->kW P a.eval o w (P5 P G ι m w outs):=by
 intro o H;obtain⟨A,B⟩:=JB s u;obtain⟨n,C⟩:=r9 s z;obtain⟨D,x,y,r,h⟩:=Jl O;have r:G6 q ls env=.func D x y:=r;rw [r] at n C;obtain⟨_,I,k⟩:=C;cases D with
 | func g=>
  have h:cf (.func g) (V8 x (V8 (evs (fJ e) ls env) y)) m=some outs:=h;rw [Q9,Q9] at h;obtain⟨N,i⟩:=j.func h;have d:(execOp a.eval o).run P w=.ok (.enter g (o9 ι (x++(evs (fJ e) ls env++y))).toArray) w:=by simp [execOp,H,resolve,E,n,l9,jq,Deferred.ofValue,invoke,A,nE N,kE]
  unfold kW;rw [d];exact i F (jv I (jv B k))
 | yield l=>
  have h:cf (.yield l) (V8 x (evs (fJ e) ls env)) m=some outs:=h;rw [Q9] at h;obtain⟨L,J,K,M⟩:=j.yield h F (jv I B);have d:(execOp a.eval o).run P w=.ok (.round (ι l).b L.fn ((L.params.zip (o9 ι (x++evs (fJ e) ls env)).toArray).foldl (λt (p,v)=>t.setIfInBounds p v) L.tmps) L.assign L.body) w:=by have k:=run_yield (P:=P) (args:=(o9 ι (x++evs (fJ e) ls env)).toArray) J (by simpa using K);rw [kE,← List.append_toArray] at k ⊢;simp only [execOp,H,resolve,E,n,l9,jq,Deferred.ofValue,invoke,A,Xb,Z7,J4,k]
  unfold kW;rw [d];exact M
 | method=>cases h
 | methodOf=>cases h
 | via=>cases h
theorem Mh (s:St P ι (m.nm ι) slots done ls env a.tmps)(g:RM P G ι m w.heap){x:Operand}{d:O8}(i:K7 P slots done x=some d){cf:D7}{outs:List VM}(b:nO (.panic d) cf ls env m=some outs):
  ∀o:Oper,o.op=.panic x->kW P a.eval o w (P5 P G ι m w outs):=by
 intro o h;obtain⟨e,f⟩:=r9 s i;have b:YZ (G6 d ls env) m=some outs:=b;generalize G6 d ls env=v at *;cases v with
 | iface t y=>
  have b:some [(⟨.mq (.iface t y),m⟩:VM)]=some outs:=b;cases b;have c:(execOp a.eval o).run P w=.halt (.panic (l9 ι (.iface t y))) w:=by simp [execOp,h,e,l9,Instr.panic,goPanic]
  unfold kW;rw [c];exact .inr ⟨_,aA.2 rfl,_,ι,rfl,Step.refl g,f,rfl⟩
 | _=>cases b
theorem Az {cf:D7}(f:nD P G cf)(s:St P ι (m.nm ι) slots done ls env a.tmps)(d:RM P G ι m w.heap){i:Op}{g:UA}(h:fV P slots done i=some (.e g)){outs:List VM}(c:nO g cf ls env m=some outs):
  ∀o:Oper,o.op=i->kW P a.eval o w (P5 P G ι m w outs):=by
 cases yX h with
 | store h1 h2 h3=>exact λo b=>X9 (LV s d h1 h2 h3 c o b)
 | mapUpdate h1 h2 h3 h4 h5=>exact λo b=>X9 (zk s d h1 h2 h3 h4 h5 c o (.inl b))
 | insert h1 h2 h3 h4 h5=>exact λo b=>X9 (zk s d h1 h2 h3 h4 h5 c o (.inr b))
 | range h1 h2=>exact λo b=>X9 (LY s d h1 h2 c o b)
 | next h1=>exact λo b=>X9 (Pj s d h1 c o b)
 | app h1 h2 h3 h4 h5 h6 h7 h8 h9 h10=>exact λo b=>X9 (GX s d h2 h3 h4 h5 h1 h6 h7 h8 h9 h10 (by rw [← Zl];exact c) o b)
 | copy h1 h2 h3 h4 h5 h6 h7=>exact λo b=>X9 (Pk s d h1 h2 h3 h4 h5 h6 h7 c o b)
 | clear h1 h2 h3 h4 h5 h6=>exact λo b=>X9 (LZ s d h1 h2 h3 h4 h5 h6 c o b)
 | call h1 h2 h3 h4 h5=>exact Pq f s d h1 h5 c
 | callv h1 h2 h3=>exact Mf f s d h1 h2 h3 c
 | panic h1=>exact Mh s d h1 c
 | rangeS h1 h2=>exact λo b=>X9 (JA s d h1 h2 c o b)
 | nextS h1=>exact λo b=>X9 (Me s d h1 c o b)
 | appB h1 h2 h3 h4 h5 h6 h7 h8=>exact λo b=>X9 (Pm s d h2 h3 h4 h5 h1 h6 h7 h8 c o b)
 | ustr h1 h2 h3 h4 h5 h6 h7=>exact λo b=>X9 (Po s d h1 h2 h3 h4 h5 h6 h7 c o b)
 | defer=>cases c
 | recover=>cases c
end
end Go.AM
