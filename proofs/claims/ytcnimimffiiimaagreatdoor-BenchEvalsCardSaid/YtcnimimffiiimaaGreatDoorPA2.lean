/- A part of an evaluator for the model, proved sound: what it answers holds of the model; it speaks of every program, no condition. -/
import Derived.Test.YtcnimimffiiimaaGreatDoorPA1
import Derived.Lib.Builder
import Derived.Laws.NewFold
import Derived.CallsIn
import Derived.Lib.UnsafeStr
import Derived.RangeFuncLeaves
import Derived.RangeFuncRecord
import Derived.RangeFuncNested
import Derived.LoopNIn
set_option linter.all false
namespace Go.AM
open Go
section
variable {P:Program}{G:Mem}{ι:H6}{m:Mem}{w:World}
theorem bJ {β:Type}{b:Option N7}{k:Nat->Nat->T (List d9)->Option β}{r:β}(h:R4 b k=some r):∃rs n rows,b=some (.cells rs n rows)∧k rs n rows=some r:=by
 match b,h with
 | some (.cells rs n rows),h=>exact⟨rs,n,rows,rfl,h⟩
theorem za {β:Type}{b:Option N7}{k:List (d9×d9)->Option β}{r:β}(h:MP b k=some r):∃es,b=some (.map es)∧k es=some r:=by
 match b,h with
 | some (.map es),h=>exact⟨es,rfl,h⟩
theorem HY (d:RM P G ι m w.heap){id rs k:Nat}{rows:T (List d9)}(b:m.get id=some (.cells rs k rows)){i j:Nat}(p:i<k)(q:j<rs){row:List d9}
  (r:rows.get i=some row) {v:d9} (f:row[j]?=some v):w.cell? (ι.at id (i*rs+j))=some (l7 ι v)∧v.lt (m.nm ι):=by
 obtain⟨c,e,s,n,u,x,o⟩:=d.blk id _ b;obtain⟨g,a,t,h,l⟩:=o i p;rw [r] at a;cases a;have:=l j q;rw [f] at this;refine⟨?_,M6 h (U9 f)⟩;simp only [World.cell?,H6.at,n,d.spot id _ b rfl];simpa using this
theorem Ng {rs n off:Nat}{rows:T (List d9)}{v:d9}(h:cell1 rs n rows off=some v):
  off / rs<n∧∃row,rows.get (off / rs)=some row∧row[off%rs]?=some v:=by
 obtain⟨b,c⟩:=D5 h;obtain⟨row,d,a⟩:=z8 c;rw [gW] at a;exact⟨Eq.mp Xb b,row,d,a⟩
theorem Ab (j:RM P G ι m w.heap){id rs k off:Nat}{rows:T (List d9)}(i:m.get id=some (.cells rs k rows)){v:d9}(h:cell1 rs k rows off=some v):
  w.cell? (ι.at id off)=some (l7 ι v)∧v.lt (m.nm ι):=by
 obtain⟨d,p,f,g⟩:=Ng h;obtain⟨c,e,q,_,_,_,o⟩:=j.blk id _ i;obtain⟨l,b,n,_,_⟩:=o _ d;rw [f] at b;cases b;have a:off%rs<rs:=aeL (gq.1 g).1 n;have:=HY j i d a f g
 rwa [show off / rs*rs+off%rs=off from by rw [adE];exact ajP off rs] at this
def mV (ι:H6)(w:World)(id off:Nat)(l:List d9):Prop:=∀j v,l[j]?=some v->w.cell? (ι.at id (off+j))=some (l7 ι v)
theorem HZ (s:RM P G ι m w.heap){id rs n off k:Nat}{rows:T (List d9)}(p:m.get id=some (.cells rs n rows)){l:List d9}(h:iO rs n rows off k=some l):
  l.length=k∧X0 (m.nm ι) l∧mV ι w id off l:=by
 obtain⟨f,z⟩:=D5 h;obtain⟨row,g,a⟩:=z8 z;have f:off / rs<n:=Eq.mp Xb f;obtain⟨c,e,C,_,_,_,A⟩:=s.blk id _ p;obtain⟨u,o,x,y,_⟩:=A _ f;have g:rows.get (off / rs)=some row:=g;rw [g] at o;cases o;have i:l=(row.drop (off%rs)).take k∧(off%rs+k<=rs∨k=0):=by have b:Nat.mod off rs=off%rs:=rfl;rw [b] at a;rw [sG] at a;split at a;rename_i t;rw [sG] at a;split at a;rename_i q;have e:row=l:=Xl a;rw [t,q,← e];refine⟨?_,by omega⟩;rw [J4,← x,List.take_length];obtain⟨e,r⟩:=jF _ _ _ a;rw [t];exact⟨by rw [J4];exact e,by omega⟩;obtain⟨e,r⟩:=jF _ _ _ a;simp only [ku,List.length_drop] at r e;exact⟨e,by omega⟩
 obtain⟨rfl,q⟩:=i;refine⟨by simp;omega,bB.2 λv d=>M6 y (adH (aeI d)),λj v d=>?_⟩;have B:j<k:=by have:=(gq.1 d).1;simp at this;omega
 rw [aeC,if_pos B,aeJ] at d;have:=(HY s p f (show off%rs+j<rs by omega) g d).1
 rwa [show off / rs*rs+(off%rs+j)=off+j from by have:=ajP off rs;rw [adE] at this;omega] at this
theorem EI (rs n:Nat)(rows:T (List d9))(off:Nat):P5 rs n rows 0 off=some []:=rfl
theorem EJ (rs n:Nat)(rows:T (List d9))(k off:Nat):P5 rs n rows (k+1) off=ob (cell1 rs n rows off) λv=>ob (P5 rs n rows k (off+1)) λl=>some (v::l):=rfl
theorem sI (p:RM P G ι m w.heap){id rs n:Nat}{rows:T (List d9)}(o:m.get id=some (.cells rs n rows)):
  ∀(k off:Nat) (l:List d9),P5 rs n rows k off=some l->l.length=k∧X0 (m.nm ι) l∧mV ι w id off l:=by
 intro k;induction k with
 | zero=>intro off l h;rw [EI] at h;cases h;exact⟨rfl,trivial,λj v q=>by simp at q⟩
 | succ k ih=>
  intro off l h;rw [EJ] at h;obtain⟨v,g,h⟩:=z8 h;obtain⟨r,i,h⟩:=z8 h;cases h;obtain⟨b,c⟩:=Ab p o g;obtain⟨d,e,f⟩:=ih _ _ i;refine⟨by simp [d],⟨c,e⟩,λj u a=>?_⟩;cases j with
  | zero=>simp at a;subst a;exact b
  | succ j=>rw [show off+(j+1)=off+1+j from by omega];exact f j u (by simpa using a)
theorem iX (e:RM P G ι m w.heap){id off k:Nat}{l:List d9}(h:R8 m id off k=some l):
  l.length=k∧X0 (m.nm ι) l∧mV ι w id off l:=by
 cases k with
 | zero=>cases h;exact⟨rfl,trivial,λj v f=>by simp at f⟩
 | succ k=>have h:R4 (m.get id) (λb n a=>P5 b n a (k+1) off)=some l:=h;obtain⟨b,n,a,c,d⟩:=bJ h;exact sI e c _ _ _ d
theorem Kj {a:Addr}{v:Value}(h:w.cell? a=some v):(load a).run P w=.ok v w:=by simp [h]
theorem xE {id off:Nat}:∀(l:List d9) (i:Nat) (acc:Array Value),(∀j v,l[j]?=some v->w.cell? (ι.at id (off+(i+j)))=some (l7 ι v))->
  (loadCellsFrom (ι.at id off) i l.length acc).run P w=.ok (acc++(o9 ι l).toArray) w:=by
 intro l;induction l with
 | nil=>intro i acc _;simp [loadCellsFrom,o9]
 | cons v l ih=>intro i acc h;have a:w.cell? (ι.at id (off+i))=some (l7 ι v):=h 0 v rfl;simp only [Y3,loadCellsFrom,J3,H6.mM];rw [Kj a,gM,ih (i+1) _ (λj u b=>by rw [show i+1+j=i+(j+1) from by omega];exact h (j+1) u (by simpa using b))];simp [o9]
theorem oL {id off:Nat}{l:List d9}(h:mV ι w id off l):(loadCells (ι.at id off) l.length).run P w=.ok (o9 ι l).toArray w:=by have:=xE (P:=P) (ι:=ι) (w:=w) (id:=id) (off:=off) l 0 #[] (λj v a=>by simpa using h j v a);simpa [loadCells] using this
theorem eY {id off len cap es n:Nat}{l:List d9}(a:l.length=n*es)(h:mV ι w id off l):
  (Builtin.firstCells es n (.slice (some (ι.at id off)) len cap)).run P w=.ok (o9 ι l).toArray w:=by
 simp only [Builtin.firstCells];rw [← a];exact oL h
end
section
variable {P:Program}{G:Mem}{ι:H6}{m:Mem}{w:World}{slots:List Nat}{done:List (Option Nat)}{ls:List d9}{env:T d9}{a:Act}
theorem uX {t:TypeId}{e:Option Nat}(j:partT P t=some e)(d:RM P G ι m w.heap){id off:Nat}{v:d9}
  (o:R4 (m.get id) (λrs n rows=>match e with | none=>cell1 rs n rows off | some k=>ob (iO rs n rows off k) λl=>some (.agg l))=some v):
  (loadVar t (ι.at id off)).run P w=.ok (l7 ι v) w∧v.lt (m.nm ι):=by
 obtain⟨rs,n,rows,c,h⟩:=bJ o;rcases Ck j with⟨rfl,ha,k,hk⟩ | ⟨k,rfl,ha,hk⟩;obtain⟨a,b⟩:=Ab d c h;exact⟨by simp [loadVar,pG ha,a],b⟩;obtain⟨l,a,b⟩:=z8 h;cases b;obtain⟨f,g,i⟩:=HZ d c a;refine⟨?_,g⟩;have:=oL (P:=P) i;rw [f] at this;simp [loadVar,pG ha,run_sizeOf hk,this,l7]
theorem eu {t:TypeId}(h:P.underlying t=some .bool∨(∃k,P.underlying t=some (.int k))∨P.underlying t=some .string)(e:Bool)(d:Nat)(v:Value)(w:World):
  (Instr.checkKey e (d+1) t v).run P w=.ok () w:=by
 rcases h with h | ⟨k,h⟩ | h<;>simp [Instr.checkKey,run_underlying h]
def nW (e:Bool)(d:Nat)(X:Array Value):List Field->Sem Unit
 | []=>pure ()
 | f::l=>do
  if f.name≠ "_" then Instr.checkKey e d f.type (← part f.type X f.offset)
  nW e d X l
theorem Nh (e:Bool)(d:Nat)(X:Array Value)(l:List Field):
  (forIn l PUnit.unit λf _=>do
    if f.name≠ "_" then Instr.checkKey e d f.type (← part f.type X f.offset)
    pure (ForInStep.yield PUnit.unit):Sem PUnit)=nW e d X l:=by
 induction l with
 | nil=>simp [nW]
 | cons f l ih=>rw [agn];simp only [nW];rw [← ih];by_cases hf:f.name= "_";simp [hf];simp [hf]
theorem AZ {t:TypeId}{a:Array Field}(h:P.underlying t=some (.struct a))(e:Bool)(d:Nat)(X:Array Value)(w:World):
  (Instr.checkKey e (d+1) t (.agg X)).run P w=(nW e d X a.toList).run P w:=by
 simp only [Instr.checkKey,J3,run_underlying h,gM];rw [← ag9,← Nh];generalize (forIn a.toList PUnit.unit _:Sem PUnit)=r;simp;cases r.run P w<;>rfl
theorem Ni:∀(d:Nat) (t:TypeId) (ks:List PK),dL P d t=some ks->∃agg,uL P t=some agg∧V5 P t=some ks.length∧(agg=false->ks.length=1)∧
  ∀D,d<=D->∀(l:List d9),ks.length<=l.length->∀(e:Bool) w,(Instr.checkKey e D t (mkV ι agg l)).run P w=.ok () w:=by
 intro d;induction d with
 | zero=>intro t ks h;simp [dL] at h
 | succ d ih=>
  intro t ks h;obtain⟨agg,k,i,n,_⟩:=Fv (P:=P) (ι:=ι) (d+1) t ks h;refine⟨agg,k,i,n,λD s l v e w=>?_⟩;obtain⟨D,rfl⟩:∃D',D=D'+1:=⟨D-1,by omega⟩;simp only [dL] at h;cases hu:P.underlying t with
  | none=>simp [hu] at h
  | some u=>
   rw [hu] at h;cases u<;>try (simp at h;done)
   exact eu (.inl hu) e D _ w;exact eu (.inr (.inl ⟨_,hu⟩)) e D _ w;exact eu (.inr (.inr hu)) e D _ w;rename_i p;rw [nU hu] at k;cases k;simp only at h;cases hf:mJ (dL P d) p.toList 0 with
   | none=>simp [hf] at h
   | some ks'=>
    simp only [hf] at h;split at h;rename_i x;cases h;simp only [mkV,if_true];rw [AZ hu];have o:∀(j:List Field) (c:Nat) (a:List PK),c+a.length<=l.length->mJ (dL P d) j c=some a->
      (nW e D (o9 ι l).toArray j).run P w=.ok () w:=by
     intro j;induction j with
     | nil=>intro c a _ _;simp [nW]
     | cons f j ihl=>
      intro c a m b;simp only [mJ] at b;split at b;rename_i q;cases hk:dL P d f.type with
      | none=>simp [hk] at b
      | some kf=>
       simp only [hk] at b;cases hrest:mJ (dL P d) j (c+kf.length) with
       | none=>simp [hrest] at b
       | some kr=>
        simp only [hrest,gB] at b;subst b;simp only [Z7] at m;obtain⟨agg,k,i,n,r⟩:=ih f.type kf hk;simp only [nW,if_pos q.1,J3];rw [q.2,sD k i _ _ (λg=>⟨by have:=n g;omega,n g⟩),gM,
         r D (by omega) _ (by simp;omega) e w,gM]
        exact ihl (c+kf.length) kr (by omega) hrest
      cases b
    exact o p.toList 0 _ (by omega) hf;cases h
end
section
variable {P:Program}{G:Mem}{ι:H6}
theorem Fx {t:TypeId}{k:yK}(h:rD P t=some k):Tq P false t=some k∧((∃j,k=.prim j)∨∃ks,k=.flat ks):=by simp only [rD] at h;split at h;cases h;exact⟨by assumption,.inl ⟨_,rfl⟩⟩;cases h;exact⟨by assumption,.inr ⟨_,rfl⟩⟩;cases h
theorem bP (f:El)(k:d9)(i:Nat):findKey f k [] i=some none:=rfl
theorem bQ (f:El)(k:d9)(e:d9×d9)(es:List (d9×d9))(i:Nat):
  findKey f k (e::es) i=ob (f k e.1) λb=>bi b (some (some (i,e.2))) (findKey f k es (i+1)):=rfl
def kW (ι:H6)(r:Option (Nat×d9)):Option (Nat×Value):=r.map λp=>(p.1,l7 ι p.2)
theorem uY {f:El}{d:TypeDesc}(hs:∀x y r,f x y=some r->Instr.sameNow d (l7 ι x) (l7 ι y)=some r)(k:d9):
  ∀(es:List (d9×d9)) (i j:Nat) (r:Option (Nat×d9)),findKey f k es i=some r->Instr.findNow d (l7 ι k) (F6 ι es j) i=some (kW ι r)
 | [],i,j,r,h=>by rw [bP] at h;cases h;rfl
 | e::es,i,j,r,h=>by
  rw [bQ] at h;obtain⟨b,h1,h2⟩:=z8 h;simp only [F6,Instr.findNow,hs _ _ _ h1];cases b with
  | true=>cases h2;rfl
  | false=>exact uY hs k es (i+1) (j+1) r h2
theorem pK {f:El}{t:TypeId}(hs:∀x y r,f x y=some r->∀w,(Op.equal t (l7 ι x) (l7 ι y)).run P w=.ok r w)(k:d9)(w:World):
  ∀(es:List (d9×d9)) (i j:Nat) (r:Option (Nat×d9)),findKey f k es i=some r->(Instr.findAsking t (l7 ι k) (F6 ι es j) i).run P w=.ok (kW ι r) w
 | [],i,j,r,h=>by rw [bP] at h;cases h;simp [F6,Instr.findAsking,kW]
 | e::es,i,j,r,h=>by
  rw [bQ] at h;obtain⟨b,h1,h2⟩:=z8 h;simp only [F6,Instr.findAsking,J3,hs _ _ _ h1 w,gM];cases b with
  | true=>cases h2;simp [kW]
  | false=>simpa using pK hs k w es (i+1) (j+1) r h2
theorem iY {f:El}{n:Nat}{k:d9}{es:List (d9×d9)}{r:Option (Nat×d9)}(h:O5 f n k es=some r):
  k.cells.length=n∧(∃y b,f k y=some b)∧findKey f k es 0=some r:=by
 obtain⟨a,h⟩:=D5 h;have a:=aP a;rw [I4] at a;refine⟨a,?_⟩;cases es with
 | nil=>obtain⟨b,c,d⟩:=z8 (show ob (f k k) (λ_=>some none)=some r from h);exact⟨⟨_,_,c⟩,by rw [bP];exact d⟩
 | cons e es=>have h:findKey f k (e::es) 0=some r:=h;refine⟨?_,h⟩;rw [bQ] at h;obtain⟨b,c,_⟩:=z8 h;exact⟨_,_,c⟩
theorem ug {kk:yK}{t:TypeId}(d:rD P t=some kk):
  (kk=.prim .b∧P.underlying t=some .bool)∨(∃k,kk=.prim .i∧P.underlying t=some (.int k))∨(kk=.prim .s∧P.underlying t=some .string)∨
  ∃fs ks,kk=.flat ks∧P.underlying t=some (.struct fs)∧dL P 10 t=some ks:=by
 obtain⟨a,c⟩:=Fx d;simp only [Tq] at a;cases hu:P.underlying t with
 | none=>simp [hu] at a
 | some u=>
  rw [hu] at a;cases u<;>try (simp at a;done)
  simp only [gB] at a;subst a;simp;simp only [gB] at a;subst a;simp;simp only [gB] at a;subst a;simp;simp only at a;split at a;cases a;rcases c with⟨_,c⟩ | ⟨_,c⟩<;>cases c
  cases a;simp only [gB] at a;subst a;rcases c with⟨_,c⟩ | ⟨_,c⟩<;>cases c
  simp only [gB] at a;subst a;rcases c with⟨_,c⟩ | ⟨_,c⟩<;>cases c
  rename_i fs;simp only at a;cases hf:dL P 10 t with
  | none=>simp [hf] at a
  | some ks=>simp only [hf] at a;split at a;cases a;exact .inr (.inr (.inr ⟨fs,ks,rfl,rfl,rfl⟩));cases a
  simp only [gB] at a;subst a;rcases c with⟨_,c⟩ | ⟨_,c⟩<;>cases c
theorem Bt {kk:yK}{t:TypeId}(f:rD P t=some kk){k y:d9}{b:Bool}(g:k.cells.length=yQ kk)(h:kL kk k y=some b)(e:Bool)(w:World):
  (Instr.checkKey e 10000 t (l7 ι k)).run P w=.ok () w:=by
 rcases ug f with⟨rfl,hu⟩ | ⟨_,rfl,hu⟩ | ⟨rfl,hu⟩ | ⟨fs,ks,rfl,hu,hf⟩;exact eu (.inl hu) e _ _ w;exact eu (.inr (.inl ⟨_,hu⟩)) e _ _ w;exact eu (.inr (.inr hu)) e _ _ w;obtain⟨l,rfl,_⟩:=dh h;obtain⟨c,a,_,_,d⟩:=Ni (P:=P) (ι:=ι) 10 t ks hf;rw [nU hu] at a;cases a;have:=d 10000 (by decide) l (Nat.le_of_eq g.symm) e w;simpa [mkV,l7] using this
theorem QB {kk:yK}{d:TypeDesc}(h:(kk=.prim .b∧d=.bool)∨(∃k,kk=.prim .i∧d=.int k)∨(kk=.prim .s∧d=.string))(x y:d9)(r:Bool)(c:kL kk x y=some r):
  Instr.sameNow d (l7 ι x) (l7 ι y)=some r:=by
 rcases h with⟨rfl,rfl⟩ | ⟨k,rfl,rfl⟩ | ⟨rfl,rfl⟩;obtain⟨a,b,rfl,rfl,rfl⟩:=eX c;simp [l7,Instr.sameNow];obtain⟨k,a,b,rfl,rfl,rfl⟩:=mU c;simp [l7,Instr.sameNow];obtain⟨a,b,rfl,rfl,rfl⟩:=ig c;simp [l7,Instr.sameNow,jT]
theorem jU {kk:yK}{t:TypeId}(f:rD P t=some kk){k:d9}{es:List (d9×d9)}{r:Option (Nat×d9)}(h:findKey (kL kk) k es 0=some r)(w:World):
  (Instr.findKey t (l7 ι k) (F6 ι es 0)).run P w=.ok (kW ι r) w:=by
 have a:∀d,P.underlying t=some d->((kk=.prim .b∧d=.bool)∨(∃k,kk=.prim .i∧d=.int k)∨(kk=.prim .s∧d=.string))->
   (Instr.findKey t (l7 ι k) (F6 ι es 0)).run P w=.ok (kW ι r) w:=by
  intro d c j;simp [Instr.findKey,run_underlying c,uY (QB j) k es 0 0 r h]
 rcases ug f with⟨rfl,c⟩ | ⟨_,rfl,c⟩ | ⟨rfl,c⟩ | ⟨fs,ks,rfl,c,hf⟩;exact a _ c (.inl ⟨rfl,rfl⟩);exact a _ c (.inr (.inl ⟨_,rfl,rfl⟩));exact a _ c (.inr (.inr ⟨rfl,rfl⟩));have g:=pK (P:=P) (ι:=ι) (t:=t) (λx y r l w=>Aa (Fx f).1 l w) k w es 0 0 r h;cases es with
 | nil=>rw [bP] at h;cases h;simp [Instr.findKey,run_underlying c,F6,Instr.findNow,kW]
 | cons e es=>simp only [Instr.findKey,J3,run_underlying c,gM];simp only [F6,Instr.findNow,Instr.sameNow];exact g
theorem jJ {f:El}{k:d9}:∀{es:List (d9×d9)} {i:Nat} {p:Nat×d9},findKey f k es i=some (some p)->
  ∃j e,p.1=i+j∧es[j]?=some e∧e.2=p.2∧f k e.1=some true
 | [],i,p,h=>by rw [bP] at h;cases h
 | e::es,i,p,h=>by
  rw [bQ] at h;obtain⟨b,h1,h2⟩:=z8 h;cases b with
  | true=>cases h2;exact⟨0,e,rfl,rfl,rfl,h1⟩
  | false=>obtain⟨j,e',h3,h4,h5⟩:=jJ h2;exact⟨j+1,e',by omega,by simpa using h4,h5⟩
end
section
variable {P:Program}{G:Mem}{slots:List Nat}{done:List (Option Nat)}
inductive oM (P:Program)(slots:List Nat)(done:List (Option Nat)):Op->MO->Prop
 | load {t x sz x'}:partT P t=some sz->J7 P slots done x=some x'->oM P slots done (.load t x) (.load sz x')
 | look {t kt e kk z ok x k x' k'}:P.underlying t=some (.map kt e)->rD P kt=some kk->zeroV P e=some z->J7 P slots done x=some x'->J7 P slots done k=some k'->
   oM P slots done (.lookup t x k ok) (.look kk z ok x' k')
 | lenM {c t kt e x x'}:c.callee=.builtin .len->c.argTypes.toList=[t]->c.args.toList=[x]->P.underlying t=some (.map kt e)->J7 P slots done x=some x'->
   oM P slots done (.call c) (.lenM x')
 | slData {c t e x x'}:c.callee=.builtin .unsafeSliceData->c.argTypes.toList=[t]->c.args.toList=[x]->P.underlying t=some (.slice e)->J7 P slots done x=some x'->oM P slots done (.call c) (.slData x')
 | toUns {a b t x x' k}:P.underlying a=some (.pointer t)->P.underlying b=some .unsafePointer->V5 P t=some k->k≠0->J7 P slots done x=some x'->oM P slots done (.convert a b x) (.toUns x')
 | fromUns {a b u x x' k}:P.underlying a=some .unsafePointer->P.underlying b=some (.pointer u)->V5 P u=some k->k≠0->J7 P slots done x=some x'->oM P slots done (.convert a b x) (.fromUns (JR P u) x')
 | bytesStr {a b e x x'}:P.underlying a=some (.slice e)->P.underlying b=some .string->P.underlying e=some (.int .u8)->J7 P slots done x=some x'->
   oM P slots done (.convert a b x) (.bytesStr x')
 | entry {x x'}:J7 P slots done x=some x'->oM P slots done (.entry x) (.entry x')
set_option maxHeartbeats 1000000 in
theorem sJ {n:Op}{ro:MO}(h:dY P slots done n=some (.r ro)):oM P slots done n ro:=by
 cases n with
 | load t x=>obtain⟨B,g,h⟩:=bind_eq h;obtain⟨i,d,h⟩:=bind_eq h;cases h;exact .load g d
 | lookup t x k ok=>obtain⟨u,e,h⟩:=bind_eq h;split at h;obtain⟨A,g,h⟩:=bind_eq h;obtain⟨z,d,h⟩:=bind_eq h;obtain⟨i,p,h⟩:=bind_eq h;obtain⟨y,q,h⟩:=bind_eq h;cases h;exact .look e g d p q;cases h
 | entry x=>obtain⟨i,d,h⟩:=bind_eq h;cases h;exact .entry d
 | convert a b x=>obtain⟨u,e,h⟩:=bind_eq h;obtain⟨v,l,h⟩:=bind_eq h;split at h;obtain⟨_,_,h⟩:=bind_eq h;cases h;obtain⟨_,_,h⟩:=bind_eq h;split at h;obtain⟨_,_,h⟩:=bind_eq h;cases h;cases h;obtain⟨w,s,h⟩:=bind_eq h;split at h;obtain⟨i,f,h⟩:=bind_eq h;cases h;exact .bytesStr e l s f;cases h;obtain⟨k,j,h⟩:=bind_eq h;split at h;cases h;obtain⟨i,f,h⟩:=bind_eq h;cases h;exact .toUns e l j (by assumption) f;obtain⟨k,j,h⟩:=bind_eq h;split at h;cases h;obtain⟨i,f,h⟩:=bind_eq h;cases h;exact .fromUns e l j (by assumption) f;cases h
 | call c=>
  simp only [dY] at h;split at h
  ·rename_i b o;simp only [rW] at h;split at h;rename_i g d;obtain⟨u,e,h⟩:=bind_eq h;split at h;obtain⟨_,_,h⟩:=bind_eq h;cases h;obtain⟨_,_,h⟩:=bind_eq h;cases h;cases h;obtain⟨i,f,h⟩:=bind_eq h;cases h;exact .lenM o g d e f;cases h
   case h_9 g d=>obtain⟨u,e,h⟩:=bind_eq h;split at h;obtain⟨i,f,h⟩:=bind_eq h;cases h;exact .slData o g d e f;cases h
   all_goals (repeat' (first | (cases h;done) | (obtain⟨_,_,h⟩:=bind_eq h) | split at h))
  ·obtain⟨_,_,h⟩:=bind_eq h;repeat' (first | (cases h;done) | (obtain⟨_,_,h⟩:=bind_eq h) | split at h)
  obtain⟨_,_,h⟩:=bind_eq h;obtain⟨_,_,h⟩:=bind_eq h;cases h;cases h
 | build t parts=>simp only [dY,vS] at h;repeat' (first | (cases h;done) | split at h)
 | slice t x lo hi mx=>
  cases mx with
  | some m=>simp only [dY] at h;cases h
  | none=>simp only [dY] at h;repeat' (first | (cases h;done) | (obtain⟨_,_,h⟩:=bind_eq h) | split at h)
 | next it str=>
  cases str with
  | true=>simp only [dY] at h;obtain⟨_,_,h⟩:=bind_eq h;cases h
  | false=>simp only [dY] at h;obtain⟨_,_,h⟩:=bind_eq h;cases h
 | _=>simp only [dY] at h;repeat' (first | (cases h;done) | (obtain⟨_,_,h⟩:=bind_eq h) | split at h)
inductive kQ (P:Program)(slots:List Nat)(done:List (Option Nat)):Op->Qp->Prop
 | alloc {t z}:pE P t=some z->kQ P slots done (.alloc t) (.alloc z)
 | box {t x x'}:J7 P slots done x=some x'->kQ P slots done (.box t x) (.box x')
 | allocT {t z}:AX P t=some z->kQ P slots done (.alloc t) (.allocT t z)
 | boxT {t k x x'}:V5 P t=some k->J7 P slots done x=some x'->kQ P slots done (.box t x) (.boxT t k x')
 | buildSlice {t len parts e es ps z}:P.underlying t=some (.slice e)->V5 P e=some es->rV P slots done (λi=>some (i*es,es)) parts.toList=some ps->len*es<=16777216->
   pE P e=some z->kQ P slots done (.buildSlice t len parts) (.buildSlice es len z ps)
 | mkMap {t}:kQ P slots done (.makeMap t none) .mkMap
 | mkMapN {t k n kt e}:P.underlying t=some (.map kt e)->kQ P slots done (.makeMap t (some (.const (.int k n)))) .mkMap
 | mkSlice {t l c e es by' z l' c'}:P.underlying t=some (.slice e)->V5 P e=some es->dV P e=some by'->AX P e=some z->J7 P slots done l=some l'->J7 P slots done c=some c'->
   kQ P slots done (.makeSlice t l c) (.mkSlice es by' z l' c')
 | strBytes {a b e x x'}:P.underlying a=some .string->P.underlying b=some (.slice e)->P.underlying e=some (.int .u8)->J7 P slots done x=some x'->
   kQ P slots done (.convert a b x) (.strBytes x')
 | sl {t x lo hi e es x' lo' hi'}:P.underlying t=some (.slice e)->V5 P e=some es->J7 P slots done x=some x'->cOpt P slots done lo=some lo'->cOpt P slots done hi=some hi'->
   kQ P slots done (.slice t x lo hi none) (.sl es x' lo' hi')
set_option maxHeartbeats 1000000 in
theorem xG {n:Op}{lo:Qp}(h:dY P slots done n=some (.a lo)):kQ P slots done n lo:=by
 cases n with
 | alloc t=>simp only [dY] at h;split at h;obtain⟨z,d,h⟩:=bind_eq h;cases h;exact .allocT d;obtain⟨z,d,h⟩:=bind_eq h;cases h;exact .alloc d
 | box t x=>simp only [dY] at h;split at h;obtain⟨k,d,h⟩:=bind_eq h;obtain⟨z,f,h⟩:=bind_eq h;cases h;exact .boxT d f;obtain⟨z,d,h⟩:=bind_eq h;cases h;exact .box d
 | buildSlice t len parts=>obtain⟨u,e,h⟩:=bind_eq h;split at h;obtain⟨y,d,h⟩:=bind_eq h;obtain⟨A,f,h⟩:=bind_eq h;split at h;rename_i j;obtain⟨z,g,h⟩:=bind_eq h;cases h;exact .buildSlice e d f j g;cases h;cases h
 | makeMap t r=>simp only [dY] at h;split at h;cases h;exact .mkMap;split at h;rename_i e;cases h;exact .mkMapN e;cases h;cases h
 | makeSlice t l c=>obtain⟨u,e,h⟩:=bind_eq h;split at h;obtain⟨_,d,h⟩:=bind_eq h;obtain⟨_,f,h⟩:=bind_eq h;obtain⟨_,g,h⟩:=bind_eq h;obtain⟨_,i,h⟩:=bind_eq h;obtain⟨_,q,h⟩:=bind_eq h;cases h;exact .mkSlice e d f g i q;cases h
 | convert a b x=>obtain⟨u,e,h⟩:=bind_eq h;obtain⟨v,s,h⟩:=bind_eq h;split at h;obtain⟨_,_,h⟩:=bind_eq h;cases h;obtain⟨w,o,h⟩:=bind_eq h;split at h;obtain⟨_,p,h⟩:=bind_eq h;cases h;exact .strBytes e s o p;cases h;obtain⟨w,o,h⟩:=bind_eq h;split at h;obtain⟨B,p,h⟩:=bind_eq h;cases h;cases h;all_goals (repeat' (first | (cases h;done) | (obtain⟨_,_,h⟩:=bind_eq h) | split at h))
 | slice t x lo hi mx=>
  cases mx with
  | some m=>simp only [dY] at h;cases h
  | none=>simp only [dY] at h;obtain⟨u,e,h⟩:=bind_eq h;split at h;obtain⟨_,_,h⟩:=bind_eq h;obtain⟨_,_,h⟩:=bind_eq h;obtain⟨_,_,h⟩:=bind_eq h;cases h;obtain⟨_,d,h⟩:=bind_eq h;obtain⟨_,f,h⟩:=bind_eq h;obtain⟨_,g,h⟩:=bind_eq h;obtain⟨_,i,h⟩:=bind_eq h;cases h;exact .sl e d f g i;obtain⟨_,_,h⟩:=bind_eq h;obtain⟨_,_,h⟩:=bind_eq h;obtain⟨_,_,h⟩:=bind_eq h;obtain⟨_,_,h⟩:=bind_eq h;cases h;cases h
 | call c=>
  simp only [dY] at h;split at h
  ·simp only [rW] at h;split at h;all_goals (repeat' (first | (cases h;done) | (obtain⟨_,_,h⟩:=bind_eq h) | split at h))
  ·obtain⟨_,_,h⟩:=bind_eq h;repeat' (first | (cases h;done) | (obtain⟨_,_,h⟩:=bind_eq h) | split at h)
  obtain⟨_,_,h⟩:=bind_eq h;obtain⟨_,_,h⟩:=bind_eq h;cases h;cases h
 | build t parts=>simp only [dY,vS] at h;repeat' (first | (cases h;done) | split at h)
 | next it str=>
  cases str with
  | true=>simp only [dY] at h;obtain⟨_,_,h⟩:=bind_eq h;cases h
  | false=>simp only [dY] at h;obtain⟨_,_,h⟩:=bind_eq h;cases h
 | _=>simp only [dY] at h;repeat' (first | (cases h;done) | (obtain⟨_,_,h⟩:=bind_eq h) | split at h)
inductive jy (P:Program)(slots:List Nat)(done:List (Option Nat)):Op->Sq->Prop
 | store {t a x k a' x'}:V5 P t=some k->J7 P slots done a=some a'->J7 P slots done x=some x'->jy P slots done (.store t a x) (.store k a' x')
 | mapUpdate {t m k x kt e kk m' k' x'}:P.underlying t=some (.map kt e)->rD P kt=some kk->J7 P slots done m=some m'->J7 P slots done k=some k'->J7 P slots done x=some x'->
   jy P slots done (.mapUpdate t m k x) (.mapSet kk m' k' x')
 | insert {t m k x kt e kk m' k' x'}:P.underlying t=some (.map kt e)->rD P kt=some kk->J7 P slots done m=some m'->J7 P slots done k=some k'->J7 P slots done x=some x'->
   jy P slots done (.insert t m k x) (.mapSet kk m' k' x')
 | range {t x k e x'}:P.underlying t=some (.map k e)->J7 P slots done x=some x'->jy P slots done (.range t x) (.range x')
 | next {x x'}:J7 P slots done x=some x'->jy P slots done (.next x false) (.next x')
 | app {c t u s x e es z by' s' x' d}:P.underlying u=some d->c.callee=.builtin .append->c.argTypes.toList=[t,u]->c.args.toList=[s,x]->P.underlying t=some (.slice e)->
   V5 P e=some es->AX P e=some z->dV P e=some by'->J7 P slots done s=some s'->J7 P slots done x=some x'->
   jy P slots done (.call c) (.app es (match d with | .int _=>true | _=>false) z by' s' x')
 | copy {c t u d s e es d' s'}:c.callee=.builtin .copy->c.argTypes.toList=[t,u]->c.args.toList=[d,s]->P.underlying t=some (.slice e)->
   V5 P e=some es->J7 P slots done d=some d'->J7 P slots done s=some s'->jy P slots done (.call c) (.copy es d' s')
 | clear {c t x e z x'}:c.callee=.builtin .clear->c.argTypes.toList=[t]->c.args.toList=[x]->P.underlying t=some (.slice e)->
   pE P e=some z->J7 P slots done x=some x'->jy P slots done (.call c) (.clear z x')
 | call {c f fn as}:c.callee=.value (.func f)->P.funcs[f]?=some fn->fn.body.isSome=true->fn.name≠ "runtime.NumGoroutine"->iE P slots done c.args.toList=some as->
   jy P slots done (.call c) (.call f as)
 | rangeS {t x x'}:P.underlying t=some .string->J7 P slots done x=some x'->jy P slots done (.range t x) (.rangeS x')
 | nextS {x x'}:J7 P slots done x=some x'->jy P slots done (.next x true) (.nextS x')
 | appB {c t u s x e s' x'}:P.underlying u=some .string->c.callee=.builtin .append->c.argTypes.toList=[t,u]->c.args.toList=[s,x]->P.underlying t=some (.slice e)->zX P e=true->
   J7 P slots done s=some s'->J7 P slots done x=some x'->jy P slots done (.call c) (.appB e s' x')
 | ustr {c t u p n e p' n'}:c.callee=.builtin .unsafeString->c.argTypes.toList=[t,u]->c.args.toList=[p,n]->P.underlying t=some (.pointer e)->zX P e=true->
   J7 P slots done p=some p'->J7 P slots done n=some n'->jy P slots done (.call c) (.ustr e p' n')
 | panic {x x'}:J7 P slots done x=some x'->jy P slots done (.panic x) (.panic x')
 | defer {c f f' as}:c.callee=.value f->J7 P slots done f=some f'->iE P slots done c.args.toList=some as->jy P slots done (.defer c) (.defer f' as)
 | recover {c}:c.callee=.builtin .recover->jy P slots done (.call c) .recover
 | callv {c f f' as}:c.callee=.value f->J7 P slots done f=some f'->iE P slots done c.args.toList=some as->
   jy P slots done (.call c) (.callv f' as)
set_option maxHeartbeats 1000000 in
theorem xH {y:Op}{eo:Sq}(h:dY P slots done y=some (.e eo)):jy P slots done y eo:=by
 cases y with
 | store t a x=>obtain⟨_,g,h⟩:=bind_eq h;obtain⟨_,i,h⟩:=bind_eq h;obtain⟨_,l,h⟩:=bind_eq h;cases h;exact .store g i l
 | mapUpdate t m k x=>obtain⟨u,j,h⟩:=bind_eq h;split at h;obtain⟨_,g,h⟩:=bind_eq h;obtain⟨_,i,h⟩:=bind_eq h;obtain⟨_,l,h⟩:=bind_eq h;obtain⟨_,n,h⟩:=bind_eq h;cases h;exact .mapUpdate j g i l n;cases h
 | insert t m k x=>obtain⟨u,j,h⟩:=bind_eq h;split at h;obtain⟨_,g,h⟩:=bind_eq h;obtain⟨_,i,h⟩:=bind_eq h;obtain⟨_,l,h⟩:=bind_eq h;obtain⟨_,n,h⟩:=bind_eq h;cases h;exact .insert j g i l n;cases h
 | range t x=>obtain⟨u,j,h⟩:=bind_eq h;split at h;obtain⟨_,g,h⟩:=bind_eq h;cases h;exact .range j g;obtain⟨_,g,h⟩:=bind_eq h;cases h;exact .rangeS j g;cases h
 | next it str=>
  cases str with
  | true=>simp only [dY] at h;obtain⟨_,g,h⟩:=bind_eq h;cases h;exact .nextS g
  | false=>simp only [dY] at h;obtain⟨_,g,h⟩:=bind_eq h;cases h;exact .next g
 | panic x=>obtain⟨_,g,h⟩:=bind_eq h;cases h;exact .panic g
 | defer c=>simp only [dY] at h;split at h;obtain⟨_,g,h⟩:=bind_eq h;obtain⟨_,i,h⟩:=bind_eq h;cases h;exact .defer (by assumption) g i;cases h
 | convert a b x=>obtain⟨u,j,h⟩:=bind_eq h;obtain⟨v,D,h⟩:=bind_eq h;repeat' (first | (cases h;done) | (obtain⟨_,_,h⟩:=bind_eq h) | split at h)
 | slice t x lo hi mx=>
  cases mx with
  | some m=>simp only [dY] at h;cases h
  | none=>simp only [dY] at h;repeat' (first | (cases h;done) | (obtain⟨_,_,h⟩:=bind_eq h) | split at h)
 | call c=>
  simp only [dY] at h;split at h
  ·rename_i b p;simp only [rW] at h;split at h
   ·repeat' (first | (cases h;done) | (obtain⟨_,_,h⟩:=bind_eq h) | split at h)
   ·repeat' (first | (cases h;done) | (obtain⟨_,_,h⟩:=bind_eq h) | split at h)
   rename_i g i;obtain⟨u,j,h⟩:=bind_eq h;split at h;obtain⟨d,z,h⟩:=bind_eq h;split at h;rename_i o;obtain⟨_,r,h⟩:=bind_eq h;obtain⟨_,s,h⟩:=bind_eq h;cases h;rw [gI] at o;have:d=.string:=by have:=o.1;cases d<;>first | rfl | cases this
   exact .appB (by rw [z,this]) p g i j o.2 r s;obtain⟨_,l,h⟩:=bind_eq h;obtain⟨_,n,h⟩:=bind_eq h;obtain⟨_,q,h⟩:=bind_eq h;obtain⟨_,r,h⟩:=bind_eq h;obtain⟨_,s,h⟩:=bind_eq h;cases h;exact .app z p g i j l n q r s;cases h;rename_i g i;obtain⟨u,j,h⟩:=bind_eq h;split at h;obtain⟨_,l,h⟩:=bind_eq h;obtain⟨_,n,h⟩:=bind_eq h;obtain⟨_,q,h⟩:=bind_eq h;cases h;exact .copy p g i j l n q;cases h;rename_i g i;obtain⟨u,j,h⟩:=bind_eq h;split at h;obtain⟨_,l,h⟩:=bind_eq h;obtain⟨_,n,h⟩:=bind_eq h;cases h;exact .clear p g i j l n;cases h
   case h_10 g i=>obtain⟨u,j,h⟩:=bind_eq h;split at h;split at h;rename_i o;obtain⟨_,l,h⟩:=bind_eq h;obtain⟨_,n,h⟩:=bind_eq h;cases h;exact .ustr p g i j o l n;cases h;cases h
   all_goals (first | (cases h;exact .recover p;done) | (repeat' (first | (cases h;done) | (obtain⟨_,_,h⟩:=bind_eq h) | split at h)))
  ·rename_i f A;obtain⟨C,g,h⟩:=bind_eq h;split at h;rename_i w;obtain⟨B,i,h⟩:=bind_eq h;cases h;simp only [gI,bne_iff_ne,ne_eq] at w;exact .call A g w.1 w.2 i
   ·repeat' (first | (cases h;done) | (obtain⟨_,_,h⟩:=bind_eq h) | split at h)
  rename_i f A _;obtain⟨_,g,h⟩:=bind_eq h;obtain⟨_,i,h⟩:=bind_eq h;cases h;exact .callv (by assumption) g i;cases h
 | build t parts=>simp only [dY,vS] at h;repeat' (first | (cases h;done) | split at h)
 | _=>simp only [dY] at h;repeat' (first | (cases h;done) | (obtain⟨_,_,h⟩:=bind_eq h) | split at h)
end
section
variable {P:Program}{G:Mem}{ι:H6}{m:Mem}{w:World}{slots:List Nat}{done:List (Option Nat)}{ls:List d9}{env:T d9}{a:Act}
def OJ (P:Program)(ρ:Operand->Value)(op:Op)(v:Value)(w:World):Prop:=
 ∀(o:Oper),o.op=op->(execOp ρ o).run P w=.ok (.value v) w
theorem dN {r:Nat}{o:Obj}(h:w.heap[r]?=some o)(a:∀c e fz,o≠.cells c e fz):(getObj r).run P w=.ok o w:=by simp only [getObj,Sem.run,h]
theorem Ia (f:RM P G ι m w.heap){id:Nat}{es:List (d9×d9)}(d:m.get id=some (.map es)):
  (getObj (ι id).b).run P w=.ok (.map (F6 ι es 0).toArray es.length) w∧∀e∈es,e.1.lt (m.nm ι)∧e.2.lt (m.nm ι):=by
 obtain⟨a,c⟩:=f.blk id _ d;exact⟨dN a (by intro _ _ _ e;cases e),c⟩
def sK (ι:H6)(ok:Bool)(z:d9)(r:Option (Nat×d9)):Value:=match r with
 | some p=>if ok then .tuple #[l7 ι p.2,.bool true] else l7 ι p.2
 | none=>if ok then .tuple #[l7 ι z,.bool false] else l7 ι z
theorem Ac {ok:Bool}{z v:d9}{r:Option (Nat×d9)}(h:found ok z r=some v){n:Nm}(b:z.lt n)(a:∀p,r=some p->p.2.lt n):
  v.lt n∧l7 ι v=sK ι ok z r:=by
 cases r with
 | none=>have h:some (bi ok (.tuple [z,.bool false]) z)=some v:=h;cases h;cases ok<;>simp [bi,d9.lt,X0,l7,o9,b,sK]
 | some p=>have h:some (bi ok (.tuple [p.2,.bool true]) p.2)=some v:=h;cases h;have:=a p rfl;cases ok<;>simp [bi,d9.lt,X0,l7,o9,this,sK]
theorem xI (w:World){t f e:TypeId}{kk:yK}{z:d9}(o:P.underlying t=some (.map f e))(m:rD P f=some kk)(I:zeroV P e=some z){ok:Bool}{k v:d9}
  {es:List (d9×d9)} {r:Option (Nat×d9)} {n:Nm} (h:∀e∈es,e.1.lt n∧e.2.lt n) (E:O5 (kL kk) (yQ kk) k es=some r) (G:found ok z r=some v):
  v.lt n∧∀x,(x=.map none∧es=[])∨(∃b,x=.map (some b)∧∀w',w'=w->(getObj b).run P w'=.ok (.map (F6 ι es 0).toArray es.length) w')->
   (Instr.lookup t x (l7 ι k) ok).run P w=.ok (l7 ι v) w:=by
 obtain⟨A,⟨y,b,B⟩,d⟩:=iY E;obtain⟨c,i⟩:=lZ (w:=w) I ι;obtain⟨u,g⟩:=Ac (ι:=ι) G (i n) (λp F=>by
  subst F;obtain⟨j,s,_,C,D,_⟩:=jJ d;rw [← D];exact (h s (U9 C)).2)
 refine⟨u,λx H=>?_⟩;have l:=λq=>Bt (ι:=ι) m A B q w;have a:=jU (ι:=ι) m d w;rcases H with⟨rfl,rfl⟩ | ⟨b,rfl,hb⟩;simp only [Instr.lookup,J3,run_underlying o,gM,Y2,l];rw [show Instr.findKey f (l7 ι k) []=Instr.findKey f (l7 ι k) (F6 ι [] 0) from rfl,a];simp only [gM];rw [bP] at d;cases d;simp [kW,c,g,sK];simp only [Instr.lookup,J3,run_underlying o,gM,hb w rfl,Y2,l];rw [a];simp only [gM];cases r with
 | none=>simp [kW,c,g,sK]
 | some p=>simp [kW,g,sK]
theorem Bv {β:Type}{b:Option N7}{k:List (d9×d9)->Option β}{r:β}(h:GK b k=some r):∃es,(b=some (.map es)∨b=some (.mapU es))∧k es=some r:=by
 match b,h with
 | some (.map es),h=>exact⟨es,.inl rfl,h⟩
 | some (.mapU es),h=>exact⟨es,.inr rfl,h⟩
def rF (x:MapEntry):Value×Value:=(x.key,x.val)
theorem Cr (d:TypeDesc)(k:Value):∀(L M:List MapEntry) (i:Nat),L.map rF=M.map rF->Instr.findNow d k L i=Instr.findNow d k M i
 | [],[],_,_=>rfl
 | [],_ :: _,_,h=>by cases h
 | _ :: _,[],_,h=>by cases h
 | x::L,y::M,i,h=>by simp only [Y6,aeG,rF,ahN] at h;obtain⟨⟨h1,h2⟩,h3⟩:=h;simp only [Instr.findNow,h1,h2,Cr d k L M (i+1) h3]
theorem uZ (t:TypeId)(k:Value):∀(L M:List MapEntry) (i:Nat),L.map rF=M.map rF->Instr.findAsking t k L i=Instr.findAsking t k M i
 | [],[],_,_=>rfl
 | [],_ :: _,_,h=>by cases h
 | _ :: _,[],_,h=>by cases h
 | x::L,y::M,i,h=>by simp only [Y6,aeG,rF,ahN] at h;obtain⟨⟨h1,h2⟩,h3⟩:=h;simp only [Instr.findAsking,h1,h2,uZ t k L M (i+1) h3]
theorem Ct (t:TypeId)(k:Value){L M:List MapEntry}(h:L.map rF=M.map rF):Instr.findKey t k L=Instr.findKey t k M:=by unfold Instr.findKey;congr 1;funext d;rw [Cr d k L M 0 h,uZ t k L M 0 h]
theorem Ad {α β:Type}(f:α->β):∀{l:List β} {es:List α},l.Perm (es.map f)->∃es':List α,es'.Perm es∧l=es'.map f:=by
 intro l es h;generalize hm:es.map f=m at h;induction h generalizing es with
 | nil=>exact⟨[],by simp at hm;subst hm;exact .nil,rfl⟩
 | cons x h ih=>
  cases es with
  | nil=>cases hm
  | cons e es=>simp only [Y6,aeG] at hm;obtain⟨es',d,g⟩:=ih hm.2;exact⟨e::es',d.cons e,by rw [g,← hm.1];rfl⟩
 | swap x y l=>
  match es,hm with
  | a::b::es,hm=>simp only [Y6,aeG] at hm;exact⟨b::a::es,.swap _ _ _,by rw [← hm.1,← hm.2.1,← hm.2.2];rfl⟩
  | [],hm=>cases hm
  | [_],hm=>simp at hm
 | trans d g ih1 ih2=>obtain⟨i,j,n⟩:=ih2 hm;obtain⟨c,k,o⟩:=ih1 n.symm;exact⟨c,k.trans j,o⟩
theorem vX (ι:H6):∀(es:List (d9×d9)) (i:Nat),(F6 ι es i).map rF=es.map λe=>(l7 ι e.1,l7 ι e.2)
 | [],_=>rfl
 | e::es,i=>by simp [F6,rF,vX ι es]
theorem vY {s:List UInt8}:∀(es:List (d9×d9)) (i:Nat),(∀e∈es,∃t,e.1=.str t)->(∀e∈es,e.1≠.str s)->findKey eqStr (.str s) es i=some none
 | [],_,_,_=>rfl
 | e::es,i,h1,h2=>by obtain⟨t,ht⟩:=h1 e (by simp);have hne:s≠t:=λh=>h2 e (by simp) (by rw [ht,h]);rw [bQ,ht];show ob (some (strEq s t)) _=_;rw [eU,beq_eq_false_iff_ne.2 hne];exact vY es (i+1) (λx hx=>h1 x (by simp [hx])) (λx hx=>h2 x (by simp [hx]))
theorem nX {s:List UInt8}{v:d9}:∀(es:List (d9×d9)) (i:Nat),(∀e∈es,∃t,e.1=.str t)->(es.map (·.1)).Nodup->(.str s,v)∈es->∃j,findKey eqStr (.str s) es i=some (some (i+j,v))∧es[j]?=some (.str s,v)
 | [],_,_,_,h=>by cases h
 | e::es,i,h1,h2,h3=>by
  obtain⟨t,ht⟩:=h1 e (by simp);rw [bQ,ht];have hq:∀k:Bool->Option (Option (Nat×d9)),ob (eqStr (.str s) (.str t)) k=k (s==t):=λk=>by show k (strEq s t)=_;rw [eU]
  rw [hq];simp only [Y6,aew] at h2;rcases X4.1 h3 with h3 | h3;have:s=t:=by rw [← h3] at ht;simpa using ht
  subst this;refine⟨0,?_,by rw [← h3];rfl⟩;rw [beq_self_eq_true,← h3];rfl;have hne:s≠t:=λh=>h2.1 (by rw [ht,← h];exact ac4.2 ⟨_,h3,rfl⟩);rw [beq_eq_false_iff_ne.2 hne];obtain⟨j,q1,q2⟩:=nX es (i+1) (λx hx=>h1 x (by simp [hx])) h2.2 h3;exact⟨j+1,by rw [show i+(j+1)=i+1+j from by omega];exact q1,q2⟩
theorem OL {kk:yK}{t:TypeId}(c:rD P t=some kk){k:d9}{s:List UInt8}{b:Bool}(h:kL kk k (.str s)=some b):kk=.prim .s∧∃u,k=.str u:=by rcases ug c with⟨rfl,_⟩ | ⟨_,rfl,_⟩ | ⟨rfl,_⟩ | ⟨fs,ks,rfl,_,_⟩;obtain⟨_,_,_,h,_⟩:=eX h;cases h;obtain⟨_,_,_,_,h,_⟩:=mU h;cases h;obtain⟨a,_,h,_⟩:=ig h;exact⟨rfl,a,h⟩;obtain⟨_,_,h⟩:=dh h;obtain⟨_,h,_⟩:=dh h;cases h
theorem ZY {kk:yK}{t:TypeId}(A:rD P t=some kk){k:d9}{es a:List (d9×d9)}(hp:a.Perm es)(i:∀e∈es,∃s,e.1=.str s)(w:(es.map (·.1)).Nodup){r:Option (Nat×d9)}(z:O5 (kL kk) (yQ kk) k es=some r):
  ∃r',findKey (kL kk) k a 0=some r'∧r'.map (·.2)=r.map (·.2):=by
 obtain⟨_,_,c⟩:=iY z;cases es with
 | nil=>rw [List.Perm.eq_nil hp];rw [bP] at c;cases c;exact⟨none,bP ..,rfl⟩
 | cons e es=>
  obtain⟨C,o⟩:=i e (by simp);have:∃b,kL kk k (.str C)=some b:=by rw [bQ,o] at c;obtain⟨b,n,_⟩:=z8 c;exact⟨b,n⟩
  obtain⟨b,n⟩:=this;obtain⟨rfl,u,rfl⟩:=OL A n;have f:∀x∈a,∃s,x.1=.str s:=λx d=>i x (hp.mem_iff.1 d);have m:(a.map (·.1)).Nodup:=(hp.map _).nodup_iff.2 w;have c:findKey eqStr (.str u) (e::es) 0=some r:=c;by_cases hin:∃v,(d9.str u,v)∈e::es;obtain⟨v,y⟩:=hin;obtain⟨j,p,_⟩:=nX (e::es) 0 i w y;obtain⟨D,q,_⟩:=nX a 0 f m (hp.mem_iff.2 y);rw [p] at c;cases c;exact⟨_,q,rfl⟩;have g:∀(l:List (d9×d9)),(∀x∈l,x∈e::es)->∀x∈l,x.1≠.str u:=λl B x d h=>hin ⟨x.2,by rw [← h];exact B x d⟩;have p:=vY (e::es) 0 i (g _ λx d=>d);have q:=vY a 0 f (g _ λx d=>hp.mem_iff.1 d);rw [p] at c;cases c;exact⟨none,q,rfl⟩
theorem QC {ok:Bool}{z:d9}{r a:Option (Nat×d9)}(h:a.map (·.2)=r.map (·.2)):found ok z a=found ok z r:=by
 cases r<;>cases a<;>simp at h
 rfl;rename_i p q;show some (bi ok (d9.tuple [q.2,.bool true]) q.2)=some (bi ok (d9.tuple [p.2,.bool true]) p.2);rw [h]
theorem EK (w:World){t l e:TypeId}{kk:yK}{z:d9}(M:P.underlying t=some (.map l e))(f:rD P l=some kk)(N:zeroV P e=some z){ok:Bool}{k v:d9}
  {es:List (d9×d9)} {r:Option (Nat×d9)} {n:Nm} (d:∀e∈es,e.1.lt n∧e.2.lt n) (q:O5 (kL kk) (yQ kk) k es=some r) (s:found ok z r=some v)
  {L:List MapEntry} {A b:Nat} (H:UOk ι es L) (hb:(getObj b).run P w=.ok (.map L.toArray A) w):
  v.lt n∧(Instr.lookup t (.map (some b)) (l7 ι k) ok).run P w=.ok (l7 ι v) w:=by
 obtain⟨D,⟨y,m,E⟩,S⟩:=iY q;obtain⟨g,K,J⟩:=H;obtain⟨c,u,O⟩:=Ad _ g;obtain⟨R,x,Q⟩:=ZY f u K J q;obtain⟨h,i⟩:=lZ (w:=w) N ι;rw [← QC Q] at s;obtain⟨C,o⟩:=Ac (ι:=ι) s (i n) (λp g=>by
  subst g;obtain⟨j,B,_,F,G,_⟩:=jJ x;rw [← G];exact (d B (u.mem_iff.1 (U9 F))).2)
 refine⟨C,?_⟩;have I:=λm=>Bt (ι:=ι) f D E m w;have a:=jU (ι:=ι) f x w;rw [Ct l (l7 ι k) (show (F6 ι c 0).map rF=L.map rF from by rw [vX];exact O.symm)] at a;simp only [Instr.lookup,J3,run_underlying M,gM,hb,Y2,I];rw [a];simp only [gM];cases R with
 | none=>simp [kW,h,o,sK]
 | some p=>simp [kW,o,sK]
theorem Ba (ts:Array TypeId)(a:TypeId)(l c:Nat)(w:World):(Builtin.unsafeSliceData_ ts a #[.slice none l c]).run P w=.ok (.pointer none) w:=rfl
theorem Cu {ts:Array TypeId}{b:TypeId}{a:Addr}{l c:Nat}(h:c≠0)(w:World):(Builtin.unsafeSliceData_ ts b #[.slice (some a) l c]).run P w=.ok (.pointer (some a)) w:=by have e:Builtin.unsafeSliceData_ ts b #[.slice (some a) l c]=(if c≠0 then pure (.pointer (some a)) else do if (← viewAt a.block).isSome then pure (.pointer (some a)) else pure (.pointer (some ⟨← newObj (.view a (← elemOf b)),0,none⟩))):=rfl;rw [e,if_pos h];rfl
theorem xJ:∀(l:List d9) (s:List UInt8),byteOf l=some s->∀(acc:ByteArray) (w:World),
  (forIn (o9 ι l) acc (λc (r:ByteArray)=>match c with
   | .int .u8 n=>pure (ForInStep.yield (r.push (UInt8.ofNat n.toNat)))
   | _=>do stuck "bytesToString: byte expected";pure (ForInStep.yield r)):Sem ByteArray).run P w=.ok ⟨acc.data++s.toArray⟩ w
 | [],s,h,acc,w=>by simp [byteOf] at h;subst h;simp [o9]
 | v::l,s,h,acc,w=>by
  cases v<;>try (simp [byteOf] at h;done)
  rename_i k n;cases k<;>try (simp [byteOf] at h;done)
  cases n with
  | negSucc n=>simp [byteOf] at h
  | ofNat n=>
   simp only [byteOf] at h;cases hb:byteOf l with
   | none=>simp [hb] at h
   | some s'=>simp only [hb,gB] at h;subst h;simp only [o9,l7,agn,J3,Y2,gM];rw [xJ l s' hb];congr 1;simp [ByteArray.push]
theorem kX {x:Value}{m:Mem}(f:RM P G ι m w.heap){id off len c:Nat}(g:x=.slice (some (ι.at id off)) len c){l:List d9}{s:List UInt8}
  (d:R8 m id off len=some l) (e:byteOf l=some s):(Conv.bytesToString x).run P w=.ok (l7 ι (.str s)) w:=by
 obtain⟨a,_,b⟩:=iX f d;have h:=oL (P:=P) b;rw [a] at h;subst g;have:=xJ (P:=P) (ι:=ι) l s e ByteArray.empty w;simp only [Conv.bytesToString,J3,h,gM];rw [← ag9]
 erw [this]
 simp [l7,Y2]
theorem xK (ι:H6):∀(es:List (d9×d9)) (i j:Nat),(F6 ι es j).find? (λe=>e.born==j+i)=(es[i]?).map λe=>{key:=l7 ι e.1,val:=l7 ι e.2,born:=j+i}
 | [],i,j=>by simp [F6]
 | e::es,0,j=>by simp [F6]
 | e::es,i+1,j=>by simp only [F6,List.find?_cons];rw [show (j==j+(i+1))=false from by simp];simp only [abW];have:=xK ι es i (j+1);rw [show j+1+i=j+(i+1) from by omega] at this;exact this
theorem Cv {β:Type}{b:Option N7}{a:Option β}{k:Nat->Nat->List Nat->Option β}{r:β}(h:Fg b a k=some r):
  (∃s l,b=some (.iter none s l)∧a=some r)∨∃mp s l,b=some (.iter (some mp) s l)∧k mp s l=some r:=by
 match b,h with
 | some (.iter none s l),h=>exact .inl ⟨s,l,rfl,h⟩
 | some (.iter (some mp) s l),h=>exact .inr ⟨mp,s,l,rfl,h⟩
theorem Cw {ty off:Nat}:∀{l:List (Nat×Nat)},Xc ty off l=true->(ty,off)∈l
 | [],h=>by cases h
 | p::l,h=>by
  have h:bi (Nat.beq p.1 ty) (bi (Nat.beq p.2 off) true (Xc ty off l)) (Xc ty off l)=true:=h;cases h1:Nat.beq p.1 ty with
  | false=>rw [h1] at h;exact Y1 _ (Cw h)
  | true=>
   rw [h1] at h;cases h2:Nat.beq p.2 off with
   | false=>rw [h2] at h;exact Y1 _ (Cw h)
   | true=>rw [← aP h1,← aP h2];exact abU
theorem Nj {u c off:Nat}(h:(c,off)∈JR P u):P.cellsOf c≠0∧liesAt P P.depth c 1 off u 1=true:=by unfold JR at h;obtain⟨t,_,h⟩:=List.mem_flatMap.1 h;split at h;rename_i a;simp only [gI,bne_iff_ne,ne_eq] at a;rcases Z5.1 h with h | h;split at h;rename_i b;simp only [aA,ahN] at h;obtain⟨rfl,rfl⟩:=h;exact⟨a.2,b⟩;simp at h;split at h;obtain⟨f,_,h⟩:=List.mem_flatMap.1 h;split at h;rename_i b;simp only [aA,ahN] at h;obtain⟨rfl,rfl⟩:=h;exact⟨a.2,b.2⟩;simp at h;simp at h;simp at h
theorem qB (s:St P ι (m.nm ι) slots done ls env a.tmps)(H:RM P G ι m w.heap){op:Op}{ro:MO}(h:oM P slots done op ro){v:d9}(C:qo ro ls env m=some v):
  v.lt (m.nm ι)∧OJ P a.eval op (l7 ι v) w:=by
 cases h with
 | @load t x sz x' f p=>
  obtain⟨q,_⟩:=y9 s p;have key:∀id off,D8 x' ls env=.ptr id off->R4 (m.get id) (λrs n D=>match sz with | none=>cell1 rs n D off | some k=>ob (iO rs n D off k) λl=>some (.agg l))=some v->
    v.lt (m.nm ι)∧OJ P a.eval (.load t x) (l7 ι v) w:=by
   intro id off d E;obtain⟨K,M⟩:=uX f H E;refine⟨M,λo g=>?_⟩;simp [execOp,g,q,d,l7,Instr.loadAt,Instr.sureAddr,K]
  cases sz with
  | none=>obtain⟨id,off,d,E⟩:=cZ C;exact key id off d E
  | some k=>obtain⟨id,off,d,E⟩:=cZ C;exact key id off d E
 | @look t kt e kk z ok x k x' k' hu hk hz d hkk=>
  obtain⟨q,a8⟩:=y9 s d;obtain⟨I,_⟩:=y9 s hkk;rcases uf C with⟨d,h⟩ | ⟨id,d,h⟩;obtain⟨r,B,F⟩:=z8 h;obtain⟨K,M⟩:=xI (ι:=ι) w hu hk hz (n:=(m.nm ι)) (by simp) B F;refine⟨K,λo g=>?_⟩;have:=M (.map none) (.inl ⟨rfl,rfl⟩);have d:D8 x' ls env=.nilMap:=d;simp [execOp,g,q,d,l7,I,this]
  ·obtain⟨es,f | f,p⟩:=Bv h
   case inr=>obtain⟨r,B,F⟩:=z8 p;obtain⟨L,ck,Y,Z,c3⟩:=H.blk id _ f;obtain⟨K,M⟩:=EK (ι:=ι) w hu hk hz c3 B F Z (dN Y (by intro _ _ _ e;cases e));refine⟨K,λo g=>?_⟩;have d:D8 x' ls env=.map id:=d;simp [execOp,g,q,d,l7,I,M]
   obtain⟨r,B,F⟩:=z8 p;obtain⟨o1,o2⟩:=Ia H f;obtain⟨K,M⟩:=xI (ι:=ι) w hu hk hz o2 B F;refine⟨K,λo g=>?_⟩;have:=M (.map (some (ι id).b)) (.inr ⟨_,rfl,λw' hw=>by subst hw;exact o1⟩);have d:D8 x' ls env=.map id:=d;simp [execOp,g,q,d,l7,I,this]
 | @lenM c t kt e x x' E A y hu d=>
  obtain⟨q,_⟩:=y9 s d;have A:c.argTypes=#[t]:=by rw [← A,Z9]
  have y:c.args=#[x]:=by rw [← y,Z9]
  rcases uf C with⟨d,h⟩ | ⟨id,d,h⟩;cases h;have d:D8 x' ls env=.nilMap:=d;exact⟨by simp [d9.lt],λo g=>by simp [execOp,g,resolve,E,y,A,invoke,builtin,Builtin.len_,run_underlying hu,q,d,l7,goInt]⟩;obtain⟨es,f,p⟩:=za h;obtain⟨o1,o2⟩:=Ia H f;cases p;have d:D8 x' ls env=.map id:=d;exact⟨by simp [d9.lt],λo g=>by simp [execOp,g,resolve,E,y,A,invoke,builtin,Builtin.len_,run_underlying hu,q,d,l7,goInt,o1]⟩
 | @bytesStr t b e x x' f p B d=>obtain⟨q,_⟩:=y9 s d;rcases qw C with⟨d,h⟩ | ⟨id,off,len,cap,d,h⟩ | ⟨id,off,len,cap,d,h⟩;cases h;have d:D8 x' ls env=.nilSlice:=d;refine⟨by simp [d9.lt],λo g=>?_⟩;simp [execOp,g,q,d,l7,convert,run_underlying f,run_underlying p,run_underlying B,Conv.bytesToString];rfl;obtain⟨l,F,h⟩:=z8 h;obtain⟨a7,h5,h⟩:=z8 h;cases h;have d:D8 x' ls env=.slice id off len cap:=d;have:=kX H (x:=a.eval x) (by rw [q,d];rfl) F h5;refine⟨by simp [d9.lt],λo g=>?_⟩;rw [q,d] at this;simp only [l7] at this;simp [execOp,g,q,d,l7,convert,run_underlying f,run_underlying p,run_underlying B,this];obtain⟨l,F,h⟩:=z8 h;obtain⟨a7,h5,h⟩:=z8 h;cases h;have d:D8 x' ls env=.sliceU id off len cap:=d;have:=kX H (x:=a.eval x) (by rw [q,d];rfl) F h5;refine⟨by simp [d9.lt],λo g=>?_⟩;rw [q,d] at this;simp only [l7] at this;simp [execOp,g,q,d,l7,convert,run_underlying f,run_underlying p,run_underlying B,this]
 | @slData c t e x x' E A y hu d=>
  obtain⟨q,I⟩:=y9 s d;have A:c.argTypes=#[t]:=by rw [← A,Z9]
  have y:c.args=#[x]:=by rw [← y,Z9]
  rcases qw C with⟨f,p⟩ | ⟨id,off,len,cap,f,p⟩ | ⟨id,off,len,es,f,p⟩;have f:D8 x' ls env=.nilSlice:=f;cases p;exact⟨trivial,λo g=>by simp [execOp,g,resolve,E,y,A,invoke,builtin,Ba,q,f,l7]⟩;have f:D8 x' ls env=.slice id off len cap:=f;obtain⟨B,p⟩:=D5 p;cases p;have B:0<cap:=Eq.mp Xb B;rw [f] at I;exact⟨I,λo g=>by simp [execOp,g,resolve,E,y,A,invoke,builtin,Cu (Nat.ne_of_gt B),q,f,l7]⟩;have f:D8 x' ls env=.sliceU id off len es:=f;obtain⟨B,p⟩:=D5 p;cases p;have B:0<len:=Eq.mp Xb B;rw [f] at I;obtain⟨W,q2,X⟩:=I;have X:off+len*es<=(ι id).cap:=X;have a1:((ι id).cap-off) / es≠0:=by
   have:1<=((ι id).cap-off) / es:=(adD q2).2 (by
    have:1*es<=len*es:=Y8 _ B;omega)
   omega
  refine⟨W,λo g=>?_⟩;simp [execOp,g,resolve,E,y,A,invoke,builtin,Cu a1,q,f,l7]
 | @toUns a' b' t x x' k ha hb hs hk d=>
  obtain⟨q,I⟩:=y9 s d
  change rP (D8 x') ls env m=some v at C
  unfold rP at C;split at C;rename_i f;cases C;exact⟨trivial,λo g=>by simp [execOp,g,q,f,l7,convert,run_underlying ha,run_underlying hb,Conv.unsafePointer]⟩;rename_i id off f;obtain⟨rs,n,D,S,h⟩:=bJ C;obtain⟨p,h⟩:=D5 h;cases h;have p:off<n*rs:=Eq.mp Xb p;obtain⟨c,e,fz,W,q2,⟨X,_⟩,_⟩:=H.blk id _ S;obtain⟨j,hj,T⟩:=aay.1 hs;refine⟨⟨_,S,rfl⟩,λo g=>?_⟩;have:=Lib.run_to_unsafe (P:=P) w (ι.at id off) ha hb hj (by rw [T];exact hk) (e:=e) (cells:=c.size) (by simp [World.shape?,H6.at,W]) (by show (ι id).base+off<c.size;omega);simp [execOp,g,q,f,l7,this];cases C
 | @fromUns a' b' u x x' k ha hb hs hk d=>
  obtain⟨q,I⟩:=y9 s d
  change jZ (JR P u) (D8 x') ls env m=some v at C
  unfold jZ at C;split at C;rename_i f;cases C;exact⟨trivial,λo g=>by simp [execOp,g,q,f,l7,convert,run_underlying ha,run_underlying hb,Conv.unsafePointer]⟩;rename_i id off f;obtain⟨rs,n,D,S,h⟩:=bJ C;obtain⟨p,h⟩:=D5 h;obtain⟨ty,B,h⟩:=z8 h;obtain⟨F,h⟩:=D5 h;cases h;obtain rfl:n=1:=aP p;obtain⟨c,e,fz,W,q2,⟨X,N,_,_,V⟩,_⟩:=H.blk id _ S;obtain⟨rfl,a0,a6⟩:=V ty rfl B;obtain⟨U,R⟩:=Nj (Cw F);obtain⟨j,hj,T⟩:=aay.1 hs;refine⟨⟨_,S,rfl⟩,λo g=>?_⟩;have:=Lib.run_from_unsafe (P:=P) w (ι.at id off) ha hb hj (e:=e) (cells:=c.size) (by simp [World.shape?,H6.at,W]) (by
   rw [a6,Nat.div_self (af3 U)];show liesAt P P.depth e 1 ((ι id).base+off) u 1=true;rw [a0,Z8];exact R)
  simp [execOp,g,q,f,l7,this];cases C
 | @entry x x' d=>
  obtain⟨q,_⟩:=y9 s d;obtain⟨id,off,d,h⟩:=cZ C;have d:D8 x' ls env=.ptr id off:=d;obtain⟨h0,h⟩:=D5 h;obtain rfl:off=0:=aP h0;rcases Cv h with⟨_,_,_,h⟩ | ⟨mp,since,seen,J,h⟩;cases h;cases seen with
  | nil=>cases h
  | cons i seen=>
   have h:MP (m.get mp) (λes=>bi (Nat.beq (len' es) since) (ob (pq i es) λe=>some (.tuple [e.1,e.2])) none)=some v:=h;obtain⟨es,a2,h⟩:=za h;obtain⟨f,h⟩:=D5 h;have f:=aP f;rw [I4] at f;obtain⟨e,p,h⟩:=z8 h;rw [gW] at p;cases h;obtain⟨b1,b2,sn,st,b3,b4,b5⟩:=H.blk id _ J;have a4:=H.spot id _ J rfl;obtain⟨Y,Z⟩:=Ia H a2;have he:=Z e (U9 p);refine⟨by simp [d9.lt,X0,he],λo g=>?_⟩;have a5:st=since:=b5 (by simp);have O:sn.back?=some i:=by have:=congrArg List.head? b4;simpa [List.head?_reverse] using this
   have Q:(F6 ι es 0).toArray.find? (λe=>e.born==i)=some {key:=l7 ι e.1,val:=l7 ι e.2,born:=i}:=by have:=xK ι es i 0;rw [p] at this;simpa using this
   have J:=dN (P:=P) b3 (by intro _ _ _ e;cases e);have a3:a.eval x=.pointer (some ⟨(ι id).b,0,none⟩):=by rw [q,d];simp [l7,H6.at,b1,a4]
   simp [execOp,g,a3,Instr.entry,J,O,Y,a5,f,Q,l7,o9]
end
section
variable {P:Program}{G:Mem}{ι:H6}{n:Nm}{slots:List Nat}{done:List (Option Nat)}{ls:List d9}{env:T d9}{a:Act}
theorem Kk (rs:Nat)(l:List d9)(r:List (List d9))(h:rowsOf rs 0 l=some r):l=[]∧r=[]:=by
 cases l with
 | nil=>cases h;exact⟨rfl,rfl⟩
 | cons=>cases h
theorem Kl (rs k:Nat)(l:List d9):rowsOf rs (k+1) l=ob (takeN rs l) λr=>ob (rowsOf rs k (jX rs l)) λrest=>some (r::rest):=rfl
theorem eZ (rs:Nat):∀(k:Nat) (l:List d9) (r:List (List d9)),rowsOf rs k l=some r->
  l.length=k*rs∧r.length=k∧∀i,i<k->∃row,r[i]?=some row∧row.length=rs∧∀j,j<rs->row[j]?=l[i*rs+j]?:=by
 intro k;induction k with
 | zero=>intro l r h;obtain⟨rfl,rfl⟩:=Kk rs l r h;simp
 | succ k ih=>
  intro l r h;rw [Kl] at h;obtain⟨x,n,h⟩:=z8 h;obtain⟨y,b,h⟩:=z8 h;cases h;obtain⟨rfl,p⟩:=jF _ _ _ n;rw [ku] at b;obtain⟨f,g,m⟩:=ih _ _ b;rw [List.length_drop] at f;refine⟨by rw [aaZ];omega,by simp [g],λi o=>?_⟩;cases i with
  | zero=>exact⟨_,rfl,by simp;omega,λj a=>by simp [a]⟩
  | succ i=>obtain⟨row,c,d,e⟩:=m i (by omega);refine⟨row,by simpa using c,d,λj a=>?_⟩;rw [e j a,aeJ];congr 1;rw [aaZ];omega
theorem Km {h:Array Obj}{l:Loc}{es k:Nat}{cells:List d9}{d:List (List d9)}(B:rowsOf es k cells=some d){c:Array Value}{e:TypeId}{p:Nat×Nat}
  (A:h[l.b]?=some (Obj.cells c e p)) (h0:l.base=0) (D:l.cap=c.size) (m:X0 n cells) (f:∀(j:Nat) (v:d9),cells[j]?=some v->c[j]?=some (l7 ι v)) (u:cells.length<=c.size):
  bO P ι n h l (.cells es k (T.ofList d)):=by
 obtain⟨x,y,z⟩:=eZ _ _ _ _ B;refine⟨c,e,p,A,by omega,⟨by omega,d.length,by omega,T.dZ d,by rw [← y];exact su (T.dZ d)⟩,λi t=>?_⟩;obtain⟨o,w,q,r⟩:=z i t;refine⟨o,by rw [T.aG];exact w,q,bB.2 λv C=>?_,λj a=>?_⟩;obtain⟨j,a⟩:=aao C;have g:j<es:=aeL (gq.1 a).1 q;rw [r j g] at a;exact M6 m (U9 a);rw [r j a,h0,Z8];have s:i*es+j<cells.length:=by
  rw [x]
  calc i*es+j<i*es+es:=by omega
   _=(i+1)*es:=by rw [aaZ]
   _<=k*es:=Y8 _ t
 rw [gy s];exact f _ _ (gy s)
theorem TG {h:Array Obj}{l:Loc}{cs:List d9}{e:TypeId}{c:Nat×Nat}
  (d:h[l.b]?=some (.cells (o9 ι cs).toArray e c)) (h0:l.base=0) (f:l.cap=cs.length) (a:X0 n cs):bO P ι n h l (r9 cs):=by
 refine⟨_,e,c,d,by simp;omega,⟨by simp;omega,1,lM 1,.nd .e .e,su (.nd .e .e)⟩,λi g=>?_⟩;obtain rfl:i=0:=by omega
 refine⟨cs,rfl,(I4 cs).symm,a,λj k=>?_⟩;rw [h0];simp [V4]
theorem QD {h:Array Obj}{l:Loc}{cs:List d9}{e:TypeId}{f:Nat×Nat}
  (g:h[l.b]?=some (.cells (o9 ι cs).toArray e f)) (h0:l.base=0) (k:l.cap=cs.length) (a:X0 n cs) (c:cs.length=P.cellsOf e):bO P ι n h l (JF e cs):=by
 refine⟨_,e,f,g,by simp;omega,⟨by simp;omega,2,by omega,.nd (.nd .e .e) .e,λty _ d=>?_⟩,λi m=>?_⟩;have d:some e=some ty:=d;cases d;exact⟨rfl,h0,by simpa using c⟩;obtain rfl:i=0:=by omega
 refine⟨cs,rfl,(I4 cs).symm,a,λj o=>?_⟩;rw [h0];simp [V4]
theorem ze {a:Nat}{l:Loc}{cs:List d9}(c:¬ n a)(h:X0 n cs):o9 (ι.upd a l) cs=o9 ι cs:=
 dG (n:=n) (λi b=>ι.upd_ne l (λe=>c (by subst e;exact b))) cs h
theorem Kn {a:Nat}{l:Loc}{v:d9}(c:¬ n a)(h:v.lt n):l7 (ι.upd a l) v=l7 ι v:=
 O7 (n:=n) (λi b=>ι.upd_ne l (λe=>c (by subst e;exact b))) v h
structure Makes (P:Program)(ι:H6)(n:Nm)(ρ:Operand->Value)(op:Op)(nid:Nat)(v:d9)(b:N7)(w:World)(l:Loc)(obj:Obj)(w':World):Prop where
 loc:l.b=w.heap.size
 spot:l.spot=none
 run:∀o:Oper,o.op=op->(execOp ρ o).run P w=.ok (.value (l7 (ι.upd nid l) v)) w'
 grew:Tz w w' obj
 live:bF b=false
 free:∀c e fz,obj=.cells c e fz->∀k,k<c.size->¬ (fz.1<=k∧k<fz.2)
 blk:∀n':Nm,n.le n'->n' nid->n'.cap nid=l.cap->bO P (ι.upd nid l) n' (w.heap.push obj) l b∧v.lt n'
inductive mW (P:Program)(ι:H6)(n:Nm)(ρ:Operand->Value)(op:Op)(nid:Nat)(w:World):d9×Option N7->Prop
 | none {v}:v.lt n->Gives P ρ op (l7 ι v)->mW P ι n ρ op nid w (v,none)
 | made {v b} (l:Loc) (obj:Obj) (w':World):Makes P ι n ρ op nid v b w l obj w'->mW P ι n ρ op nid w (v,some b)
 | tail {v p} (l:Loc):n p->(l.cap=0∨(l.b=(ι p).b∧l.base+l.cap<=(ι p).base+(ι p).cap∧((ι p).spot=none->l.spot=none)))->Gives P ρ op (l7 (ι.upd nid l) v)->(∀n':Nm,n.le n'->n' nid->n'.cap nid=l.cap->v.lt n')->
   mW P ι n ρ op nid w (v,some (.tail p))
theorem bK {w:World}{o:Obj}:(w.heap.push o)[w.heap.size]?=some o:=by simp
theorem Fy {i:Op}{b:Nat}{w:World}{cs:List d9}(m:¬ n b)(d:X0 n cs){e:TypeId}
  (f:∀o:Oper,o.op=i->(execOp a.eval o).run P w=.ok (.value (.pointer (some ⟨w.heap.size,0,none⟩))) {w with heap:=w.heap.push (.cells (o9 ι cs).toArray e)}):
  mW P ι n a.eval i b w (.ptr b 0,some (r9 cs)):=by
 refine .made ⟨w.heap.size,0,cs.length,none⟩ (.cells (o9 ι cs).toArray e) {w with heap:=w.heap.push (.cells (o9 ι cs).toArray e)} ⟨rfl,rfl,λo p=>?_,⟨rfl,rfl,rfl,rfl⟩,rfl,λc q r h k s=>?_,λt j g _=>⟨?_,g⟩⟩;rw [f o p];simp [l7,H6.at];cases h;simp;rw [← ze (l:=⟨w.heap.size,0,cs.length,none⟩) m d];exact TG bK rfl rfl (bN j _ d)
theorem Cx {j:Op}{b:Nat}{w:World}{cs:List d9}(p:¬ n b)(d:X0 n cs){e:TypeId}(i:cs.length=P.cellsOf e)
  (f:∀o:Oper,o.op=j->(execOp a.eval o).run P w=.ok (.value (.pointer (some ⟨w.heap.size,0,none⟩))) {w with heap:=w.heap.push (.cells (o9 ι cs).toArray e)}):
  mW P ι n a.eval j b w (.ptr b 0,some (JF e cs)):=by
 refine .made ⟨w.heap.size,0,cs.length,none⟩ (.cells (o9 ι cs).toArray e) {w with heap:=w.heap.push (.cells (o9 ι cs).toArray e)} ⟨rfl,rfl,λo q=>?_,⟨rfl,rfl,rfl,rfl⟩,rfl,λc r s h k t=>?_,λu m g _=>⟨?_,g⟩⟩;rw [f o q];simp [l7,H6.at];cases h;simp;rw [← ze (l:=⟨w.heap.size,0,cs.length,none⟩) p d];exact QD bK rfl rfl (bN m _ d) i
theorem bX (e:TypeId)(cs:Array Value)(w:World):(newRow e cs).run P w=.ok ⟨w.heap.size,0,none⟩ {w with heap:=w.heap.push (.cells cs e)}:=by simp [newRow,newObj,Sem.run]
theorem qC (z:List d9)(k:Nat):Q0 z (k+1)=z++Q0 z k:=by show ah z (Q0 z k)=_;rw [Q8]
theorem xL (z:List d9):Q0 z 0=[]:=rfl
theorem dD (z:List d9):∀k,(Q0 z k).length=k*z.length
 | 0=>by simp [xL]
 | k+1=>by rw [qC,Z7,dD z k,aaZ];omega
theorem qD {z:List d9}(h:X0 n z):∀k,X0 n (Q0 z k)
 | 0=>trivial
 | k+1=>by rw [qC,bB];intro v hv;rcases Z5.1 hv with hv | hv;exact M6 h hv;exact M6 (qD h k) hv
theorem sM (z:List d9):∀(k i:Nat),i<k*z.length->(Q0 z k)[i]?=z[i%z.length]?
 | 0,i,h=>by simp at h
 | k+1,i,h=>by rw [qC];by_cases hi:i<z.length;rw [Y4 hi,aeS hi];have hi:z.length<=i:=adB hi;rw [aaq hi,sM z k _ (by rw [aaZ] at h;omega),← Nat.mod_eq_sub_mod hi]
theorem Cy (z:List d9)(k:Nat):(Array.range (k*z.length)).map (λi=>(o9 ι z).toArray[i%(o9 ι z).toArray.size]!)=(o9 ι (Q0 z k)).toArray:=by
 apply Array.ext;simp [dD];intro i d f;have a:i<k*z.length:=by simpa using d
 have j:0<z.length:=af3 λe=>by rw [e] at a;simp at a
 have c:i%z.length<z.length:=agk _ j;have g:=sM z k i a;rw [Array.getElem_map,Array.getElem_range];have h:(o9 ι (Q0 z k))[i]?=some (o9 ι z)[i%z.length]!:=by rw [V4,g,gy c];simp [ak,c]
 have b:(o9 ι (Q0 z k)).toArray[i]?=some ((o9 ι z).toArray[i%(o9 ι z).toArray.size]!):=by simpa using h
 rw [Z6 f] at b;exact (Xl b).symm
theorem TH {i:Op}{b:Nat}{w:World}{cells:List d9}(r:¬ n b)(d:X0 n cells){e:TypeId}{es k len:Nat}{m:List (List d9)}(t:rowsOf es k cells=some m)
  (f:∀o:Oper,o.op=i->(execOp a.eval o).run P w=.ok (.value (.slice (some ⟨w.heap.size,0,none⟩) len k)) {w with heap:=w.heap.push (.cells (o9 ι cells).toArray e)}):
  mW P ι n a.eval i b w (.slice b 0 len k,some (.cells es k (T.ofList m))):=by
 refine .made ⟨w.heap.size,0,cells.length,none⟩ (.cells (o9 ι cells).toArray e) {w with heap:=w.heap.push (.cells (o9 ι cells).toArray e)} ⟨rfl,rfl,λo s=>?_,⟨rfl,rfl,rfl,rfl⟩,rfl,λc u x h k y=>?_,λz q g _=>⟨?_,g⟩⟩;rw [f o s];simp [l7,H6.at];cases h;simp;rw [← ze (l:=⟨w.heap.size,0,cells.length,none⟩) r d];exact Km t bK rfl (by simp) (bN q _ d) (λj v p=>by simp [V4,p]) (by simp)
theorem mg {t:TypeId}{z:List d9}(h:AX P t=some z):pE P t=some z∧V5 P t=some z.length:=by simp only [AX] at h;split at h;split at h;cases h;rename_i a b c;exact⟨b,by rw [a,c]⟩;cases h;cases h
theorem vZ {t:TypeId}{k:Nat}(h:V5 P t=some k):P.cellsOf t=k:=by unfold V5 at h;unfold Program.cellsOf;rw [h];rfl
theorem run_askRoom (k:Nat)(w:World):(askRoom k).run P w=.ok () w:=by unfold askRoom;split<;>simp [mark,Sem.run]
theorem xM (e:TypeId)(c:Array Value)(hp:Array Obj)(w:World):
  (markStringish ⟨hp.size,0,none⟩).run P {w with heap:=hp.push (.cells c e)}=.ok () {w with heap:=hp.push (.cells c e (c.size,c.size+1))}:=by
 simp only [markStringish,J3,run_shape,World.shape?,gM];have d:∀(f:Obj->Obj),(hp.push (.cells c e)).modify hp.size f=hp.push (f (.cells c e)):=by
  intro f;apply Array.ext;simp;intro i a b;rw [Array.getElem_modify];simp only [Array.size_push,Array.size_modify] at a b;by_cases h:hp.size=i;subst h;simp;have:i<hp.size:=by omega
  simp [h,Array.getElem_push_lt this]
 simp [World.freeze,d]
theorem qE (s:St P ι n slots done ls env a.tmps)(E:∀i,n i->n.cap i=(ι i).cap){D:Nat}(hn:¬ n D){op:Op}{lo:Qp}(h:kQ P slots done op lo){r:d9×Option N7}(y:uS lo ls env D=some r)(w:World):
  mW P ι n a.eval op D w r:=by
 cases h with
 | @alloc t z W=>cases y;obtain⟨v,K,R,h3⟩:=bI (w:=w) W ι;exact Fy (e:=t) hn (h3 n) λo A=>by simp [execOp,A,Instr.alloc,K,newVar,bX,R]
 | @box t x x' hx=>cases y;obtain⟨U,e2⟩:=y9 s hx;exact Fy (e:=t) hn (rY e2) λo A=>by simp [execOp,A,Instr.box,U,newVar,bX,jG]
 | @allocT t z W=>cases y;obtain⟨W,O⟩:=mg W;obtain⟨v,K,R,h3⟩:=bI (w:=w) W ι;exact Cx (e:=t) hn (h3 n) (vZ O).symm λo A=>by simp [execOp,A,Instr.alloc,K,newVar,bX,R]
 | @boxT t k x x' hk hx=>
  obtain⟨K,y⟩:=D5 y;cases y;obtain⟨U,e2⟩:=y9 s hx;have K:(D8 x' ls env).cells.length=k:=by rw [← I4];exact aP K
  exact Cx (e:=t) hn (rY e2) (by rw [vZ hk];exact K) λo A=>by simp [execOp,A,Instr.box,U,newVar,bX,jG]
 | @mkMap t=>cases y;refine .made ⟨w.heap.size,0,0,none⟩ (.map #[] 0) {w with heap:=w.heap.push (.map #[] 0)} ⟨rfl,rfl,λo A=>?_,⟨rfl,rfl,rfl,rfl⟩,rfl,(λc e' fz h=>by cases h),λn' hm C _=>⟨⟨?_,by simp⟩,C⟩⟩;simp [execOp,A,Instr.makeMap,l7,newObj,Sem.run];simp [F6]
 | @mkMapN t k m kt e hu=>cases y;refine .made ⟨w.heap.size,0,0,none⟩ (.map #[] 0) {w with heap:=w.heap.push (.map #[] 0)} ⟨rfl,rfl,λo A=>?_,⟨rfl,rfl,rfl,rfl⟩,rfl,(λc e' fz h=>by cases h),λn' hm C _=>⟨⟨?_,by simp⟩,C⟩⟩;simp [execOp,A,Instr.makeMap,l7,newObj,Sem.run,run_underlying hu,Act.eval,asInt,asIntOf];simp [F6]
 | @buildSlice t len parts e es ps z hu hes hps a3 W=>
  obtain⟨cells,K,y⟩:=z8 y;obtain⟨rl,R,y⟩:=z8 y;cases y;obtain⟨v,a4,a5,Y⟩:=bI (P:=P) (w:=w) W ι;obtain⟨g,Q,g3⟩:=yZ s _ parts.toList ps hps _ cells (qD (Y n) len) K;obtain⟨r1,_,_⟩:=eZ _ _ _ _ R;rw [dD] at g3;have a1:(parts.map λp=>(p.1,a.eval p.2)).toList=parts.toList.map λp=>(p.1,a.eval p.2):=by simp
  refine TH (e:=e) hn Q R λo A=>?_
  have af:¬ len*es>2^24:=by have:(2:Nat)^24=16777216:=rfl
                            omega
  simp only [execOp,A,Instr.buildSlice,J3,run_underlying hu,gM,run_sizeOf hes,if_neg af,Y2];have a0:∀Z:Array Value,(len*es=0∨Z=(o9 ι z).toArray)->(Array.range (len*es)).map (λi=>Z[i%Z.size]!)=(o9 ι (Q0 z len)).toArray:=by
   intro Z hZ;by_cases N:len*es=0;have:Q0 z len=[]:=aeA (by rw [dD];omega);rw [this,N];simp [o9];rcases hZ with h | rfl;exact absurd h N;have hm:len*z.length=len*es:=by omega
   have hp:0<len:=af3 λe=>N (by rw [e,ac7]);have ai:z.length=es:=Nat.eq_of_mul_eq_mul_left hp hm;rw [← ai];exact Cy z len
  by_cases N:len*es=0;rw [if_pos N];simp only [J3,Y2,gM,a1,a0 #[] (.inl N),g];simp [bX];rw [if_neg N];simp only [J3,a4,Y2,gM,a1,a5,a0 _ (.inr rfl),g];simp [bX]
 | @mkSlice t l c e es by' z l' c' hu hes hby W hl J=>
  obtain⟨ah,a8⟩:=mg W;rw [hes] at a8;cases a8;obtain⟨i,len,K,y⟩:=dM y;obtain⟨j,cap,R,y⟩:=dM y;obtain⟨g,y⟩:=D5 y;obtain⟨Q,y⟩:=D5 y;obtain⟨g3,y⟩:=D5 y;cases y;have g:len<=cap:=K9 g;have Q:by'*cap<=281474976710656:=K9 Q;have g3:cap<9223372036854775808:=Eq.mp Xb g3;have K:D8 l' ls env=.int i (len:Int):=K;have R:D8 c' ls env=.int j (cap:Int):=R;obtain⟨U,_⟩:=y9 s hl;obtain⟨e2,_⟩:=y9 s J;obtain⟨al,ab,ac⟩:=tZ (w:=w) hby;obtain⟨v,a4,a5,Y⟩:=bI (P:=P) (w:=w) ah ι;have M:=dD z cap;have B:∀o:Oper,o.op=.makeSlice t l c->(execOp a.eval o).run P w=.ok (.value (.slice (some ⟨w.heap.size,0,none⟩) len cap)) {w with heap:=w.heap.push (.cells (o9 ι (Q0 z cap)).toArray e)}:=by
   intro o A;have w1:IntKind.i64.wrap (len:Int)=len:=xB _ ⟨by omega,by omega⟩;have w2:IntKind.i64.wrap (cap:Int)=cap:=xB _ ⟨by omega,by omega⟩;have a6:¬ ((by':Int)*(cap:Int)>2^48):=by have:((by'*cap:Nat):Int)=(by':Int)*(cap:Int):=(by simp);rw [← this];have a9:(2:Int)^48=281474976710656:=rfl;rw [a9];omega
   simp only [execOp,A,Instr.makeSlice,J3,run_underlying hu,gM,U,e2,K,R,l7,asInt,asIntOf,Y2,ab,ac,w1,w2];rw [if_neg (by simp only [aeE,decide_eq_true_eq,not_or];exact⟨⟨⟨by omega,a6⟩,by omega⟩,by omega⟩)];simp only [J3,run_askRoom,gM,run_sizeOf hes,aiC];by_cases N:cap*z.length=0;have a7:Q0 z cap=[]:=aeA (by rw [M];exact N);have ag:∀f:Nat->Value,(Array.range 0).map f=#[]:=by intro f;simp
   simp only [J3,Y2,gM,N,a7,if_true,ag];simp [bX,o9];have hk:=Cy (ι:=ι) z cap;simp only [if_neg N,J3,Y2,gM,a4,a5,hk];simp [bX]
  refine .made ⟨w.heap.size,0,(Q0 z cap).length,none⟩ (.cells (o9 ι (Q0 z cap)).toArray e) {w with heap:=w.heap.push (.cells (o9 ι (Q0 z cap)).toArray e)} ⟨rfl,rfl,λo A=>?_,⟨rfl,rfl,rfl,rfl⟩,rfl,λc e' fz h k hk=>?_,λn' hm C _=>⟨?_,C⟩⟩;rw [B o A];simp [l7,H6.at];cases h;simp;refine⟨_,_,_,bK,by simp,⟨by simp [M],cap,lM _,by simpa using T.MZ z cap .e 0 .e,su (by simpa using T.MZ z cap .e 0 .e)⟩,λi hi=>⟨z,?_,rfl,Y _,λj hj=>?_⟩⟩;rw [T.OI _ _ _ _ T.Ok.e];simp [hi];have hb:i*z.length+j<cap*z.length:=by
   calc i*z.length+j<i*z.length+z.length:=by omega
    _=(i+1)*z.length:=by rw [aaZ]
    _<=cap*z.length:=Y8 _ hi
  rw [Z8,ac1,V4,sM _ _ _ hb];rw [show (i*z.length+j)%z.length=j from by rw [adE,ajO,aeS hj]];rw [gy hj];simp [Kn (l:=⟨w.heap.size,0,(Q0 z cap).length,none⟩) hn (M6 (Y n) (aaA hj))]
 | @strBytes t u e x x' K R h3 hx=>
  obtain⟨str,h4,y⟩:=fE y;obtain⟨rl,h5,y⟩:=z8 y;cases y;have h4:D8 x' ls env=.str str:=h4;obtain⟨U,_⟩:=y9 s hx;have V:∀l:List UInt8,bytesOf l=l.map λb=>d9.int .u8 b.toNat:=by
   intro l;induction l with
   | nil=>rfl
   | cons b l ih=>simp [bytesOf,ih]
  rw [I4] at *;generalize G:str.length+w.tape w.drawn (.appendCap str.length 0 e)%(2^63-str.length)=cap;have a3:str.length<=cap:=by omega
  let cells:Array Value:=(o9 ι (bytesOf str)).toArray++Array.replicate (cap-str.length) (.int .u8 0)
  have O:cells.size=cap:=by simp [cells,V];omega
  have I:X0 n (bytesOf str):=by rw [V,bB];intro v y;obtain⟨b,_,rfl⟩:=ac4.1 y;simp [d9.lt]
  have B:∀o:Oper,o.op=.convert t u x->(execOp a.eval o).run P w =
    .ok (.value (.slice (some ⟨w.heap.size,0,none⟩) str.length cap)) {w with heap:=w.heap.push (.cells cells e (cap,cap+1)),drawn:=w.drawn+1}:=by
   intro o A;simp only [execOp,A,J3,convert,run_underlying K,run_underlying R,run_underlying h3,gM,U,h4,l7,Conv.stringToBytes];rw [run_choose];simp only [Question.forced,aau,if_false,gM,Question.cut,mO,G];have J:(⟨str.toArray⟩:ByteArray).data.map (λb=>Value.int .u8 b.toNat)++Array.replicate (cap-str.length) (.int .u8 0)=cells:=by simp only [cells,V,ak,aeP];congr 1;simp [l7,Function.comp_def]
   have J:str.toArray.map (λb=>Value.int .u8 b.toNat)++Array.replicate (cap-str.length) (.int .u8 0)=cells:=J;rw [J,bX];simp only [gM];rw [xM e cells w.heap {w with drawn:=w.drawn+1}];simp [O]
  refine .made ⟨w.heap.size,0,cap,none⟩ (.cells cells e (cap,cap+1)) {w with heap:=w.heap.push (.cells cells e (cap,cap+1)),drawn:=w.drawn+1} ⟨rfl,rfl,λo A=>?_,⟨rfl,rfl,rfl,rfl⟩,rfl,λc e' fz h k hk=>?_,λn' hm C E=>⟨?_,⟨C,lM 1,by rw [E];show 0+str.length*1<=cap;omega⟩⟩⟩;rw [B o A];simp [l7,H6.at];cases h;rw [O] at hk;simp;omega;refine Km h5 bK rfl O.symm (bN hm _ I) (λj v hj=>?_) (by rw [O,V];simpa using a3);have ae:j<(bytesOf str).length:=(gq.1 hj).1;have y:=M6 I (U9 hj);rw [Kn (l:=⟨w.heap.size,0,cap,none⟩) hn y];simp only [cells];rw [aic (by simpa using ae)];simp [V4,hj]
 | @sl t x lo hi e es x' lo' hi' hu hes hx hlo hhi=>
  obtain⟨U,e2⟩:=y9 s hx;have y:dJ (jC lo') 0 ls env (λl=>Option.rec (J6 D es (D8 x' ls env) l none) (λh=>iM (h ls env) λh=>J6 D es (D8 x' ls env) l (some h)) (jC hi'))=some r:=y;generalize hX:D8 x' ls env=X at *;have hb:∀d,(∀l,J6 D es X l none=J6 D es X l (some d))->
    ∃l h,J6 D es X l (some h)=some r∧∀cap w,l<=h->h<=cap->(Instr.sliceBounds true d cap (lo.map a.eval) (hi.map a.eval) none).run P w=.ok (l,h,cap) w:=by
   intro d hd;have h':dJ (jC lo') 0 ls env (λl=>dJ (jC hi') d ls env λh=>J6 D es X l (some h))=some r:=by
    rw [← y];congr 1;funext l;cases hhi':jC hi' with
    | none=>simp only [dJ];exact (hd l).symm
    | some f=>rfl
   obtain⟨l,h,g,_,_,Q⟩:=qz s hlo hhi h';exact⟨l,h,g,λcap w p q=>Q true d cap w rfl p q⟩
  have F:∀(ad:Option Addr) (len cap l h:Nat) (w:World),l7 ι X=.slice ad len cap->(Instr.sliceBounds true len cap (lo.map a.eval) (hi.map a.eval) none).run P w=.ok (l,h,cap) w->
    ∀o:Oper,o.op=.slice t x lo hi none->(execOp a.eval o).run P w=.ok (.value (.slice (if cap=l then ad else ad.map (·.add (l*es))) (h-l) (cap-l))) w:=by
   intro ad len cap l h w J aa o A;simp [execOp,A,Instr.sliceAt,run_underlying hu,Instr.slice,U,J,aa,run_sizeOf hes]
  cases X with
  | nilSlice=>obtain⟨l,h,g,Q⟩:=hb 0 (λl=>by simp [J6,qj,aat]);have g:bi (Nat.beq l 0) (bi (Nat.beq h 0) (some (d9.nilSlice,none)) none) none=some r:=g;obtain⟨q1,g⟩:=D5 g;obtain⟨S,g⟩:=D5 g;obtain rfl:=aP q1;obtain rfl:=aP S;cases g;refine .none (by simp [d9.lt]) λo A w=>?_;rw [F none 0 0 0 0 w rfl (Q 0 w (lM _) (lM _)) o A];rfl
  | slice id off len cap=>obtain⟨l,h,g,Q⟩:=hb len (λl=>rfl);have g:J6.known es l id off cap h=some r:=g;simp only [J6.known] at g;obtain⟨q1,g⟩:=D5 g;obtain⟨S,g⟩:=D5 g;have q1:=K9 q1;have S:=K9 S;cases g;refine .none e2 λo A w=>?_;rw [F _ len cap l h w rfl (Q cap w q1 S) o A];simp only [l7,sG,aav,H6.mM];by_cases J:cap=l;rw [if_pos J,if_pos J.symm];rfl;rw [if_neg J,if_neg (λe=>J e.symm)];rfl
  | sliceU id off len es'=>
   obtain⟨l,h,g,Q⟩:=hb len (λl=>rfl);have g:J6.unk D es l id off len es' h=some r:=g;simp only [J6.unk] at g;obtain⟨q1,p1⟩:=D5 g;obtain⟨S,p2⟩:=D5 p1;obtain⟨q3,p3⟩:=D5 p2;clear g p1 p2;have q1:=K9 q1;have S:=K9 S;obtain rfl:=aP q3;obtain⟨L,H,G⟩:=e2;have G:off+len*es<=(n.cap id):=G;rw [E id L] at G;have M:len<=((ι id).cap-off) / es:=(adD H).2 (by omega);have hX:l7 ι (.sliceU id off len es)=.slice (some (ι.at id off)) len (((ι id).cap-off) / es):=by simp [l7]
   have B:=λw=>F _ _ _ l h w hX (Q _ w q1 (J2 S M));have a2:∀k,k*es<=(ι id).cap-off->((ι id).cap-(off+k*es)) / es=((ι id).cap-off) / es-k:=by intro k hk;rw [← Nat.sub_sub,adE k es,Nat.sub_mul_div]
   cases I:Nat.blt l len with
   | true=>
    have g:some (d9.sliceU id (off+l*es) (h-l) es,none)=some r:=(by rw [I] at p3;exact p3);have an:l<len:=Eq.mp Xb I;cases g;have a3:h*es<=len*es:=Y8 _ S;have aj:l*es+(h-l)*es=h*es:=(by rw [← adw];congr 1;omega);refine .none ⟨L,H,by rw [E id L];omega⟩ λo A w=>?_;rw [B w o A,if_neg (by omega)];simp only [l7,aav,H6.mM]
    rw [a2 l (by have:l*es<=len*es:=Y8 _ (by omega)
                 omega)]
   | false=>
    have am:len<=l:=by rcases aeD l len with hh | hh;rw [(Eq.mpr Xb hh:Nat.blt l len=true)] at I;cases I;exact hh
    have g:bi (Nat.beq l 0) (some (d9.sliceU id off (h-l) es,none)) (some (.sliceU D 0 0 es,some (.tail id)))=some r:=(by rw [I] at p3;exact p3);rw [sG] at g;split at g;rename_i N;subst N;cases g;obtain rfl:len=0:=(by omega);obtain rfl:h=0:=(by omega);refine .none ⟨L,H,by rw [E id L];omega⟩ λo A w=>?_;rw [B w o A];simp only [l7,aav,H6.mM,ac7,Y5,ajJ,ite_self];cases g;obtain rfl:l=len:=(by omega);obtain rfl:h=l:=(by omega);by_cases J:((ι id).cap-off) / es=h;refine .tail ⟨(ι id).b,(ι id).base+off,0,if off=0 then (ι id).spot else none⟩ L (.inl rfl) (λo A w=>?_) λn' hm C E=>⟨C,H,by rw [E];simp⟩;rw [B w o A,if_pos J,J];simp [l7,H6.at];refine .tail ⟨(ι id).b,(ι id).base+(off+h*es),(ι id).cap-(off+h*es),if off+h*es=0 then (ι id).spot else none⟩ L (.inr ⟨rfl,by show (ι id).base+(off+h*es)+((ι id).cap-(off+h*es))<=(ι id).base+(ι id).cap;omega,λhh=>by show (if off+h*es=0 then (ι id).spot else none)=none;rw [hh];simp⟩) (λo A w=>?_) λn' hm C E=>⟨C,H,by rw [E];simp⟩;rw [B w o A,if_neg J,← a2 h (by omega)];have a0:=H6.mM ι id off (h*es);simp only [l7,aav,a0];simp [H6.at]
  | _=>obtain⟨l,h,g,_⟩:=hb 0 (λl=>rfl);cases g
end
theorem Mem.lH {m:Mem}(h:T.Ok m.t m.nx){id:Nat}{b b':N7}(c:m.get id=some b)(a:bF b'=false)(i:Nat)(f:m.has i):(m.set id b').has i:=by obtain⟨x,d,e⟩:=f;by_cases he:i=id;subst he;exact⟨b',by rw [Mem.U1 h (Mem.F9 h c),if_pos rfl],a⟩;exact⟨x,by rw [Mem.U1 h (Mem.F9 h c),if_neg he];exact d,e⟩
theorem getElem?_set_ne (a:Array Obj)(i j:Nat)(o:Obj)(h:i≠j):(a.setIfInBounds i o)[j]?=a[j]?:=W9 h
structure Put (w w':World)(b:Nat)(o:Obj):Prop where
 heap:w'.heap=w.heap.setIfInBounds b o
 os:w'.os=w.os
 out:w'.output=w.output
 tape:w'.tape=w.tape
theorem Step.set' {P:Program}{G:Mem}{ι:H6}{m:Mem}{w w':World}(h:RM P G ι m w.heap){id:Nat}{b b':N7}(r:m.lim<=id)(q:m.get id=some b)(u:Q7 b=true)
  (L:bF b'=false) {o:Obj} (s:Put w w' (ι id).b o)
  (D:bO P ι ((m.set id b').nm ι) (w.heap.setIfInBounds (ι id).b o) (ι id) b')
  (S:Q7 b'=true->∀c e fz,o=.cells c e fz->∀k,k<c.size->¬ (fz.1<=k∧k<fz.2)):
  Step P G ι m w ι (m.set id b') w':=by
 have F:=Mem.F9 h.ok q;have a:=Mem.U1 h.ok F b';have l:=λi p=>Mem.lH h.ok q L i p;have v:=h.own id b r q u;have E:(ι id).b<w.heap.size:=dB (h.blk id b q) u;refine⟨⟨h.ok.put id b' F,?_,?_,h.glim,h.limn,h.gle,λi p=>by rw [a,if_neg (by have:=h.glim;omega)];exact h.base i p,λi p=>l i (h.ghas i p),h.glob,λi x d f=>by
   rw [a] at d;split at d;rename_i e;subst e;exact h.spot i b q u;exact h.spot i x d f,h.JY λt A O=>by
   rw [s.heap,getElem?_set_ne];intro e;exact O ⟨id,b,r,q,u,e⟩⟩,λ_ _=>rfl,l,lM _,rfl,?_,by rw [s.heap];simp,?_,?_,s.os,s.out,s.tape⟩
 intro i x d;rw [a] at d;rw [s.heap];split at d;rename_i e;subst e;cases d;exact D;rename_i e;exact (h.blk i x d).mono (n:=m.nm ι) (λ_ _=>rfl) (Mem.U2 l λ_ _=>rfl) (λf=>getElem?_set_ne _ _ _ _ (λK=>v.alone i x e d f K.symm));intro i x p d f;rw [a] at d;have I:∀j y,m.get j=some y->Q7 y=true->j≠i->∀(z:N7),m.get i=some z->Q7 z=true->(ι j).b≠(ι i).b:=λj y H B N z C g=>(h.own i z p C g).alone j y N H B;have M:∃z,m.get i=some z∧Q7 z=true:=by split at d;rename_i e;subst e;exact⟨b,q,u⟩;exact⟨x,d,f⟩
 obtain⟨z,C,g⟩:=M;refine⟨λj y Q H B=>?_,λc e fz J=>?_⟩;rw [a] at H;split at H;rename_i R;subst R;exact I j b q u Q z C g;exact I j y H B Q z C g;by_cases he:i=id;subst he;rw [if_pos rfl] at d;cases d;rw [s.heap,X3 E] at J;exact S f c e fz (Xl J);rw [s.heap,getElem?_set_ne _ _ _ _ (λK=>v.alone i z he C g K.symm)] at J;exact (h.own i z p C g).free c e fz J;intro i p;rw [a,if_neg (by omega)];intro t A O;rw [s.heap,getElem?_set_ne];intro e;exact O ⟨id,b,r,q,u,e⟩;rintro t ⟨i,x,p,d,f,rfl⟩;rw [a] at d;split at d;rename_i e;subst e;exact .inl ⟨i,b,r,q,u,rfl⟩;exact .inl ⟨i,x,p,d,f,rfl⟩
theorem Step.set {P:Program}{G:Mem}{ι:H6}{m:Mem}{w w':World}(h:RM P G ι m w.heap){id:Nat}{b b':N7}(f:m.lim<=id)(i:m.get id=some b)(j:Q7 b=true)
  (d:bF b'=false) {o:Obj} (l:Put w w' (ι id).b o)
  (a:bO P ι ((m.set id b').nm ι) (w.heap.setIfInBounds (ι id).b o) (ι id) b')
  (g:∀c e fz,o=.cells c e fz->∀k,k<c.size->¬ (fz.1<=k∧k<fz.2)):
  Step P G ι m w ι (m.set id b') w':=Step.set' h f i j d l a λ_=>g
theorem Step.kill {P:Program}{G:Mem}{ι:H6}{m:Mem}{w:World}(h:RM P G ι m w.heap){id:Nat}{b:N7}(q:m.lim<=id)(o:m.get id=some b):
  Step P G ι m w ι (m.set id .dead) w:=by
 have k:=Mem.F9 h.ok o;have d:=Mem.U1 h.ok k .dead;have e:=λi f=>Mem.lH (b':=.dead) h.ok o rfl i f;have g:∀i x,(m.set id .dead).get i=some x->Q7 x=true->m.get i=some x:=λi x c a=>by rw [d] at c;split at c;cases c;cases a;exact c
 refine⟨⟨h.ok.put id .dead k,?_,?_,h.glim,h.limn,h.gle,λi f=>by rw [d,if_neg (by have:=h.glim;omega)];exact h.base i f,λi f=>e i (h.ghas i f),h.glob,λi x c a=>h.spot i x (g i x c a) a,h.gsz⟩,λ_ _=>rfl,e,lM _,rfl,?_,lM _,λ_ _ _=>rfl,?_,rfl,rfl,rfl⟩;intro i x c;rw [d] at c;split at c;cases c;trivial;exact (h.blk i x c).mono (n:=m.nm ι) (λ_ _=>rfl) (Mem.U2 e λ_ _=>rfl) (λ_=>rfl);intro i x f c a;have p:=h.own i x f (g i x c a) a;exact⟨λj y r s l=>p.alone j y r (g j y s l) l,p.free⟩;intro i f;rw [d,if_neg (by omega)];rintro b₁ ⟨i,x,f,c,a,rfl⟩;exact .inl ⟨i,x,f,g i x c a,a,rfl⟩
section
variable {P:Program}{G:Mem}{ι:H6}{m:Mem}{w:World}{slots:List Nat}{done:List (Option Nat)}{ls:List d9}{env:T d9}{a:Act}
def V9 (P:Program)(G:Mem)(ι:H6)(m:Mem)(w:World)(outs:List VM)(v:Value)(w':World):Prop:=
 ∃r∈outs,∃ι',Step P G ι m w ι' r.m w'∧r.v.lt (r.m.nm ι')∧v=l7 ι' r.v
def Does (P:Program)(ρ:Operand->Value)(o:Oper)(w:World)(R:Value->World->Prop):Prop:=
 match (execOp ρ o).run P w with
 | .ok (.value v) w'=>R v w'
 | .ok .skip w'=>R undef w'
 | .ok (.enter f args) w'=>CallsIn Fence.wide 0 P f args w' λe w''=>∃v,e=.returned v∧R v w''
 | .ok (.round l f tmps assign body) w'=>RoundIn Fence.wide 0 P l f tmps assign body w' λe w''=>∃v,e=.returned v∧R v w''
 | _=>False
theorem M0 {a:Operand->Value}{o:Oper}{R:Value->World->Prop}{v:Value}{w':World}(h:(execOp a o).run P w=.ok (.value v) w')(b:R v w'):Does P a o w R:=by unfold Does;rw [h];exact b
theorem zf {a:Operand->Value}{o:Oper}{R:Value->World->Prop}{w':World}(h:(execOp a o).run P w=.ok .skip w')(b:R undef w'):Does P a o w R:=by unfold Does;rw [h];exact b
theorem nY:∀{l:List d9},K4 l=true->∀v∈l,G9 v=true
 | [],_,v,hv=>by cases hv
 | x::l,h,v,hv=>by
  have h:bi (G9 x) (K4 l) false=true:=h;cases hx:G9 x with
  | false=>rw [hx] at h;cases h
  | true=>rw [hx] at h;rcases X4.1 hv with rfl | hv;exact hx;exact nY h v hv
theorem zh {v:d9}(h:G9 v=true):(∀l,l7 ι v≠.agg l)∧∀l,l7 ι v≠.tuple l:=by cases v<;>simp_all [G9,l7]
theorem run_store {a:Addr}{v x:Value}{w:World}(d:w.cell? a=some x)(e:w.frozen? a=false)(b:∀l,v≠.agg l)(c:∀l,v≠.tuple l):
  (store a v).run P w=.ok () (w.setCell a v):=by
 cases v<;>first | exact absurd rfl (b _) | exact absurd rfl (c _) | simp [store,Sem.run,d,e]
def over (c:Array Value)(o:Nat):List Value->Array Value
 | []=>c
 | v::l=>over (c.setIfInBounds o v) (o+1) l
@[simp] theorem adF (l:List Value):∀(c:Array Value) (o:Nat),(over c o l).size=c.size:=by
 induction l with
 | nil=>intro c o;rfl
 | cons v l ih=>intro c o;rw [over,ih];simp
theorem xO (l:List Value):∀(c:Array Value) (o:Nat),o+l.length<=c.size->∀i,(over c o l)[i]?=if i<o then c[i]? else if i<o+l.length then l[i-o]? else c[i]?:=by
 induction l with
 | nil=>intro c o h i;simp [over];omega
 | cons v l ih=>intro c o h i;simp only [Y3] at h ⊢;rw [over,ih _ _ (by simp;omega)];by_cases h1:i<o;rw [if_pos h1,if_pos (by omega),W9 (by omega)];by_cases h2:i=o;subst h2;rw [if_pos (by omega),if_neg h1,if_pos (by omega),X3 (by omega)];simp;rw [if_neg (by omega),if_neg h1];by_cases h3:i<o+1+l.length;rw [if_pos h3,if_pos (by omega),show i-o=(i-(o+1))+1 from by omega];simp;rw [if_neg h3,if_neg (by omega),W9 (by omega)]
theorem mX {b:Nat}{e:TypeId}{d:Nat×Nat}:∀(vs:List Value) (c:Array Value) (base i:Nat) (w:World),w.heap[b]?=some (.cells c e d)->
  base+i+vs.length<=c.size->(∀k,k<c.size->¬ (d.1<=k∧k<d.2))->(∀v∈vs,(∀l,v≠.agg l)∧∀l,v≠.tuple l)->
  (storeCells ⟨b,base,none⟩ vs i).run P w=.ok () {w with heap:=w.heap.setIfInBounds b (.cells (over c (base+i) vs) e d)}:=by
 intro vs;induction vs with
 | nil=>
  intro c base i w a p h n;have:w.heap.setIfInBounds b (.cells c e d)=w.heap:=by apply ac2;intro j;by_cases hj:b=j;subst hj;rw [X3 (q8.1 a).1,a];rw [W9 hj]
  simp [storeCells,over,this]
 | cons v vs ih=>
  intro c base i w a p h n;simp only [Y3] at p;have f:base+i<c.size:=by omega
  have o:=n v (by simp);have q:w.cell? ⟨b,base+i,none⟩=some c[base+i]:=by simp [World.cell?,a,f]
  have m:w.frozen? ⟨b,base+i,none⟩=false:=by have:=h (base+i) f;simp only [World.frozen?,a,agj,decide_eq_false_iff_not];omega
  simp only [storeCells,J3];rw [show (⟨b,base,none⟩:Addr).add i=⟨b,base+i,none⟩ from by simp [Addr.add],run_store q m o.1 o.2,gM];have g:w.setCell ⟨b,base+i,none⟩ v={w with heap:=w.heap.setIfInBounds b (.cells (c.setIfInBounds (base+i) v) e d)}:=by simp only [World.setCell];congr 1;apply ac2;intro j;rw [agi];by_cases hj:b=j;subst hj;rw [if_pos rfl,a,X3 (q8.1 a).1];simp;rw [if_neg hj,W9 hj]
  rw [g,ih (c.setIfInBounds (base+i) v) base (i+1) _ (by simp [X3 (q8.1 a).1]) (by simp;omega) (by simpa using h) (λx r=>n x (by simp [r]))];congr 2;simp [over,aez]
theorem EL {rs n off:Nat}{rows rows':T (List d9)}{b:List d9}(h:U6 rs n rows off b=some rows'):
  off / rs<n∧∃row,rows.get (off / rs)=some row∧off%rs+b.length<=rs∧rows'=rows.put (off / rs) (jY (off%rs) b row):=by
 obtain⟨c,h⟩:=D5 h;obtain⟨row,d,h⟩:=z8 h;obtain⟨a,h⟩:=D5 h;have a:=K9 a;rw [I4] at a;cases h;exact⟨Eq.mp Xb c,row,d,a,rfl⟩
theorem xP {n:Nm}{h h':Array Obj}{l:Loc}{rs k off:Nat}{rows rows':T (List d9)}{g:List d9}(hb:bO P ι n h l (.cells rs k rows))(V:U6 rs k rows off g=some rows')
  (w:X0 n g) {c:Array Value} {e:TypeId} {r:Nat×Nat} (R:h[l.b]?=some (.cells c e r)) (t:h'[l.b]?=some (.cells (over c (l.base+off) (o9 ι g)) e r)):
  bO P ι n h' l (.cells rs k rows')∧l.base+off+g.length<=c.size:=by
 obtain⟨B,C,s,F,M,⟨O,N,Q,a,q⟩,G⟩:=hb;rw [R] at F;cases F;obtain⟨A,X,Z,w3,rfl⟩:=EL V;obtain⟨f,D,J,E,K⟩:=G _ A;rw [Z] at D;cases D;have S:off / rs*rs+off%rs=off:=by rw [adE];exact ajP off rs
 have H:off / rs*rs+rs<=k*rs:=by
  calc off / rs*rs+rs=(off / rs+1)*rs:=by rw [aaZ]
   _<=k*rs:=Y8 _ A
 have m:l.base+off+g.length<=c.size:=by omega
 refine⟨⟨_,e,r,t,by simpa using M,⟨O,N,Q,a.put _ _ (by omega),λY p I=>?_⟩,λi U=>?_⟩,m⟩;have L:off / rs=0:=Nat.lt_one_iff.1 (aeL A p);rw [L,Qv a (by omega) (by omega)] at I;obtain⟨x,y,z⟩:=q Y p I;exact⟨x,y,by simpa using z⟩;by_cases hi0:i=off / rs;subst hi0;refine⟨_,T.aO a _ _ (by omega),by rw [xw _ _ _ (by omega)];exact J,?_,λj u=>?_⟩;rw [kC _ _ _ (by omega),bB];intro v d;rcases Z5.1 d with d | d;exact M6 E (aeI d);rcases Z5.1 d with d | d;exact M6 w d;exact M6 E (adH d);have o:=K j u;rw [xO _ _ _ (by simp;omega),Qt _ _ _ (by omega)];simp only [Q9];by_cases c1:j<off%rs;rw [if_pos (by omega),if_neg (by omega)];exact o;by_cases c2:j<off%rs+g.length;rw [if_neg (by omega),if_pos (by omega),if_pos (by omega),V4];congr 2;omega;rw [if_neg (by omega),if_neg (by omega),if_neg (by omega)];exact o;obtain⟨f,x,y,z,W⟩:=G i U;refine⟨f,by rw [T.aZ a _ _ _ (by omega) (λe=>hi0 e.symm)];exact x,y,z,λj u=>?_⟩;rw [xO _ _ _ (by simp;omega),← W j u];simp only [Q9];rcases aeD i (off / rs) with hlt | hge;have:i*rs+rs<=off / rs*rs:=by
  calc i*rs+rs=(i+1)*rs:=by rw [aaZ]
   _<=off / rs*rs:=Y8 _ hlt
 rw [if_pos (by omega)];have:off / rs*rs+rs<=i*rs:=by
  calc off / rs*rs+rs=(off / rs+1)*rs:=by rw [aaZ]
   _<=i*rs:=Y8 _ (by omega)
 rw [if_neg (by omega),if_neg (by omega)]
theorem EN (rs n:Nat)(rows:T (List d9))(off:Nat):fC rs n [] rows off=some rows:=rfl
theorem Cz (rs n:Nat)(v:d9)(a:List d9)(rows:T (List d9))(off:Nat):
  fC rs n (v::a) rows off=ob (U6 rs n rows off [v]) λrows'=>fC rs n a rows' (off+1):=rfl
theorem eF {h:Array Obj}{b:Nat}{x o:Obj}(hb:h[b]?=some x):(h.setIfInBounds b o)[b]?=some o:=
 X3 (q8.1 hb).1
theorem set_set (h:Array Obj)(b:Nat)(x y:Obj):(h.setIfInBounds b x).setIfInBounds b y=h.setIfInBounds b y:=by apply ac2;intro j;by_cases hj:b=j;subst hj;by_cases hb:b<h.size;rw [X3 (by simpa using hb),X3 hb];simp [adB hb];rw [W9 hj,W9 hj,W9 hj]
theorem EO {n:Nm}{l:Loc}{rs k:Nat}{e:TypeId}{g:Nat×Nat}:∀(vs:List d9) (off:Nat) (rows rows':T (List d9)) (h:Array Obj) (c:Array Value),
  bO P ι n h l (.cells rs k rows)->fC rs k vs rows off=some rows'->X0 n vs->h[l.b]?=some (.cells c e g)->
  bO P ι n (h.setIfInBounds l.b (.cells (over c (l.base+off) (o9 ι vs)) e g)) l (.cells rs k rows')∧(vs≠[]->l.base+off+vs.length<=c.size):=by
 intro vs;induction vs with
 | nil=>intro off rows rows' h c i f _ a;rw [EN] at f;cases f;refine⟨i.mono (n:=n) (λ_ _=>rfl) (Nm.le_refl n) λ_=>?_,λh=>absurd rfl h⟩;rw [eF a,a];rfl
 | cons v vs ih=>
  intro off rows rows' h c i f d a;rw [Cz] at f;obtain⟨m,r,s⟩:=z8 f;obtain⟨o,p⟩:=xP (h':=h.setIfInBounds l.b (.cells (over c (l.base+off) (o9 ι [v])) e g)) i r ⟨d.1,trivial⟩ a (eF a);obtain⟨j,q⟩:=ih (off+1) _ _ _ _ o s d.2 (eF a);rw [set_set] at j;refine⟨?_,λ_=>?_⟩;simpa [o9,over,aez] using j;cases vs with
  | nil=>simpa using p
  | cons u vs=>have:=q (by simp);simp at this ⊢;omega
theorem Fz (r:RM P G ι m w.heap){id rs k off:Nat}{rows rows':T (List d9)}(q:m.lim<=id)(p:m.get id=some (.cells rs k rows)){d:List d9}
  (y:K4 d=true) (A:X0 (m.nm ι) d)
  (hb:∀c e fz,w.heap[(ι id).b]?=some (.cells c e fz)->bO P ι (m.nm ι) (w.heap.setIfInBounds (ι id).b (.cells (over c ((ι id).base+off) (o9 ι d)) e fz)) (ι id) (.cells rs k rows')∧
   (d≠[]->(ι id).base+off+d.length<=c.size)):
  ∃w',(storeCells (ι.at id off) (o9 ι d) 0).run P w=.ok () w'∧Step P G ι m w ι (m.set id (.cells rs k rows')) w':=by
 obtain⟨c,e,fz,g,_⟩:=r.blk id _ p;obtain⟨f,o⟩:=hb c e fz g;have a:=(r.own id _ q p rfl).free c e fz g;have s:∀v∈o9 ι d,(∀l,v≠.agg l)∧∀l,v≠.tuple l:=by intro v t;rw [ak] at t;obtain⟨u,B,rfl⟩:=ac4.1 t;exact zh (nY y u B)
 refine⟨{w with heap:=w.heap.setIfInBounds (ι id).b (.cells (over c ((ι id).base+off) (o9 ι d)) e fz)},?_,?_⟩;cases d with
 | nil=>
  have:w.heap.setIfInBounds (ι id).b (.cells c e fz)=w.heap:=by apply ac2;intro j;by_cases hj:(ι id).b=j;subst hj;rw [eF g,g];rw [W9 hj]
  simp [o9,storeCells,over,this]
 | cons v d=>have:=o (by simp);rw [H6.xA (r.spot id _ p rfl)];exact mX (o9 ι (v::d)) c ((ι id).base+off) 0 w g (by simpa using this) a s
 refine Step.set r q p rfl rfl ⟨rfl,rfl,rfl,rfl⟩ ?_ (λC D x h=>by cases h;simpa using a);exact f.mono (n:=m.nm ι) (λ_ _=>rfl) (Mem.U2 (λi z=>Mem.lH r.ok p rfl i z) λ_ _=>rfl) λ_=>rfl
theorem EP (l:RM P G ι m w.heap){id off:Nat}{d:List d9}{β:Type}{k:Mem->Option β}{r:β}(hs:storeAt m id off d k=some r)(a:X0 (m.nm ι) d):
  ∃m' w',k m'=some r∧(storeCells (ι.at id off) (o9 ι d) 0).run P w=.ok () w'∧Step P G ι m w ι m' w':=by
 obtain⟨g,hs⟩:=iU hs;obtain⟨v,hs⟩:=D5 hs;obtain⟨z,n,o,j,hs⟩:=bJ hs;obtain⟨rows',y,x⟩:=z8 hs;have f:m.lim<=id:=by rcases aeD id m.lim with h | h;rw [(Eq.mpr Xb h:Nat.blt id m.lim=true)] at g;cases g;exact h
 obtain⟨w',t,u⟩:=Fz (off:=off) (rows':=rows') l f j v a (λc e s i=>by
  obtain⟨p,q⟩:=xP (h':=w.heap.setIfInBounds (ι id).b (.cells (over c ((ι id).base+off) (o9 ι d)) e s)) (l.blk id _ j) y a i (eF i);exact⟨p,λ_=>q⟩)
 exact⟨_,w',x,t,u⟩
theorem kR (g:RM P G ι m w.heap){id off:Nat}{b:List d9}{β:Type}{k:Mem->Option β}{r:β}(hs:iD m id off b k=some r)(d:X0 (m.nm ι) b):
  ∃m' w',k m'=some r∧(storeCells (ι.at id off) (o9 ι b) 0).run P w=.ok () w'∧Step P G ι m w ι m' w':=by
 cases b with
 | nil=>exact⟨m,w,hs,by simp [o9,storeCells],Step.refl g⟩
 | cons v b=>
  have hs:bi (Nat.blt id m.lim) none (bi (K4 (v::b)) (R4 (m.get id) λi n a=>ob (fC i n (v::b) a off) λrows'=>k (m.set id (.cells i n rows'))) none)=some r:=hs;obtain⟨j,hs⟩:=iU hs;obtain⟨q,hs⟩:=D5 hs;obtain⟨i,n,a,l,hs⟩:=bJ hs;obtain⟨rows',u,t⟩:=z8 hs;have f:m.lim<=id:=by rcases aeD id m.lim with h | h;rw [(Eq.mpr Xb h:Nat.blt id m.lim=true)] at j;cases j;exact h
  obtain⟨w',o,p⟩:=Fz (off:=off) (rows':=rows') g f l q d (λc e x s=>EO (v::b) off a rows' _ c (g.blk id _ l) u d s);exact⟨_,w',t,o,p⟩
theorem iI {a b:Nat}(h:Nat.blt a b=false):b<=a:=by rcases aeD a b with g | g;rw [(Eq.mpr Xb g:Nat.blt a b=true)] at h;cases h;exact g
theorem Ko (s:St P ι (m.nm ι) slots done ls env a.tmps)(u:RM P G ι m w.heap){t:TypeId}{x y:Operand}{k:Nat}{l c:N9}(r:V5 P t=some k)
  (A:J7 P slots done x=some l) (B:J7 P slots done y=some c) {cf:D7} {outs:List VM} (z:lY (.store k l c) cf ls env m=some outs):
  ∀o:Oper,o.op=.store t x y->Does P a.eval o w (V9 P G ι m w outs):=by
 intro o v;obtain⟨id,off,f,h⟩:=cZ z;have f:D8 l ls env=.ptr id off:=f;obtain⟨g,h⟩:=D5 h;have g:(D8 c ls env).cells.length=k:=by rw [← I4];exact aP g
 obtain⟨n,_⟩:=y9 s A;obtain⟨p,e⟩:=y9 s B;obtain⟨C,w',i,d,b⟩:=EP u h (rY e);cases i;refine zf (w':=w') ?_ ⟨_,aA.2 rfl,ι,b,trivial,rfl⟩;have j:(l7 ι (D8 c ls env)).cells.size=k:=by rw [jG];simp [g]
 have q:(l7 ι (D8 c ls env)).cells.toList=o9 ι (D8 c ls env).cells:=by rw [jG]
 simp [execOp,v,Instr.storeAt,n,p,f,l7,Instr.sureAddr,storeVar,run_sizeOf r,j,q,d]
end
section
variable {P:Program}{G:Mem}{ι:H6}{m:Mem}{w:World}{slots:List Nat}{done:List (Option Nat)}{ls:List d9}{env:T d9}{a:Act}
theorem qF {r:Nat}{o x:Obj}(h:w.heap[r]?=some x)(a:∀c e fz,x≠.cells c e fz):(setObj r o).run P w=.ok () {w with heap:=w.heap.setIfInBounds r o}:=by simp only [setObj,Sem.run,h]
theorem jV {kk:PK}{x y:d9}(h:Et kk x y=some true)(n:Nat):Instr.sameBits n (l7 ι x) (l7 ι y)=true:=by
 cases kk with
 | i=>obtain⟨k,p,q,rfl,rfl,a⟩:=mU (show K3 x y=some true from h);simp [l7,Instr.sameBits];simpa using a.symm
 | b=>obtain⟨p,q,rfl,rfl,a⟩:=eX (show mE x y=some true from h);simp [l7,Instr.sameBits];simpa using a.symm
 | s=>obtain⟨p,q,rfl,rfl,a⟩:=ig (show eqStr x y=some true from h);simp [l7,Instr.sameBits,jT];simpa using a.symm
theorem vg:∀(ks:List PK) (x y:List d9),aM ks x y=some true->x.length=ks.length->y.length=ks.length->∀n,
  ((o9 ι x).zip (o9 ι y)).all (λ(p:Value×Value)=>Instr.sameBits n p.1 p.2)=true
 | [],x,y,_,h1,h2,n=>by cases x<;>simp_all [o9]
 | k::ks,x,y,h,h1,h2,n=>by
  cases x with
  | nil=>simp at h1
  | cons a x=>
   cases y with
   | nil=>simp at h2
   | cons b y=>
    rw [iF] at h;obtain⟨r,h3,h4⟩:=z8 h;cases r with
    | false=>cases h4
    | true=>have ih:=vg ks x y h4 (by simpa using h1) (by simpa using h2) n;simp only [o9,List.zip_cons_cons,aeU,jV h3 n,abY];exact ih
theorem Ib {kk:yK}{t:TypeId}(z:rD P t=some kk){x y:d9}(h:kL kk x y=some true)(f:x.cells.length=yQ kk)(g:y.cells.length=yQ kk):
  Instr.sameBits 10000 (l7 ι y) (l7 ι x)=true:=by
 have c:∀kk x y,Et kk x y=some true->Et kk y x=some true:=by
  intro kk x y h;cases kk with
  | i=>obtain⟨k,p,q,rfl,rfl,d⟩:=mU (show K3 x y=some true from h)
       have:p=q:=(by simpa using d.symm);subst this;exact h
  | b=>obtain⟨p,q,rfl,rfl,d⟩:=eX (show mE x y=some true from h)
       have:p=q:=(by simpa using d.symm);subst this;exact h
  | s=>obtain⟨p,q,rfl,rfl,d⟩:=ig (show eqStr x y=some true from h)
       have:p=q:=(by simpa using d.symm);subst this;exact h
 rcases ug z with⟨rfl,_⟩ | ⟨_,rfl,_⟩ | ⟨rfl,_⟩ | ⟨fs,a,rfl,_,_⟩;exact jV (kk:=.b) (c .b x y h) _;exact jV (kk:=.i) (c .i x y h) _;exact jV (kk:=.s) (c .s x y h) _;obtain⟨l,rfl,n⟩:=dh h;obtain⟨j,rfl,o⟩:=dh n;have f:l.length=a.length:=f;have g:j.length=a.length:=g;have e:∀(a:List PK) (x y:List d9),aM a x y=some true->aM a y x=some true:=by
  intro a;induction a with
  | nil=>intro x y h;exact jI y x
  | cons k a ih=>
   intro x y h;cases x with
   | nil=>cases h
   | cons u x=>
    cases y with
    | nil=>cases h
    | cons v y=>
     rw [iF] at h ⊢;obtain⟨r,w,m⟩:=z8 h;cases r with
     | false=>cases m
     | true=>rw [c k u v w];exact ih x y m
 have:=vg (ι:=ι) a j l (e a l j o) g f 9999;simp only [l7,Instr.sameBits,aey,Q9,f,g,beq_self_eq_true,abY];exact this
theorem sN (ι:H6)(e:d9×d9):∀(es:List (d9×d9)) (j:Nat),F6 ι (es ++ [e]) j=F6 ι es j ++ [{key:=l7 ι e.1,val:=l7 ι e.2,born:=j+es.length}]
 | [],j=>by simp [F6]
 | x::es,j=>by simp [F6,sN ι e es,aez,agp 1]
theorem CB (k v:d9)(i:Nat):aN [] k v i=[]:=rfl
theorem kE (e:d9×d9)(es:List (d9×d9))(k v:d9):aN (e::es) k v 0=(k,v)::es:=rfl
theorem kF (e:d9×d9)(es:List (d9×d9))(k v:d9)(i:Nat):aN (e::es) k v (i+1)=e::aN es k v i:=rfl
theorem vk (k v:d9):∀(es:List (d9×d9)) (i:Nat),(aN es k v i).length=es.length
 | [],i=>rfl
 | e::es,0=>by simp [kE]
 | e::es,i+1=>by simp [kF,vk k v es]
theorem qG {k v:d9}:∀{es:List (d9×d9)} {i:Nat} {x:d9×d9},x∈aN es k v i->x=(k,v)∨x∈es
 | [],i,x,h=>by cases h
 | e::es,0,x,h=>by rw [kE] at h;rcases X4.1 h with h | h;exact .inl h;exact .inr (Y1 _ h)
 | e::es,i+1,x,h=>by rw [kF] at h;rcases X4.1 h with h | h;exact .inr (by rw [h];exact abU);rcases qG h with h | h;exact .inl h;exact .inr (Y1 _ h)
theorem sO (ι:H6)(k v:d9):∀(es:List (d9×d9)) (i j:Nat),
  (F6 ι es j).modify i (λe=>{e with key:=l7 ι k,val:=l7 ι v})=F6 ι (aN es k v i) j
 | [],i,j=>by simp [F6,CB]
 | e::es,0,j=>by simp [F6,kE]
 | e::es,i+1,j=>by simp [F6,kF,sO ι k v es]
theorem Bb (C:RM P G ι m w.heap){t O e:TypeId}{kk:yK}(N:P.underlying t=some (.map O e))(J:rD P O=some kk){id:Nat}{k x:d9}{es:List (d9×d9)}
  (z:m.lim<=id) (v:m.get id=some (.map es)) {r:Option (Nat×d9)} (S:O5 (kL kk) (yQ kk) k es=some r) (B:k.lt (m.nm ι)) (D:x.lt (m.nm ι)) {outs:List VM}
  (q:Option.rec (one .undef (m.set id (.map (ah es [(k,x)])))) (λp=>ob (pq p.1 es) λe=>
   bi (Nat.beq (len' e.1.cells) (yQ kk)) (one .undef (m.set id (.map (aN es k x p.1)))) none) r=some outs):
  ∃w',(Instr.mapUpdate t (.map (some (ι id).b)) (l7 ι k) (l7 ι x)).run P w=.ok () w'∧V9 P G ι m w outs undef w':=by
 obtain⟨L,⟨y,b,R⟩,M⟩:=iY S;obtain⟨c,f⟩:=C.blk id _ v;have g:=dN (P:=P) c (by intro _ _ _ e;cases e);have l:=λo=>qF (P:=P) (o:=o) c (by intro _ _ _ e;cases e);have u:=jU (ι:=ι) J M w;have s:=Bt (ι:=ι) J L R false w;cases r with
 | none=>cases q;refine⟨{w with heap:=w.heap.setIfInBounds (ι id).b (.map (F6 ι (es ++ [(k,x)]) 0).toArray (es ++ [(k,x)]).length)},?_,_,aA.2 rfl,ι,Step.set C z v rfl rfl (o:=.map (F6 ι (es ++ [(k,x)]) 0).toArray (es ++ [(k,x)]).length) ⟨rfl,rfl,rfl,rfl⟩ ?_ (by intro _ _ _ h;cases h),trivial,rfl⟩;simp only [Instr.mapUpdate,J3,run_underlying N,g,gM,s,u,kW,aeK,l];simp [sN];rw [Q8];refine⟨eF c,λe d=>?_⟩;have a:=Mem.U2 (ι:=ι) (ι':=ι) (λi I=>Mem.lH (b':=.map (es ++ [(k,x)])) C.ok v rfl i I) λ_ _=>rfl;rcases Z5.1 d with d | d;exact⟨d9.L6 a _ (f e d).1,d9.L6 a _ (f e d).2⟩;rw [aA.1 d];exact⟨d9.L6 a _ B,d9.L6 a _ D⟩
 | some p=>
  obtain⟨e,F,q⟩:=z8 q;obtain⟨H,q⟩:=D5 q;cases q;rw [gW] at F;have H:e.1.cells.length=yQ kk:=by rw [← I4];exact aP H
  obtain⟨j,T,E,K,_,Q⟩:=jJ M;rw [Z8] at E;rw [E,K] at F;cases F;have n:=Ib (ι:=ι) J Q L H;refine⟨{w with heap:=w.heap.setIfInBounds (ι id).b (.map (F6 ι (aN es k x p.1) 0).toArray es.length)},?_,_,aA.2 rfl,ι,Step.set C z v rfl rfl (o:=.map (F6 ι (aN es k x p.1) 0).toArray es.length) ⟨rfl,rfl,rfl,rfl⟩ ?_ (by intro _ _ _ h;cases h),trivial,rfl⟩;have A:(((F6 ι es 0).toArray[p.1]?).map (·.key)).getD (l7 ι k)=l7 ι e.1:=by simp [kD,E,K]
  simp only [Instr.mapUpdate,J3,run_underlying N,g,gM,s,u,kW,aav,A,Instr.keyThatStays,n,if_true,Y2,l];rw [List.modify_toArray,sO];refine⟨by rw [vk];exact eF c,λe d=>?_⟩;have a:=Mem.U2 (ι:=ι) (ι':=ι) (λi I=>Mem.lH (b':=.map (aN es k x p.1)) C.ok v rfl i I) λ_ _=>rfl;rcases qG d with d | d;rw [d];exact⟨d9.L6 a _ B,d9.L6 a _ D⟩;exact⟨d9.L6 a _ (f e d).1,d9.L6 a _ (f e d).2⟩
theorem FB {ι:H6}(k v:d9):∀(L:List MapEntry) (es:List (d9×d9)) (j:Nat),L.map rF=es.map (λe=>(l7 ι e.1,l7 ι e.2))->
  (L.modify j λe=>{e with key:=l7 ι k,val:=l7 ι v}).map rF=(aN es k v j).map λe=>(l7 ι e.1,l7 ι e.2)
 | [],[],j,_=>by simp [CB]
 | [],_ :: _,_,h=>by cases h
 | _ :: _,[],_,h=>by cases h
 | x::L,e::es,0,h=>by simp only [Y6,aeG] at h;rw [kE];simp [rF];simpa [rF] using h.2
 | x::L,e::es,j+1,h=>by simp only [Y6,aeG] at h;rw [kF];simp [h.1,FB k v L es j h.2]
def Kq (u:List UInt8)(x:d9)(e:d9×d9):d9×d9:=match e.1 with
 | .str t=>if t=u then (.str u,x) else e
 | _=>e
theorem TI (u:List UInt8)(x:d9)(e:d9×d9):(Kq u x e).1=e.1:=by
 obtain⟨k,v⟩:=e;cases k<;>simp only [Kq]
 split;rename_i h;rw [h];rfl
theorem OM {u:List UInt8}{x:d9}:∀{es:List (d9×d9)},(∀e∈es,e.1≠.str u)->es.map (Kq u x)=es
 | [],_=>rfl
 | e::es,h=>by
  rw [Y6,OM λy hy=>h y (by simp [hy])];congr 1;have:=h e (by simp);obtain⟨k,v⟩:=e;cases k<;>simp only [Kq]
  split;rename_i h';exact absurd (by simp [h']) this;rfl
theorem nZ {u:List UInt8}{x v:d9}:∀{es:List (d9×d9)} {j:Nat},(es.map (·.1)).Nodup->es[j]?=some (.str u,v)->aN es (.str u) x j=es.map (Kq u x)
 | [],j,_,h=>by simp at h
 | e::es,0,hn,h=>by simp at h;subst h;simp only [Y6,aew] at hn;rw [kE,Y6,OM λy hy hk=>hn.1 (by rw [← hk];exact ac4.2 ⟨y,hy,rfl⟩)];simp [Kq]
 | e::es,j+1,hn,h=>by
  simp only [Y6,aew] at hn;have h:es[j]?=some (.str u,v):=by simpa using h
  rw [kF,Y6,nZ hn.2 h];congr 1;have hne:e.1≠.str u:=λhk=>hn.1 (by rw [hk];exact ac4.2 ⟨_,U9 h,rfl⟩);obtain⟨k,w⟩:=e;cases k<;>simp only [Kq]
  split;rename_i h';exact absurd (by simp [h']) hne;rfl
theorem zi (hm:RM P G ι m w.heap){t kt e:TypeId}{kk:yK}(hu:P.underlying t=some (.map kt e))(Z:rD P kt=some kk){id:Nat}{u:List UInt8}{x:d9}{es:List (d9×d9)}
  (O:m.lim<=id) (Y:m.get id=some (.mapU es)) {r:Option (Nat×d9)} (hf:O5 (kL kk) (yQ kk) (.str u) es=some r) (W:x.lt (m.nm ι)) {B:List (d9×d9)}
  (hr:(r=none∧B=es ++ [(.str u,x)])∨∃p,r=some p∧B=aN es (.str u) x p.1):
  ∃w',(Instr.mapUpdate t (.map (some (ι id).b)) (l7 ι (.str u)) (l7 ι x)).run P w=.ok () w'∧V9 P G ι m w [⟨.undef,m.set id (.mapU B)⟩] undef w':=by
 obtain⟨h1,⟨y,b,h2⟩,C⟩:=iY hf;obtain⟨L,I,d,⟨hp,V,E⟩,q⟩:=hm.blk id _ Y;have s:=dN (P:=P) d (by intro _ _ _ e;cases e);have z:=λo=>qF (P:=P) (o:=o) d (by intro _ _ _ e;cases e);obtain⟨g,p1,p2⟩:=Ad _ hp;obtain⟨r',q1,q2⟩:=ZY Z p1 V E hf;have a5:(F6 ι g 0).map rF=L.map rF:=by rw [vX];exact p2.symm
 have D:=jU (ι:=ι) Z q1 w;rw [Ct kt (l7 ι (.str u)) a5] at D;have N:=Bt (ι:=ι) Z h1 h2 false w;have f:∀b',bF b'=false->(m.nm ι).le ((m.set id b').nm ι):=λb' a0=>Mem.U2 (ι:=ι) (ι':=ι) (λi hi=>Mem.lH (b':=b') hm.ok Y a0 i hi) λ_ _=>rfl;have S:es≠[]->kL kk=eqStr:=λF=>by
  cases es with
  | nil=>exact absurd rfl F
  | cons A es=>obtain⟨s0,a7⟩:=V A (by simp);rw [bQ,a7] at C;obtain⟨b0,a2,_⟩:=z8 C;rw [(OL Z a2).1];rfl
 rcases hr with⟨rfl,rfl⟩ | ⟨p,rfl,rfl⟩;obtain rfl:r'=none:=by cases r'<;>simp at q2 ⊢
 refine⟨{w with heap:=w.heap.setIfInBounds (ι id).b (.map (L ++ [(⟨l7 ι (.str u),l7 ι x,I⟩:MapEntry)]).toArray (I+1))},?_,_,aA.2 rfl,ι,Step.set hm O Y rfl rfl (o:=.map (L ++ [(⟨l7 ι (.str u),l7 ι x,I⟩:MapEntry)]).toArray (I+1)) ⟨rfl,rfl,rfl,rfl⟩ ?_ (by intro _ _ _ h;cases h),trivial,rfl⟩;simp only [Instr.mapUpdate,J3,run_underlying hu,s,gM,N,D,kW,aeK,z];simp;refine⟨_,_,eF d,⟨?_,λe c=>?_,?_⟩,λe c=>?_⟩;simp only [ac5,Y6,List.map_nil];exact hp.append_right _;rcases Z5.1 c with c | c;exact V e c;rw [aA.1 c];exact⟨u,rfl⟩;simp only [ac5,Y6,List.map_nil];rw [List.nodup_append];refine⟨E,by simp,?_⟩;intro a ha b hb M;rw [aA.1 hb] at M;subst M;obtain⟨A,a3,a4⟩:=ac4.1 ha;have Q:(d9.str u,A.2)∈es:=by rw [← a4];exact a3
 obtain⟨j,J,_⟩:=nX es 0 V E Q;rw [S (List.ne_nil_of_mem Q),J] at C;cases C;rcases Z5.1 c with c | c;exact⟨d9.L6 (f _ rfl) _ (q e c).1,d9.L6 (f _ rfl) _ (q e c).2⟩;rw [aA.1 c];exact⟨trivial,d9.L6 (f _ rfl) _ W⟩;obtain⟨p',rfl⟩:∃p',r'=some p':=by cases r' with
  | none=>simp at q2
  | some p'=>exact⟨p',rfl⟩
 have F:es≠[]:=by rintro rfl;rw [bP] at C;cases C
 have c:=S F;have k:∃v,es[p.1]?=some (.str u,v):=by
  obtain⟨j,A,J,g2,_,K⟩:=jJ C;rw [c] at K;obtain⟨a1,b1,g5,g6,g7⟩:=ig K;cases g5;have:u=b1:=by simpa using g7.symm
  subst this;exact⟨A.2,by rw [J,Z8,g2,← g6]⟩
 have n:∃v,g[p'.1]?=some (.str u,v):=by
  obtain⟨j,A,J,g2,_,K⟩:=jJ q1;rw [c] at K;obtain⟨a1,b1,g5,g6,g7⟩:=ig K;cases g5;have:u=b1:=by simpa using g7.symm
  subst this;exact⟨A.2,by rw [J,Z8,g2,← g6]⟩
 obtain⟨v1,k⟩:=k;obtain⟨v2,n⟩:=n;have hL:∃X,L[p'.1]?=some X∧X.key=l7 ι (.str u):=by
  have:=congrArg (λl=>l[p'.1]?) p2;simp only [aas,n,aav] at this;cases hl:L[p'.1]? with
  | none=>rw [hl] at this;cases this
  | some X=>rw [hl] at this;simp at this;exact⟨X,rfl,this.1⟩
 obtain⟨X,T,U⟩:=hL;have H:Instr.sameBits 10000 (l7 ι (.str u)) (l7 ι (.str u))=true:=by simp [l7,Instr.sameBits,jT]
 have a6:(g.map (·.1)).Nodup:=(p1.map _).nodup_iff.2 E;refine⟨{w with heap:=w.heap.setIfInBounds (ι id).b (.map (L.modify p'.1 λe=>{e with key:=l7 ι (.str u),val:=l7 ι x}).toArray I)},?_,_,aA.2 rfl,ι,Step.set hm O Y rfl rfl (o:=.map (L.modify p'.1 λe=>{e with key:=l7 ι (.str u),val:=l7 ι x}).toArray I) ⟨rfl,rfl,rfl,rfl⟩ ?_ (by intro _ _ _ h;cases h),trivial,rfl⟩;have R:((L.toArray[p'.1]?).map (·.key)).getD (l7 ι (.str u))=l7 ι (.str u):=by simp [T,U]
 simp only [Instr.mapUpdate,J3,run_underlying hu,s,gM,N,D,kW,aav,R,Instr.keyThatStays,H,if_true,Y2,z];rw [List.modify_toArray];refine⟨_,_,eF d,⟨?_,λe c=>?_,?_⟩,λe c=>?_⟩;rw [show (L.modify p'.1 λe=>{e with key:=l7 ι (.str u),val:=l7 ι x}).map (λx=>(x.key,x.val))=(aN g (.str u) x p'.1).map (λe=>(l7 ι e.1,l7 ι e.2)) from FB (.str u) x L g p'.1 p2,nZ a6 n,nZ E k];exact (p1.map _).map _;rcases qG c with c | c;rw [c];exact⟨u,rfl⟩;exact V e c;rw [nZ E k,aeP];rw [show ((λx=>x.1)∘Kq u x:d9×d9->d9)=λe=>e.1 from funext λe=>TI u x e];exact E;rcases qG c with c | c;rw [c];exact⟨trivial,d9.L6 (f _ rfl) _ W⟩;exact⟨d9.L6 (f _ rfl) _ (q e c).1,d9.L6 (f _ rfl) _ (q e c).2⟩
theorem FC {id:Nat}{k:d9}{es a:List (d9×d9)}(h:m.get id=some (.map es)):mF m id k a=one .undef (m.set id (.map a)):=by unfold mF;rw [h]
theorem CF {id:Nat}{k:d9}{es a:List (d9×d9)}(h:m.get id=some (.mapU es)):mF m id k a=nI k λ_=>one .undef (m.set id (.mapU a)):=by unfold mF;rw [h]
theorem xQ (s:St P ι (m.nm ι) slots done ls env a.tmps)(N:RM P G ι m w.heap){t S e:TypeId}{kk:yK}(O:P.underlying t=some (.map S e))(M:rD P S=some kk)
  {x k y:Operand} {E d n:N9} (Q:J7 P slots done x=some E) (B:J7 P slots done k=some d) (R:J7 P slots done y=some n)
  {cf:D7} {outs:List VM} (T:lY (.mapSet kk E d n) cf ls env m=some outs):
  ∀o:Oper,(o.op=.mapUpdate t x k y∨o.op=.insert t x k y)->Does P a.eval o w (V9 P G ι m w outs):=by
 intro o f;rcases uf T with⟨_,h⟩ | ⟨id,v,h⟩;cases h;obtain⟨L,h⟩:=iU h;obtain⟨q,j | j,h⟩:=Bv h
 case inr=>
  obtain⟨r,D,b⟩:=z8 h;have v:D8 E ls env=.map id:=v;obtain⟨F,_⟩:=y9 s Q;obtain⟨H,z⟩:=y9 s B;obtain⟨I,g⟩:=y9 s R;have K:∃u,D8 d ls env=.str u∧∃c,outs=[⟨.undef,m.set id (.mapU c)⟩]∧((r=none∧c=q ++ [(.str u,D8 n ls env)])∨∃p,r=some p∧c=aN q (.str u) (D8 n ls env) p.1):=by
   cases r with
   | none=>have b:mF m id (D8 d ls env) (ah q [(D8 d ls env,D8 n ls env)])=some outs:=b;rw [CF j] at b;obtain⟨u,l,b⟩:=fE b;cases b;rw [l,Q8];exact⟨u,rfl,_,rfl,.inl ⟨rfl,rfl⟩⟩
   | some p=>obtain⟨U,_,b⟩:=z8 b;obtain⟨_,b⟩:=D5 b;rw [CF j] at b;obtain⟨u,l,b⟩:=fE b;cases b;rw [l];exact⟨u,rfl,_,rfl,.inr ⟨p,rfl,rfl⟩⟩
  obtain⟨u,C,c,rfl,i⟩:=K;rw [C] at D;obtain⟨w',A,J⟩:=zi N O M (iI L) j D g i;refine zf (w':=w') ?_ J;rcases f with f | f<;>simp [execOp,f,F,H,I,v,C,l7,A]
  all_goals (simp only [l7] at A;simp [A])
 obtain⟨r,D,b⟩:=z8 h;have v:D8 E ls env=.map id:=v;obtain⟨F,_⟩:=y9 s Q;obtain⟨H,z⟩:=y9 s B;obtain⟨I,g⟩:=y9 s R;have b:Option.rec (one .undef (m.set id (.map (ah q [(D8 d ls env,D8 n ls env)])))) (λp=>ob (pq p.1 q) λe=>
   bi (Nat.beq (len' e.1.cells) (yQ kk)) (one .undef (m.set id (.map (aN q (D8 d ls env) (D8 n ls env) p.1)))) none) r=some outs:=by
  cases r with
  | none=>rw [← FC (k:=D8 d ls env) j];exact b
  | some p=>simp only [← FC (k:=D8 d ls env) j];exact b
 obtain⟨w',A,J⟩:=Bb N O M (iI L) j D z g b;refine zf (w':=w') ?_ J;rcases f with f | f<;>simp [execOp,f,F,H,I,v,l7,A]
theorem run_newObj (o:Obj)(w:World):(newObj o).run P w=.ok w.heap.size {w with heap:=w.heap.push o}:=by simp [newObj,Sem.run]
theorem Kr (d:RM P G ι m w.heap)(mp:Option Nat)(since:Nat)(a:∀x,mp=some x->m.has x):
  V9 P G ι m w [⟨.ptr m.nx 0,m.new (.iter mp since [])⟩] (.pointer (some ⟨w.heap.size,0,none⟩)) {w with heap:=w.heap.push (.mapIter (mp.map λx=>(ι x).b) since #[] since)}:=by
 have c:=Laid.new d.ok d.limn (.iter mp since []) rfl;refine⟨_,aA.2 rfl,ι.upd m.nx ⟨w.heap.size,0,0,none⟩,Step.lay (w':={w with heap:=w.heap.push (.mapIter (mp.map λx=>(ι x).b) since #[] since)}) d c (o:=.mapIter (mp.map λx=>(ι x).b) since #[] since) ⟨rfl,rfl,rfl,rfl⟩ rfl rfl ?_ (by intro _ _ _ h;cases h),c.self,by simp [l7,H6.at]⟩;refine⟨rfl,λx f=>c.has x (a x f),#[],since,?_,rfl,λ_=>rfl⟩;show (w.heap.push _)[w.heap.size]?=_;rw [bK];cases mp with
 | none=>rfl
 | some x=>simp [ι.upd_ne ⟨w.heap.size,0,0,none⟩ (λe=>c.free (e▸a x rfl):x≠m.nx)]
theorem Ku (s:St P ι (m.nm ι) slots done ls env a.tmps)(d:RM P G ι m w.heap){t k e:TypeId}(l:P.underlying t=some (.map k e))
  {x:Operand} {c:N9} (f:J7 P slots done x=some c) {cf:D7} {outs:List VM} (q:lY (.range c) cf ls env m=some outs):
  ∀o:Oper,o.op=.range t x->Does P a.eval o w (V9 P G ι m w outs):=by
 intro o j;obtain⟨g,n⟩:=y9 s f;rcases uf q with⟨b,h⟩ | ⟨id,b,h⟩;cases h;have b:D8 c ls env=.nilMap:=b;refine M0 (v:=.pointer (some ⟨w.heap.size,0,none⟩)) ?_ (Kr d none 0 (by simp));simp [execOp,j,Instr.range,run_underlying l,g,b,l7];obtain⟨p,i,h⟩:=za h;cases h;have b:D8 c ls env=.map id:=b;obtain⟨r,u⟩:=Ia d i;rw [I4];refine M0 (v:=.pointer (some ⟨w.heap.size,0,none⟩)) ?_ (Kr d (some id) p.length (by intro x f;cases f;exact⟨_,i,rfl⟩));simp [execOp,j,Instr.range,run_underlying l,g,b,l7,r]
theorem Ic (n:Nat):∀l:List Nat,qp n l=l.contains n
 | []=>rfl
 | x::l=>by show bi (Nat.beq x n) true (qp n l)=_;rw [Ic n l,sG,List.contains_cons];by_cases h:x=n;subst h;simp;rw [if_neg h,beq_eq_false_iff_ne.2 (λe=>h e.symm),aaO]
theorem wh (m:Mem)(id mp since:Nat)(a:List Nat)(e:d9×d9)(es:List (d9×d9))(i:Nat):
  nexts m id mp since a (e::es) i=bi (qp i a) (nexts m id mp since a es (i+1))
   (⟨.tuple [.bool true,e.1,e.2],m.set id (.iter (some mp) since (i::a))⟩::nexts m id mp since a es (i+1)):=rfl
theorem zk {m:Mem}{id mp since:Nat}{seen:List Nat}:∀{es:List (d9×d9)} {i j:Nat} {e:d9×d9},es[j]?=some e->seen.contains (i+j)=false->
  (⟨.tuple [.bool true,e.1,e.2],m.set id (.iter (some mp) since ((i+j)::seen))⟩:VM)∈nexts m id mp since seen es i
 | [],i,j,e,h,_=>by simp at h
 | x::es,i,0,e,h,hs=>by simp at h;subst h;rw [wh,Ic,show seen.contains i=false from hs];exact abU
 | x::es,i,j+1,e,h,hs=>by
  rw [wh];have:=zk (es:=es) (i:=i+1) (j:=j) (m:=m) (id:=id) (mp:=mp) (since:=since) (by simpa using h) (by rw [show i+1+j=i+(j+1) from by omega];exact hs);rw [show i+1+j=i+(j+1) from by omega] at this;cases qp i seen with
  | true=>exact this
  | false=>exact Y1 _ this
theorem CJ {m:Mem}{id mp since:Nat}{seen:List Nat}:∀{es:List (d9×d9)} {i:Nat},(∀j,j<es.length->seen.contains (i+j)=true)->nexts m id mp since seen es i=[]
 | [],i,h=>rfl
 | e::es,i,h=>by rw [wh,Ic,show seen.contains i=true from h 0 (by simp)];exact CJ λj hj=>by rw [show i+1+j=i+(j+1) from by omega];exact h (j+1) (by simpa using hj)
theorem CK (n:Nat)(a:0<n)(w:World):∃k w',(choose (.mapNext n)).run P w=.ok k w'∧k<n∧(w'=w∨w'={w with drawn:=w.drawn+1}):=by rw [run_choose];by_cases h:n<=1;exact⟨0,w,by simp [Question.forced,h],a,.inl rfl⟩;exact⟨_,_,by simp only [Question.forced,h,decide_false,aau,if_false];rfl,agk _ a,.inr rfl⟩
theorem TJ (u:RM P G ι m w.heap){id mp since:Nat}{seen:List Nat}{es:List (d9×d9)}(V:m.lim<=id)(q:m.get id=some (.iter (some mp) since seen))
  (D:m.get mp=some (.map es)) (J:es.length=since) (t:TypeId):
  ∃v w',(Instr.next (.pointer (some ⟨(ι id).b,0,none⟩)) false t).run P w=.ok v w'∧V9 P G ι m w (GV m (nexts m id mp since seen es 0)) v w':=by
 obtain⟨b1,b2,A,st,S,b4,b5⟩:=u.blk id _ q;obtain⟨c1,c2⟩:=u.blk mp _ D;have a1:st=since:=b5 (by simp);subst a1;subst J;have T:=dN (P:=P) S (by intro _ _ _ e;cases e);have U:=dN (P:=P) c1 (by intro _ _ _ e;cases e);generalize hL:F6 ι es 0=L at *;have a:∀x∈L,x.born<es.length:=by
  intro x p;obtain⟨j,g⟩:=aao p;rw [← hL,kD] at g;cases he:es[j]? with
  | none=>simp [he] at g
  | some e=>simp [he] at g;rw [← g];simpa using (gq.1 he).1
 have B:(!A.isEmpty && !L.toArray.isEmpty&&L.toArray.all (λe=>decide (e.born≥es.length)))=false:=by
  cases L with
  | nil=>simp
  | cons x L=>have:=a x (by simp);simp;intro _ h;omega
 have O:∀l:List MapEntry,(∀x∈l,x∈L)->l.filter (λe=>decide (e.born<es.length))=l:=λl Y=>aeW.2 λx p=>by simpa using a x (Y x p)
 have N:∀l:List MapEntry,(∀x∈l,x∈L)->l.filter (λe=>decide (e.born≥es.length))=[]:=λl Y=>agc.2 λx p=>by have:=a x (Y x p);simp;omega
 have n:=λx (p:x∈L.filter (λe=>!A.contains e.born))=>(aex.1 p).1;simp only [Instr.next,J3,T,gM,aav,U];rw [if_neg (by rw [B];simp)];simp only [List.filter_toArray,O _ n,N _ n];generalize hlf:L.filter (λe=>!A.contains e.born)=left at *;generalize hc:((if left.toArray.isEmpty=true then #[none] else #[])++Array.map some (left.toArray ++ [].toArray):Array (Option MapEntry))=cands;have c:cands=(if left=[] then #[none] else (left.map some).toArray):=by rw [← hc];cases left<;>simp
 have Q:0<cands.size:=by rw [c];split<;>simp_all;exact af3 (by simp;assumption)
 obtain⟨k,w1,X,r,s⟩:=CK (P:=P) cands.size Q w;simp only [J3,X,gM];have f:w1.heap=w.heap:=by rcases s with rfl | rfl<;>rfl
 have z:w1.os=w.os∧w1.output=w.output∧w1.tape=w.tape:=by rcases s with rfl | rfl<;>exact⟨rfl,rfl,rfl⟩
 have F:∀x,x∈A.toList↔x∈seen:=λx=>by rw [← b4];simp
 by_cases hl0:left=[];rw [if_pos hl0] at c;have W:k=0:=by rw [c] at r;simpa using r
 rw [c,W];have y:nexts m id mp es.length seen es 0=[]:=CJ λj g=>by
  have p:(F6 ι es 0)[j]?=some {key:=l7 ι es[j].1,val:=l7 ι es[j].2,born:=0+j}:=by rw [kD];simp [g]
  have d:({key:=l7 ι es[j].1,val:=l7 ι es[j].2,born:=0+j}:MapEntry)∈L:=by rw [← hL];exact U9 p
  rw [hl0] at hlf;have:=agc.1 hlf _ d;simp at this ⊢;rw [← F];simpa using this
 refine⟨.tuple #[.bool false],w1,by simp,⟨.tuple [.bool false],m⟩,by rw [y];exact aA.2 rfl,ι,?_,by simp [d9.lt,X0],by simp [l7,o9]⟩;rcases s with rfl | rfl;exact Step.refl u;exact Step.drew u _;rw [if_neg hl0] at c;have H:k<left.length:=by rw [c] at r;simpa using r
 have E:cands[k]?=some (some left[k]):=by rw [c];simp [H]
 have d:left[k]∈L∧A.contains left[k].born=false:=by have:=aex.1 (show left[k]∈L.filter (λe=>!A.contains e.born) from by rw [hlf];exact aaA H);simpa using this
 generalize left[k]=x at *;obtain⟨j,g⟩:=aao d.1;rw [← hL,kD] at g;cases he:es[j]? with
 | none=>simp [he] at g
 | some e=>
  simp [he] at g;subst g;have M:seen.contains (0+j)=false:=by have h2:=d.2;rw [aaB] at h2 ⊢;intro C;apply h2;simp at C ⊢;have:=(F j).2 C;simpa using this
  have Z:(nexts m id mp es.length seen es 0)≠[]:=List.ne_nil_of_mem (zk he M);have a0:GV m (nexts m id mp es.length seen es 0)=nexts m id mp es.length seen es 0:=by
   cases h:nexts m id mp es.length seen es 0 with
   | nil=>exact absurd h Z
   | cons=>rfl
  have R:=qF (P:=P) (w:=w1) (o:=.mapIter (some (ι mp).b) es.length (A.push j) es.length) (by rw [f];exact S) (by intro _ _ _ e;cases e);refine⟨.tuple #[.bool true,l7 ι e.1,l7 ι e.2],{w1 with heap:=w1.heap.setIfInBounds (ι id).b (.mapIter (some (ι mp).b) es.length (A.push j) es.length)},?_,_,by rw [a0];exact zk he M,ι,Step.set (w':={w1 with heap:=w1.heap.setIfInBounds (ι id).b (.mapIter (some (ι mp).b) es.length (A.push j) es.length)}) u V q rfl rfl (o:=.mapIter (some (ι mp).b) es.length (A.push j) es.length) ⟨by rw [f],z.1,z.2.1,z.2.2⟩ ?_ (by intro _ _ _ h;cases h),?_,?_⟩;rw [E];simp [R];refine⟨b1,λx p=>?_,A.push j,es.length,?_,?_,λ_=>rfl⟩;cases p;exact Mem.lH u.ok q rfl mp ⟨_,D,rfl⟩;simpa using eF S;simp [b4];have K:=c2 e (U9 he);have I:=Mem.U2 (ι:=ι) (ι':=ι) (λi hi=>Mem.lH (b':=.iter (some mp) es.length ((0+j)::seen)) u.ok q rfl i hi) λ_ _=>rfl;exact⟨trivial,d9.L6 I _ K.1,d9.L6 I _ K.2,trivial⟩;simp [l7,o9]
theorem Nk (s:St P ι (m.nm ι) slots done ls env a.tmps)(d:RM P G ι m w.heap)
  {x:Operand} {n:N9} (C:J7 P slots done x=some n) {cf:D7} {outs:List VM} (B:lY (.next n) cf ls env m=some outs):
  ∀o:Oper,o.op=.next x false->Does P a.eval o w (V9 P G ι m w outs):=by
 intro o q;obtain⟨p,t⟩:=y9 s C;obtain⟨id,off,f,h⟩:=cZ B;have f:D8 n ls env=.ptr id off:=f;obtain⟨A,h⟩:=D5 h;obtain rfl:off=0:=aP A;obtain⟨l,h⟩:=iU h;rcases Cv h with⟨sn',l',hit,h⟩ | ⟨mp,since,seen,hit,h⟩;cases h;obtain⟨g,D,H,I,r,E,F⟩:=d.blk id _ hit;have k:=dN (P:=P) r (by intro _ _ _ e;cases e);have c:a.eval x=.pointer (some ⟨(ι id).b,0,none⟩):=by rw [p,f];simp [l7,H6.at,g,d.spot _ _ hit rfl]
 refine M0 (v:=.tuple #[.bool false]) (w':=w) ?_ ⟨_,aA.2 rfl,ι,Step.refl d,by simp [d9.lt,X0],by simp [l7,o9]⟩;simp [execOp,q,c,Instr.next,k];obtain⟨u,j,h⟩:=za h;obtain⟨i,h⟩:=D5 h;have i:u.length=since:=by rw [← I4];exact aP i
 cases h;obtain⟨g,_⟩:=d.blk id _ hit;have c:a.eval x=.pointer (some ⟨(ι id).b,0,none⟩):=by rw [p,f];simp [l7,H6.at,g,d.spot _ _ hit rfl]
 obtain⟨v,w',y,z⟩:=TJ d (iI l) hit j i o.type;refine M0 (v:=v) (w':=w') ?_ z;simp [execOp,q,c,y]
end
section
variable {P:Program}{G:Mem}{ι:H6}{m:Mem}{w:World}{slots:List Nat}{done:List (Option Nat)}{ls:List d9}{env:T d9}{a:Act}
theorem mY (l:List UInt8):bytesOf l=l.map λb=>d9.int .u8 b.toNat:=by
 induction l with
 | nil=>rfl
 | cons b l ih=>simp [bytesOf,ih]
theorem sP {v:d9}{n:Nat}(h:lenOf v=some n)(w:World):(Builtin.lenOf (l7 ι v)).run P w=.ok n w:=by cases v<;>simp only [lenOf,gB,reduceCtorEq] at h<;>subst h<;>simp [l7,Builtin.lenOf,mO]
theorem gG (e:RM P G ι m w.heap){es n:Nat}{v:d9}{l:List d9}(h:gV m es n v=some l):
  (Builtin.firstCells es n (l7 ι v)).run P w=.ok (o9 ι l).toArray w∧X0 (m.nm ι) l:=by
 cases v<;>simp only [gV,gB,reduceCtorEq] at h
 subst h;refine⟨?_,by rw [mY,bB];intro v f;obtain⟨b,_,rfl⟩:=ac4.1 f;simp [d9.lt]⟩;simp only [l7,Builtin.firstCells,Y2];congr 1;simp [mY,ak,l7,Function.comp_def,ByteArray.data_extract,aeY];subst h;exact⟨by simp [l7,Builtin.firstCells,o9],trivial⟩;obtain⟨a,c,d⟩:=iX e h;exact⟨eY a d,c⟩;obtain⟨a,c,d⟩:=iX e h;exact⟨eY a d,c⟩
theorem Nl (s:St P ι (m.nm ι) slots done ls env a.tmps)(z:RM P G ι m w.heap){c:Call}{t u e:TypeId}{x y:Operand}{l p:N9}{es:Nat}(I:c.callee=.builtin .copy)
  (j:c.argTypes.toList=[t,u]) (g:c.args.toList=[x,y]) (L:P.underlying t=some (.slice e)) (q:V5 P e=some es)
  (U:J7 P slots done x=some l) (V:J7 P slots done y=some p) {cf:D7} {outs:List VM} (D:lY (.copy es l p) cf ls env m=some outs):
  ∀o:Oper,o.op=.call c->Does P a.eval o w (V9 P G ι m w outs):=by
 intro o K;have j:c.argTypes=#[t,u]:=by rw [← j,Z9]
 have g:c.args=#[x,y]:=by rw [← g,Z9]
 obtain⟨E,_⟩:=y9 s U;obtain⟨F,_⟩:=y9 s V;obtain⟨n,B,D⟩:=z8 D;have J:=sP (P:=P) (ι:=ι) B w;have H:∀id b d cap,l7 ι (D8 l ls env)=.slice (some (ι.at id b)) d cap->Tc.go es m n id b d (D8 p ls env)=some outs->Does P a.eval o w (V9 P G ι m w outs):=by intro id b d cap f h;obtain⟨A,Q,h⟩:=z8 h;obtain⟨M,N⟩:=gG z Q;obtain⟨X,w',T,r,k⟩:=kR z h N;cases T;refine M0 (v:=.int .i64 (Nat.min n d)) (w':=w') ?_ ⟨_,aA.2 rfl,ι,k,trivial,rfl⟩;simp [execOp,K,resolve,I,g,j,invoke,builtin,Builtin.copy_,run_underlying L,E,F,f,J,run_sizeOf q,M,r,goInt]
 rcases qw D with⟨f,h⟩ | ⟨id,b,d,cap,f,h⟩ | ⟨id,b,d,cap,f,h⟩;cases h;have f:D8 l ls env=.nilSlice:=f;have S:∃C,(Builtin.firstCells es 0 (l7 ι (D8 p ls env))).run P w=.ok C w:=by
  have W:gV m es 0 (D8 p ls env)=some []:=by generalize D8 p ls env=v at B;have O:∀i b,R8 m i b 0=some []:=λi b=>rfl;cases v<;>simp only [lenOf,reduceCtorEq] at B<;>simp [gV,bytesOf,O]
  exact⟨_,(gG z W).1⟩
 obtain⟨C,R⟩:=S;refine M0 (v:=.int .i64 0) (w':=w) ?_ ⟨_,aA.2 rfl,ι,Step.refl z,trivial,rfl⟩;simp [execOp,K,resolve,I,g,j,invoke,builtin,Builtin.copy_,run_underlying L,E,F,f,J,run_sizeOf q,l7,goInt,R];have f:D8 l ls env=.slice id b d cap:=f;exact H id b d cap (by rw [f];rfl) h;have f:D8 l ls env=.sliceU id b d cap:=f;exact H id b d (((ι id).cap-b) / cap) (by rw [f];simp only [l7]) h
theorem xR (z:List d9)(k:Nat):Builtin.zeroCells (o9 ι z).toArray k=(o9 ι (Q0 z k)).toArray:=by have:=Cy (ι:=ι) z k;rw [← this];simp [Builtin.zeroCells]
theorem Kv (s:St P ι (m.nm ι) slots done ls env a.tmps)(C:RM P G ι m w.heap){c:Call}{t e:TypeId}{x:Operand}{l:N9}{z:List d9}(p:c.callee=.builtin .clear)
  (j:c.argTypes.toList=[t]) (i:c.args.toList=[x]) (r:P.underlying t=some (.slice e)) (I:pE P e=some z)
  (H:J7 P slots done x=some l) {cf:D7} {outs:List VM} (F:lY (.clear z l) cf ls env m=some outs):
  ∀o:Oper,o.op=.call c->Does P a.eval o w (V9 P G ι m w outs):=by
 intro o q;have j:c.argTypes=#[t]:=by rw [← j,Z9]
 have i:c.args=#[x]:=by rw [← i,Z9]
 obtain⟨n,_⟩:=y9 s H;obtain⟨J,u,y,A⟩:=bI (P:=P) (w:=w) I ι;have B:∀id d b cap,l7 ι (D8 l ls env)=.slice (some (ι.at id d)) b cap->iD m id d (Q0 z b) (λD=>one (.tuple []) D)=some outs->Does P a.eval o w (V9 P G ι m w outs):=by
  intro id d b cap f h;obtain⟨D,w',E,g,k⟩:=kR C h (qD (A _) b);cases E;refine M0 (v:=.tuple #[]) (w':=w') ?_ ⟨_,aA.2 rfl,ι,k,by simp [d9.lt,X0],by simp [l7,o9]⟩;cases b with
  | zero=>
   rw [xL] at g;have:w'=w:=by simp [o9,storeCells] at g;exact g.symm
   subst this;simp [execOp,q,resolve,p,i,j,invoke,builtin,Builtin.clear_,run_underlying r,n,f]
  | succ b=>simp [execOp,q,resolve,p,i,j,invoke,builtin,Builtin.clear_,run_underlying r,n,f,u,y,xR,g]
 rcases qw F with⟨f,h⟩ | ⟨id,d,b,cap,f,h⟩ | ⟨id,d,b,cap,f,h⟩;cases h;have f:D8 l ls env=.nilSlice:=f;refine M0 (v:=.tuple #[]) (w':=w) ?_ ⟨_,aA.2 rfl,ι,Step.refl C,by simp [d9.lt,X0],by simp [l7,o9]⟩;simp [execOp,q,resolve,p,i,j,invoke,builtin,Builtin.clear_,run_underlying r,n,f,l7];have f:D8 l ls env=.slice id d b cap:=f;exact B id d b cap (by rw [f];rfl) h;have f:D8 l ls env=.sliceU id d b cap:=f;exact B id d b (((ι id).cap-d) / cap) (by rw [f];simp only [l7]) h
end
section
variable {P:Program}{G:Mem}{ι:H6}{m:Mem}{w:World}
theorem Step.aa0 {G:Mem}(h:RM P G ι m w.heap){id:Nat}{b b':N7}(A:m.lim<=id)(E:m.get id=some b)(H:Q7 b=true)(V:bF b'=false){o:Obj}{w':World}
  (C:Put w w' (ι id).b o) {l:Loc} (B:l.b=(ι id).b) (Q:l.spot=none)
  (I:bO P (ι.upd m.nx l) ((((m.set id .dead).new b')).nm (ι.upd m.nx l)) (w.heap.setIfInBounds (ι id).b o) l b')
  (W:∀c e fz,o=.cells c e fz->∀k,k<c.size->¬ (fz.1<=k∧k<fz.2)):
  Step P G ι m w (ι.upd m.nx l) ((m.set id .dead).new b') w':=by
 have L:=Mem.F9 h.ok E;have s:=Mem.U1 h.ok L .dead;have r:T.Ok (m.set id .dead).t (m.set id .dead).nx:=h.ok.put id .dead L;have g:∀i,((m.set id .dead).new b').get i=if i=m.nx then some b' else if i=id then some .dead else m.get i:=λi=>by rw [Mem.J9 r,s];rfl
 have F:∀i x,m.get i=some x->i≠m.nx:=λi x d e=>by have:=Mem.F9 h.ok d;omega
 have q:∀j,m.has j->ι.upd m.nx l j=ι j:=λj ⟨x,d,_⟩=>ι.upd_ne l (F j x d);have u:∀i,m.has i->((m.set id .dead).new b').has i:=λi ⟨x,d,hv⟩=>by by_cases he:i=id;exact⟨.dead,by rw [g,if_neg (F i x d),if_pos he],rfl⟩;exact⟨x,by rw [g,if_neg (F i x d),if_neg he];exact d,hv⟩
 have z:=h.own id b A E H;have J:(ι id).b<w.heap.size:=dB (h.blk id b E) H;have f:∀i x,((m.set id .dead).new b').get i=some x->Q7 x=true->(i=m.nx∧x=b')∨(i≠m.nx∧i≠id∧m.get i=some x):=λi x d a=>by rw [g] at d;split at d;cases d;exact .inl ⟨by assumption,rfl⟩;split at d;cases d;cases a;exact .inr ⟨by assumption,by assumption,d⟩
 refine⟨⟨r.push b',?_,?_,h.glim,aiB h.limn,h.gle,λi p=>by rw [g,if_neg (by have:=h.glim;have:=h.limn;omega),if_neg (by have:=h.glim;omega)];exact h.base i p,λi p=>u i (h.ghas i p),λi p=>by rw [q i (h.ghas i p)];exact h.glob i p,λi x d a=>by
   rcases f i x d a with⟨rfl,_⟩ | ⟨h1,_,h3⟩;rw [ι.S9];exact Q;rw [ι.upd_ne l h1];exact h.spot i x h3 a,h.JY λD N R=>by
   rw [C.heap,getElem?_set_ne];intro e;exact R ⟨id,b,A,E,H,e⟩⟩,q,u,ajS _,rfl,?_,by rw [C.heap];simp,?_,?_,C.os,C.out,C.tape⟩
 intro i x d;rw [g] at d;rw [C.heap];split at d;rename_i e;subst e;cases d;simpa using I;rename_i e;split at d;cases d;trivial;rename_i U;rw [ι.upd_ne l e];exact (h.blk i x d).mono (n:=m.nm ι) q (Mem.U2 u q) (λa=>getElem?_set_ne _ _ _ _ (λM=>z.alone i x U d a M.symm));intro i x p d a;have p:m.lim<=i:=p;rcases f i x d a with⟨rfl,rfl⟩ | ⟨h1,h2,h3⟩;refine⟨λj y O S v=>?_,λc e fz K=>?_⟩;rcases f j y S v with⟨h4,_⟩ | ⟨h4,h5,h6⟩;exact absurd h4 O;rw [ι.upd_ne l h4,ι.S9,B];exact z.alone j y h5 h6 v;rw [ι.S9,B,C.heap,X3 J] at K;exact W c e fz (Xl K);refine⟨λj y O S v=>?_,λc e fz K=>?_⟩;rw [ι.upd_ne l h1];rcases f j y S v with⟨rfl,_⟩ | ⟨h4,h5,h6⟩;rw [ι.S9,B];exact (h.own i x p h3 a).alone id b (λe=>h2 e.symm) E H;rw [ι.upd_ne l h4];exact (h.own i x p h3 a).alone j y O h6 v;rw [ι.upd_ne l h1,C.heap,getElem?_set_ne _ _ _ _ (λM=>z.alone i x h2 h3 a M.symm)] at K;exact (h.own i x p h3 a).free c e fz K;intro i p;rw [g,if_neg (by have:=h.limn;omega),if_neg (by omega)];intro D _ R;rw [C.heap,getElem?_set_ne];intro e;exact R ⟨id,b,A,E,H,e⟩;rintro D ⟨i,x,p,d,a,rfl⟩;rcases f i x d a with⟨rfl,rfl⟩ | ⟨h1,h2,h3⟩;rw [ι.S9,B];exact .inl ⟨id,b,A,E,H,rfl⟩;rw [ι.upd_ne l h1];exact .inl ⟨i,x,p,h3,a,rfl⟩
def Fits (P:Program)(ι:H6)(m:Mem)(es need:Nat)(cells:List d9)(b':N7):Prop:=
 bF b'=false∧∀(ι':H6) (n':Nm) (h':Array Obj) (l':Loc) (c':Array Value) (e:TypeId) (fz:Nat×Nat),(m.nm ι).le n'->(∀i,m.has i->ι' i=ι i)->
  h'[l'.b]?=some (.cells c' e fz)->l'.base+l'.cap<=c'.size->need*es<=l'.cap->(∀(j:Nat) (v:d9),cells[j]?=some v->c'[l'.base+j]?=some (l7 ι v))->bO P ι' n' h' l' b'
theorem uh {es need:Nat}{cells:List d9}{h:List (List d9)}(C:rowsOf es need cells=some h)(f:X0 (m.nm ι) cells):Fits P ι m es need cells (.cells es need (T.ofList h)):=by
 refine⟨rfl,λD G E F t e u o c B b a k=>?_⟩;obtain⟨x,y,z⟩:=eZ _ _ _ _ C;refine⟨t,e,u,B,b,⟨a,h.length,by omega,T.dZ h,by rw [← y];exact su (T.dZ h)⟩,λi s=>?_⟩;obtain⟨p,w,q,r⟩:=z i s;refine⟨p,by rw [T.aG];exact w,q,bB.2 λv g=>?_,λj d=>?_⟩;obtain⟨j,d⟩:=aao g;have l:j<es:=aeL (gq.1 d).1 q;rw [r j l] at d;exact d9.L6 o _ (M6 f (U9 d));rw [r j d];have A:i*es+j<cells.length:=by
  rw [x]
  calc i*es+j<i*es+es:=by omega
   _=(i+1)*es:=by rw [aaZ]
   _<=need*es:=Y8 _ s
 have g:=gy A;rw [k _ _ g,g,aav,O7 (n:=m.nm ι) c _ (M6 f (U9 g))]
theorem QE (o:RM P G ι m w.heap){id es k:Nat}{rows:T (List d9)}(n:m.get id=some (.cells es k rows)):∀len,len<=k->
  ∃l:List d9,l.length=len*es∧X0 (m.nm ι) l∧mV ι w id 0 l∧∀i,i<len->∃row,rows.get i=some row∧row.length=es∧∀j,j<es->l[i*es+j]?=row[j]?:=by
 intro len;induction len with
 | zero=>intro _;exact⟨[],by simp,trivial,λj v a=>by simp at a,λi u=>by omega⟩
 | succ len ih=>
  intro y;obtain⟨l,h,q,r,s⟩:=ih (by omega);obtain⟨c,e,C,_,_,_,t⟩:=o.blk id _ n;obtain⟨row,f,g,p,_⟩:=t len (by omega);refine⟨l++row,by simp [h,g,aaZ],bB.2 λv a=>?_,λj v a=>?_,λi u=>?_⟩;rcases Z5.1 a with a | a;exact M6 q a;exact M6 p a;by_cases d:j<l.length;rw [Y4 d] at a;exact r j v a;rw [aaq (by omega)] at a;have x:=(gq.1 a).1;have:=(HY o n (i:=len) (by omega) (by omega:j-l.length<es) f a).1
  rwa [show len*es+(j-l.length)=0+j from by omega] at this
  by_cases hil:i<len;obtain⟨b,z,A,B⟩:=s i hil;refine⟨b,z,A,λj d=>?_⟩;have:i*es+j<l.length:=by
   rw [h]
   calc i*es+j<i*es+es:=by omega
    _=(i+1)*es:=by rw [aaZ]
    _<=len*es:=Y8 _ hil
  rw [Y4 this];exact B j d;obtain rfl:i=len:=by omega
  refine⟨row,f,g,λj d=>?_⟩;rw [aaq (by omega)];congr 1;omega
theorem TK (K:RM P G ι m w.heap){id es k len:Nat}{rows:T (List d9)}(I:m.get id=some (.cells es k rows))(y:len<=k)(z:0<len){l new:List d9}(J:l.length=len*es)
  (p:∀i,i<len->∃row,rows.get i=some row∧row.length=es∧∀j,j<es->l[i*es+j]?=row[j]?) (x:new.length=es) (t:X0 (m.nm ι) l) (g:X0 (m.nm ι) new):
  Fits P ι m es (len+1) (l++new) (.cells es (len+1) (rows.put len new)):=by
 obtain⟨_,_,_,_,_,⟨_,N,R,c,_⟩,_⟩:=K.blk id _ I;refine⟨rfl,λO V Q U C e D s f H r o q=>⟨C,e,D,H,r,⟨o,?_⟩,λi S=>?_⟩⟩;rcases aeD len N with h | h;exact⟨N,by omega,c.put _ _ h,λM E=>by omega⟩;obtain rfl:len=N:=by omega
 exact⟨len+1,lM _,c.push _,λM E=>by omega⟩;by_cases hil:i=len;subst hil;refine⟨new,T.aO c _ _ (by omega),x,bN s _ g,λj a=>?_⟩;have d:new[j]?=some new[j]:=gy (by omega);have:(l++new)[i*es+j]?=some new[j]:=by rw [aaq (by omega),← d];congr 1;omega
 rw [q _ _ this,d,aav,O7 (n:=m.nm ι) f _ (M6 g (U9 d))];obtain⟨row,L,A,B⟩:=p i (by omega);have b:∀j,j<es->i*es+j<l.length:=λj a=>by
  rw [J]
  calc i*es+j<i*es+es:=by omega
   _=(i+1)*es:=by rw [aaZ]
   _<=len*es:=Y8 _ (by omega)
 refine⟨row,by rw [T.aZ c _ _ _ (by omega) (λe=>hil e.symm)];exact L,A,bB.2 λv d=>?_,λj a=>?_⟩;obtain⟨j,a⟩:=aao d;have u:j<es:=aeL (gq.1 a).1 A;rw [← B j u] at a;exact d9.L6 s _ (M6 t (U9 a));have d:l[i*es+j]?=some (l[i*es+j]'(b j a)):=gy (b j a);have F:(l++new)[i*es+j]?=some (l[i*es+j]'(b j a)):=by rw [Y4 (b j a)];exact d
 rw [q _ _ F,← B j a,d,aav,O7 (n:=m.nm ι) f _ (M6 t (U9 d))]
end
section
variable {P:Program}{G:Mem}{ι:H6}{m:Mem}{w:World}{a:Act}
theorem FD (need:Nat):∀(r c:Nat),Builtin.growBy need r c<=max c (need+(need+768) / 4)
 | 0,c=>by simp only [Builtin.growBy];omega
 | r+1,c=>by simp only [Builtin.growBy];split;omega;have:=FD need r (c+(c+768) / 4);omega
theorem nextslicecap_le (need old:Nat)(h:old<need):Builtin.nextslicecap need old<=2*need+2048:=by unfold Builtin.nextslicecap;split;omega;split;omega;have:=FD need 4 old;omega
def CP:TypeDesc->Bool
 | .int _=>true
 | _=>false
def ab8 (P:Program)(w:World)(zs:Bool)(by' n:Nat)(x:Value):Prop:=
 (zs=false∧(Builtin.lenOf x).run P w=.ok n w)∨(zs=true∧(∃k,x=.int k n)∧n<9223372036854775808∧n*by'<=281474976710656)
def iZ (zs:Bool)(e:TypeId)(es sLen sCap:Nat)(base:Option Addr)(x:Value)(n:Nat):Sem Value:=do
 let appended:Sem (Array Value):=
  if !zs then Builtin.firstCells es n x
  else if n*es=0 then pure #[]
  else do pure (Builtin.zeroCells (← zeroValue e).cells n)
 let need:=sLen+n
 if need<=sCap then
  let new ← appended
  if let some a:=base then storeCells (a.add (sLen*es)) new.toList
  pure (.slice base need sCap)
 else
  if (need:Int)>IntKind.i64.max∧(zs∨(← typeInfo e).bytes=0) then runtimePanic (.error "growslice: len out of range")
  if Builtin.nextslicecap need sCap*(← typeInfo e).bytes>2^48 then (if zs then runtimePanic (.error "growslice: len out of range") else do
   if !(← Builtin.mayShare es sLen n base x) then mark .noRoom
   unsupported (.resourceLimit "append: a slice or a string whose bytes no memory bears"))
  let newCap ← choose (.appendCap need sCap e)
  askRoom (newCap*(← typeInfo e).bytes)
  let old ← Builtin.firstCells es sLen (.slice base sLen sCap)
  let new ← appended
  let rest:=Builtin.zeroCells (← zeroValue e).cells (newCap-need)
  pure (.slice (some (← newRow e (old++new++rest))) need newCap)
theorem Ae {t u e T:TypeId}{d:TypeDesc}{es a n sLen sCap:Nat}{base:Option Addr}{x:Value}(o:P.underlying t=some (.slice e))(c:V5 P e=some es)(m:P.underlying u=some d)
  (i:dV P e=some a) (p:ab8 P w (CP d) a n x):
  (Builtin.append_ #[t,u] T #[.slice base sLen sCap,x]).run P w=(iZ (CP d) e es sLen sCap base x n).run P w:=by
 obtain⟨g,j,l⟩:=tZ (w:=w) i;rcases p with⟨hz,h1⟩ | ⟨hz,⟨k,rfl⟩,h2,h3⟩;cases d with
 | int=>cases hz
 | _=>simp only [Builtin.append_,ac1,ajK,abW,J3,run_underlying o,gM,run_sizeOf c,run_underlying m,Y2,aau,if_false,h1,iZ,CP];rfl
 cases d with
 | int k'=>
  have q:IntKind.i64.wrap (n:Int)=n:=xB _ ⟨by omega,by omega⟩;have b:¬ ((n:Int)*(g.bytes:Int)>2^48):=by
   rw [l];have:((n*a:Nat):Int)=(n:Int)*(a:Int):=by simp
   rw [← this];have h:(2:Int)^48=281474976710656:=rfl;rw [h];omega
  have f:¬ ((n:Int)<0):=by omega
  simp only [Builtin.append_,ac1,ajK,abW,J3,run_underlying o,gM,run_sizeOf c,run_underlying m,Y2,if_true,asInt,asIntOf,q,f,if_false,j,b,aiC,iZ,CP];rfl
 | _=>cases hz
theorem jc {zs:Bool}{e:TypeId}{es sLen sCap n:Nat}{base:Option Addr}{x:Value}{new:List Value}{w':World}(b:sLen+n<=sCap)
  (c:(if (!zs)=true then Builtin.firstCells es n x else if n*es=0 then pure #[] else do pure (Builtin.zeroCells (← zeroValue e).cells n):Sem (Array Value)).run P w=.ok new.toArray w)
  (a:match base with | some ad=>(storeCells (ad.add (sLen*es)) new 0).run P w=.ok () w' | none=>w'=w):
  (iZ zs e es sLen sCap base x n).run P w=.ok (.slice base (sLen+n) sCap) w':=by
 unfold iZ;simp only [b,if_true];rw [J3,c,gM];cases base with
 | none=>subst a;simp
 | some ad=>simp only [] at a;simp [a]
theorem jd {zs:Bool}{e:TypeId}{es by' sLen sCap n:Nat}{base:Option Addr}{x:Value}{z:List d9}{old new:List Value}(i:dV P e=some by')(G:pE P e=some z)
  (f:¬ sLen+n<=sCap) (A:(2*(sLen+n)+2048)*by'<=281474976710656) (j:1<=by')
  (m:∀w':World,w'.heap=w.heap->(Builtin.firstCells es sLen (.slice base sLen sCap)).run P w'=.ok old.toArray w')
  (l:∀w':World,w'.heap=w.heap->(if (!zs)=true then Builtin.firstCells es n x else if n*es=0 then pure #[] else do pure (Builtin.zeroCells (← zeroValue e).cells n):Sem (Array Value)).run P w'=.ok new.toArray w'):
  ∃(capN:Nat) (rest:List Value),sLen+n<=capN∧rest.length=(capN-(sLen+n))*z.length∧
   (iZ zs e es sLen sCap base x n).run P w=.ok (.slice (some ⟨w.heap.size,0,none⟩) (sLen+n) capN)
    {w with heap:=w.heap.push (.cells (old++new++rest).toArray e),drawn:=w.drawn+1}:=by
 obtain⟨g,s,t⟩:=tZ (w:=w) i;have F:(2*(sLen+n)+2048)*1<=(2*(sLen+n)+2048)*by':=Nat.mul_le_mul_left _ j;have h:=nextslicecap_le (sLen+n) sCap (by omega);have B:Builtin.nextslicecap (sLen+n) sCap*by'<=(2*(sLen+n)+2048)*by':=Y8 _ h;have C:¬ (((sLen+n:Nat):Int)>IntKind.i64.max):=by have:IntKind.i64.max=9223372036854775807:=rfl;rw [this];omega
 have D:¬ (Builtin.nextslicecap (sLen+n) sCap*g.bytes>2^48):=by rw [t];have o:(2:Nat)^48=281474976710656:=rfl;rw [o];omega
 obtain⟨H,u,v,_⟩:=bI (P:=P) (w:={w with drawn:=w.drawn+1}) G (λ_=>⟨0,0,0,none⟩);refine⟨sLen+n+w.tape w.drawn (.appendCap (sLen+n) sCap e)%(2^63-(sLen+n)),(Builtin.zeroCells H.cells (sLen+n+w.tape w.drawn (.appendCap (sLen+n) sCap e)%(2^63-(sLen+n))-(sLen+n))).toList,by omega,?_,?_⟩;simp [Builtin.zeroCells,v];unfold iZ;simp only [f,if_false];have k:∀w',(typeInfo e).run P w'=.ok g w':=by
  intro w';obtain⟨I,y,_⟩:=tZ (w:=w') i;have E:∀c d:World,∀a b,(typeInfo e).run P c=.ok a c->(typeInfo e).run P d=.ok b d->a=b:=by intro c d a b p q;unfold typeInfo at p q;simp only [J3,run_program,gM] at p q;split at p<;>split at q<;>simp_all
  rw [y,E w' w _ _ y s]
 have r:∀w':World,(choose (.appendCap (sLen+n) sCap e)).run P w'=.ok (sLen+n+w'.tape w'.drawn (.appendCap (sLen+n) sCap e)%(2^63-(sLen+n))) {w' with drawn:=w'.drawn+1}:=by intro w';rw [run_choose];simp [Question.forced,Question.cut]
 simp only [J3,k,gM,C,D,false_and,if_false,Y2,r,run_askRoom,m {w with drawn:=w.drawn+1} rfl,l {w with drawn:=w.drawn+1} rfl,u,bX];simp only [ajL,← List.append_toArray,Z9]
theorem CQ (l:RM P G ι m w.heap){es need capN:Nat}{cells:List d9}{b':N7}(f:Fits P ι m es need cells b'){c:Array Value}{e:TypeId}{w':World}
  (p:Tz w w' (.cells c e)) (n:c.size=capN*es) (d:need<=capN) (g:∀(j:Nat) (v:d9),cells[j]?=some v->c[j]?=some (l7 ι v)):
  Step P G ι m w (ι.upd m.nx ⟨w.heap.size,0,capN*es,none⟩) (m.new b') w':=by
 obtain⟨o,f⟩:=f;have a:=Laid.new l.ok l.limn b' o;have b:∀j,m.has j->(ι.upd m.nx ⟨w.heap.size,0,capN*es,none⟩) j=ι j:=λj i=>ι.upd_ne _ λh=>a.free (h▸i);refine Step.lay l a p rfl rfl ?_ ?_;refine f _ _ _ _ c e _ (Mem.U2 a.has b) b bK ?_ ?_ λj v i=>?_;show 0+capN*es<=c.size;omega;exact Y8 _ d;rw [Z8];exact g j v i;intro q r s h k t;cases h;simp
theorem Fits.kill (o:RM P G ι m w.heap){es need q:Nat}{cells:List d9}{b' g:N7}(d:Fits P ι m es need cells b')(p:m.lim<=q)(l:m.get q=some g):Fits P ι (m.set q .dead) es need cells b':=by have f:=Step.kill o p l;refine⟨d.1,λc s k r h e j b a=>d.2 c s k r h e j (Nm.le_trans (Mem.U2 f.has λ_ _=>rfl) b) λi n=>a i (f.has i n)⟩
theorem QF (f:RM P G ι m w.heap){es need capN q:Nat}{cells:List d9}{b' i:N7}(k:Fits P ι m es need cells b')(g:m.lim<=q)(d:m.get q=some i){c:Array Value}{e:TypeId}{w':World}
  (l:Tz w w' (.cells c e)) (h:c.size=capN*es) (a:need<=capN) (b:∀(j:Nat) (v:d9),cells[j]?=some v->c[j]?=some (l7 ι v)):
  Step P G ι m w (ι.upd m.nx ⟨w.heap.size,0,capN*es,none⟩) ((m.set q .dead).new b') w':=
 (Step.kill f g d).trans (CQ (Step.kill f g d).rm (Fits.kill f k g d) l h a b)
theorem Xq (A:RM P G ι m w.heap){q rs k:Nat}{rows:T (List d9)}(K:m.lim<=q)(H:m.get q=some (.cells rs k rows)){c:Array Value}{e:TypeId}{f:Nat×Nat}(F:w.heap[(ι q).b]?=some (.cells c e f))
  {B C len n es:Nat} {old new:List d9} {b':N7} (D:B+C<=c.size) (g:(len+n)*es<=C) (Q:old.length=len*es) (O:new.length=n*es) (s:K4 new=true)
  (r:∀(j:Nat) (v:d9),old[j]?=some v->c[B+j]?=some (l7 ι v)) (E:Fits P ι m es (len+n) (old++new) b'):
  ∃w',(storeCells ⟨(ι q).b,B+len*es,none⟩ (o9 ι new) 0).run P w=.ok () w'∧
   Step P G ι m w (ι.upd m.nx ⟨(ι q).b,B,C,none⟩) ((m.set q .dead).new b') w':=by
 have t:=A.own q _ K H rfl;have l:=t.free c e f F;have L:(len+n)*es=len*es+n*es:=adw _ _ _;have x:=mX (P:=P) (o9 ι new) c (B+len*es) 0 w F (by simp;omega) l (λv z=>by
  rw [ak] at z;obtain⟨u,R,rfl⟩:=ac4.1 z;exact zh (nY s u R))
 refine⟨_,x,?_⟩;obtain⟨z,E⟩:=E;have I:=Step.kill A K H;have d:=Laid.new I.rm.ok I.rm.limn b' z;have a:∀j,m.has j->(ι.upd m.nx ⟨(ι q).b,B,C,none⟩) j=ι j:=λj ⟨y,hy,_⟩=>ι.upd_ne _ λh=>by have:=Mem.F9 A.ok hy;omega
 refine Step.aa0 (o:=.cells (over c (B+len*es+0) (o9 ι new)) e f) (w':={w with heap:=w.heap.setIfInBounds (ι q).b (.cells (over c (B+len*es+0) (o9 ι new)) e f)}) A K H rfl z ⟨rfl,rfl,rfl,rfl⟩ rfl rfl ?_ ?_;refine E _ _ _ _ _ e f (Mem.U2 (λi N=>d.has i (I.has i N)) a) a (eF F) ?_ g λj v p=>?_;simpa using D;show (over c (B+len*es+0) (o9 ι new))[B+j]?=some (l7 ι v);rw [xO _ _ _ (by simp;omega)];by_cases h1:j<old.length;rw [Y4 h1] at p;rw [if_pos (by omega)];exact r j v p;rw [aaq (by omega)] at p;have W:=(gq.1 p).1;rw [if_neg (by omega),if_pos (by simp;omega),V4,show B+j-(B+len*es+0)=j-old.length from by omega,p];rfl;intro U V M h S J;cases h;exact l S (by simpa using J)
theorem mh {w':World}{l:Loc}{m':Mem}(d:l.spot=none)(f:Step P G ι m w (ι.upd m.nx l) m' w')(g:m'.has m.nx){es need:Nat}(c:1<=es)(e:need*es<=l.cap){cap:Nat}(a:cap=l.cap / es):
  V9 P G ι m w [⟨.sliceU m.nx 0 need es,m'⟩] (.slice (some ⟨l.b,l.base,none⟩) need cap) w':=by
 refine⟨_,aA.2 rfl,_,f,⟨g,c,?_⟩,?_⟩;show 0+need*es<=((ι.upd m.nx l) m.nx).cap;rw [H6.S9];omega;simp [l7,H6.at,a,d]
theorem Ie (h:T.Ok m.t m.nx){b:N7}(hb:bF b=false):(m.new b).has m.nx:=⟨b,by rw [Mem.J9 h,if_pos rfl],hb⟩
theorem sQ {n bytes es:Nat}(h:big n bytes es=true):(2*n+2048)*bytes<=281474976710656∧1<=es∧1<=bytes:=by
 unfold big at h;cases h1:Nat.ble (Nat.mul (Nat.add (Nat.mul 2 n) 2048) bytes) 281474976710656 with
 | false=>rw [h1] at h;cases h
 | true=>
  rw [h1] at h;cases h2:Nat.ble 1 es with
  | false=>rw [h2] at h;cases h
  | true=>rw [h2] at h;exact⟨K9 h1,K9 h2,K9 h⟩
theorem TL {β:Type}{b:Option N7}{c:Nat->Nat->T (List d9)->Option β}{k:Nat->Option β}{r:β}(h:JI b c k=some r):
  (∃rs n rows,b=some (.cells rs n rows)∧c rs n rows=some r)∨∃p,b=some (.tail p)∧k p=some r:=by
 unfold JI at h;split at h;exact .inl ⟨_,_,_,rfl,h⟩;exact .inr ⟨_,rfl,h⟩;cases h
theorem xS {es n:Nat}{cells:List d9}{outs:List VM}(h:grown m es n cells=some outs):∃rl,rowsOf es n cells=some rl∧outs=[⟨.sliceU m.nx 0 n es,m.new (.cells es n (T.ofList rl))⟩]:=by obtain⟨rl,a,h⟩:=z8 h;cases h;exact⟨rl,a,rfl⟩
theorem Kw {α:Type}{b:Bool}{x y:Option α}{r:α}(h:bi b x y=some r):(b=true∧x=some r)∨(b=false∧y=some r):=by
 cases b with
 | true=>exact .inl ⟨rfl,h⟩
 | false=>exact .inr ⟨rfl,h⟩
theorem FE {a b:Nat}(h:Nat.ble a b=false):¬ a<=b:=λc=>by rw [Z4 c] at h;cases h
end
section
variable {P:Program}{G:Mem}{ι:H6}{m:Mem}{w:World}{slots:List Nat}{done:List (Option Nat)}{ls:List d9}{env:T d9}{a:Act}
theorem OO (f:RM P G ι m w.heap){id rs k:Nat}{rows:T (List d9)}(d:m.get id=some (.cells rs k rows)):∃c e fz,w.heap[(ι id).b]?=some (.cells c e fz)∧(ι id).base+(ι id).cap<=c.size∧
  ∀j v,w.cell? (ι.at id j)=some v->c[(ι id).base+j]?=some v:=by
 obtain⟨c,e,fz,a,g,_⟩:=f.blk id _ d;refine⟨c,e,fz,a,g,λj v h=>?_⟩;simpa [World.cell?,H6.at,a,f.spot id _ d rfl] using h
theorem Ky (o:RM P G ι m w.heap){e:TypeId}{es E n:Nat}{z:List d9}(hz:AX P e=some z)(ad:V5 P e=some es)(U:dV P e=some E)
  {zs:Bool} {x:Value} {new:List d9} (i:X0 (m.nm ι) new) (a2:n=0->new=[])
  (g:∀w':World,w'.heap=w.heap->(if (!zs)=true then Builtin.firstCells es n x else if n*es=0 then pure #[] else do pure (Builtin.zeroCells (← zeroValue e).cells n):Sem (Array Value)).run P w'=.ok (o9 ι new).toArray w')
  {sv:d9} (a9:sv.lt (m.nm ι)) {outs:List VM} (h:Fj m es E n new sv=some outs):
  ∃base sLen sCap v w',l7 ι sv=.slice base sLen sCap∧(iZ zs e es sLen sCap base x n).run P w=.ok v w'∧V9 P G ι m w outs v w':=by
 obtain⟨Z,aa⟩:=mg hz;obtain rfl:es=z.length:=by rw [ad] at aa;exact Xl aa
 rcases qw h with⟨rfl,h⟩ | ⟨id,off,len,cap,rfl,h⟩ | ⟨id,off,len,es',rfl,h⟩
 ·
  refine⟨none,0,0,?_⟩;cases n with
  | zero=>have h:one .nilSlice m=some outs:=h;cases h;obtain rfl:=a2 rfl;exact⟨.slice none 0 0,w,rfl,jc (lM 0) (g w rfl) rfl,_,aA.2 rfl,ι,Step.refl o,trivial,rfl⟩
  | succ n=>
   have h:bi (big (n+1) E z.length) (grown m z.length (n+1) new) none=some outs:=h;obtain⟨L,h⟩:=D5 h;obtain⟨b1,D,b3⟩:=sQ L;obtain⟨rl,I,rfl⟩:=xS h;obtain⟨capN,f,r1,r2,r3⟩:=jd (P:=P) (w:=w) (zs:=zs) (e:=e) (es:=z.length) (sLen:=0) (sCap:=0) (base:=none) (x:=x) (n:=n+1) (old:=[]) U Z (by omega) (by simpa using b1) b3
    (λw' _=>by simp [Builtin.firstCells]) g
   have d:=(eZ _ _ _ _ I).1;have s:=CQ o (uh I i) (c:=([]++o9 ι new++f).toArray) (e:=e) (w':={w with heap:=w.heap.push (.cells ([]++o9 ι new++f).toArray e),drawn:=w.drawn+1}) ⟨rfl,rfl,rfl,rfl⟩ (capN:=capN)
    (by simp only [aey,Z7,ags,Q9,d,r2,Z8];rw [← adw];congr 1;omega) (by omega)
    (λj v t=>by
     have y:=(gq.1 t).1;simp only [agm,ac1];rw [Y4 (by simpa using y),V4,t];rfl)
   refine⟨_,_,rfl,r3,?_⟩;have:=mh rfl s (Ie o.ok rfl) D (need:=n+1) (Y8 _ (by omega)) (cap:=capN) (by show capN=capN*z.length / z.length;rw [af0 _ D]);simpa using this
 ·
  refine⟨some (ι.at id off),len,cap,?_⟩;have h:bi (Nat.ble (len+n) cap) (iD m id (off+len*z.length) new λm'=>one (.slice id off (len+n) cap) m')
   (bi (big (len+n) E z.length) (ob (R8 m id off (len*z.length)) λold=>grown m z.length (len+n) (ah old new)) none)=some outs:=h
  rcases Kw h with⟨hf,h⟩ | ⟨hf,h⟩;obtain⟨m',w',hk,a6,s⟩:=kR o h i;cases hk;exact⟨_,w',rfl,jc (K9 hf) (g w rfl) (by simp only [H6.mM];exact a6),_,aA.2 rfl,ι,s,s.has id a9,by simp [l7]⟩;obtain⟨L,h⟩:=D5 h;obtain⟨b1,D,b3⟩:=sQ L;obtain⟨old,ho,h⟩:=z8 h;rw [Q8] at h;obtain⟨rl,I,rfl⟩:=xS h;obtain⟨o1,o2,o3⟩:=iX o ho;obtain⟨capN,f,r1,r2,r3⟩:=jd (P:=P) (w:=w) (zs:=zs) (e:=e) (es:=z.length) (sLen:=len) (sCap:=cap) (base:=some (ι.at id off)) (x:=x) (n:=n) (old:=o9 ι old) U Z (FE hf) b1 b3
   (λw' hw=>eY o1 (λj v t=>by have:=o3 j v t;simpa [World.cell?,hw] using this)) g
  have W:X0 (m.nm ι) (old++new):=bB.2 λv hv=>(Z5.1 hv).elim (M6 o2) (M6 i);have d:=(eZ _ _ _ _ I).1;have s:=CQ o (uh I W) (c:=(o9 ι old++o9 ι new++f).toArray) (e:=e) (w':={w with heap:=w.heap.push (.cells (o9 ι old++o9 ι new++f).toArray e),drawn:=w.drawn+1}) ⟨rfl,rfl,rfl,rfl⟩ (capN:=capN)
   (by
    rw [Z7] at d;simp only [aey,Z7,Q9,d,r2];rw [← adw];congr 1;omega) (by omega)
   (λj v t=>by
    have y:=(gq.1 t).1;rw [Z7] at y;rw [ac1,Y4 (by simpa using y),ak,ak,← ac5,aas,t];rfl)
  refine⟨_,_,rfl,r3,?_⟩;exact mh rfl s (Ie o.ok rfl) D (need:=len+n) (Y8 _ (by omega)) (cap:=capN) (by show capN=capN*z.length / z.length;rw [af0 _ D])
 ·
  obtain⟨ai,a7,Y⟩:=a9;have Y:off+len*es'<=(ι id).cap:=Y;have M:len<=((ι id).cap-off) / es':=(adD a7).2 (by omega);refine⟨some (ι.at id off),len,((ι id).cap-off) / es',?_⟩;cases n with
  | zero=>have h:one (.sliceU id off len es') m=some outs:=h;cases h;obtain rfl:=a2 rfl;refine⟨_,w,rfl,jc (w':=w) M (g w rfl) (by simp [o9,storeCells]),_,aA.2 rfl,ι,Step.refl o,⟨ai,a7,Y⟩,by simp [l7]⟩
  | succ n=>
   have h:bi (Nat.beq z.length es') (bi (big (len+(n+1)) E z.length) (bi (Nat.ble m.lim id) (bi (K4 new)
    (JI (m.get id)
     (λJ k a=>
      bi (bi (Nat.beq J z.length) (bi (Nat.beq off 0) (bi (Nat.ble len k) (bi (Nat.beq (n+1) 1) (bi (Nat.beq (len' new) z.length) (Nat.blt 0 len) false) false) false) false) false)
       (one (.sliceU m.nx 0 (Nat.succ len) z.length) ((m.set id .dead).new (.cells z.length (Nat.succ len) (a.put len new))))
       (ob (P5 J k a (len*z.length) off) λold=>grown (m.set id .dead) z.length (len+(n+1)) (ah old new)))
     (λp=>R4 (m.get p) λ_ _ _=>bi (Nat.ble m.lim p) (bi (Nat.beq len 0) (grown (m.set p .dead) z.length (n+1) new) none) none)) none) none) none) none=some outs:=h
   obtain⟨q1,k1⟩:=D5 h;clear h;obtain rfl:=aP q1;obtain⟨q2,k2⟩:=D5 k1;obtain⟨b1,D,b3⟩:=sQ q2;obtain⟨q3,k3⟩:=D5 k2;have Q:m.lim<=id:=K9 q3;obtain⟨a5,h⟩:=D5 k3;clear k1 k2 k3;have F:∀(q J k:Nat) (a:T (List d9)),m.lim<=q->m.get q=some (.cells J k a)->∀(B C:Nat) (old:List d9) (b':N7),C=(ι id).cap-off->
     ((ι id).b=(ι q).b∨C=0)->B=(ι id).base+off->(C≠0->B+C<=(ι q).base+(ι q).cap)->(C≠0->(ι id).spot=none)->old.length=len*z.length->new.length=(n+1)*z.length->X0 (m.nm ι) old->mV ι w id off old->
     Fits P ι m z.length (len+(n+1)) (old++new) b'->outs=[⟨.sliceU m.nx 0 (len+(n+1)) z.length,(m.set q .dead).new b'⟩]->
     ∃v w',l7 ι (.sliceU id off len z.length)=.slice (some (ι.at id off)) len (((ι id).cap-off) / z.length)∧
      (iZ zs e z.length len (((ι id).cap-off) / z.length) (some (ι.at id off)) x (n+1)).run P w=.ok v w'∧V9 P G ι m w outs v w':=by
    intro q J k a hq u B C old b' hC L hB ac a8 X N aj a3 hF r;subst r;have a4:=(Step.kill o hq u).rm;have O:((m.set q .dead).new b').has m.nx:=Ie (m:=m.set q .dead) a4.ok hF.1;by_cases hfit:len+(n+1)<=((ι id).cap-off) / z.length;have H:(len+(n+1))*z.length<=C:=(by rw [hC];exact (adD D).1 hfit);have R:C≠0:=by have:1*1<=(len+(n+1))*z.length:=Nat.mul_le_mul (by omega) D;omega
    have L:=L.resolve_right R;have A:=a8 R;obtain⟨c,a0,fz,c1,c2,c3⟩:=OO o u;obtain⟨w',g1,g2⟩:=Xq o hq u c1 (B:=B) (C:=C) (len:=len) (n:=n+1) (es:=z.length) (old:=old) (new:=new) (b':=b') (by have:=ac R;omega) H X N a5
     (λj v t=>by
      have:=a3 j v t;simp only [World.cell?,H6.at,L,c1,A] at this;rw [hB,aez];simpa using this) hF
    refine⟨_,w',by simp [l7],jc hfit (g w rfl) (by
     have:(ι.at id off).add (len*z.length)=⟨(ι q).b,B+len*z.length,none⟩:=(by simp [H6.at,Addr.add,L,hB,A]);simp only [this];exact g1),?_⟩
    have:=mh rfl g2 O D (need:=len+(n+1)) H (cap:=((ι id).cap-off) / z.length) (by show _=C / z.length;rw [hC]);have S:ι.at id off=⟨(ι q).b,B,none⟩:=(by simp [H6.at,L,hB,A]);rw [S];exact this;obtain⟨capN,f,r1,r2,r3⟩:=jd (P:=P) (w:=w) (zs:=zs) (e:=e) (es:=z.length) (sLen:=len) (sCap:=((ι id).cap-off) / z.length) (base:=some (ι.at id off)) (x:=x) (n:=n+1) (old:=o9 ι old) U Z hfit b1 b3
     (λw' hw=>eY X (λj v t=>by have:=a3 j v t;simpa [World.cell?,hw] using this)) g
    have s:=QF o hF hq u (c:=(o9 ι old++o9 ι new++f).toArray) (e:=e) (w':={w with heap:=w.heap.push (.cells (o9 ι old++o9 ι new++f).toArray e),drawn:=w.drawn+1}) ⟨rfl,rfl,rfl,rfl⟩ (capN:=capN)
     (by
      simp only [aey,Z7,Q9,X,N,r2];rw [← adw,← adw];congr 1;omega) (by omega)
     (λj v t=>by
      have y:=(gq.1 t).1;rw [Z7] at y;rw [ac1,Y4 (by simpa using y),ak,ak,← ac5,aas,t];rfl)
    refine⟨_,_,by simp [l7],r3,?_⟩;exact mh rfl s O D (need:=len+(n+1)) (Y8 _ (by omega)) (cap:=capN) (by show capN=capN*z.length / z.length;rw [af0 _ D])
   rcases TL h with⟨J,k,a,u,h⟩ | ⟨p,u,h⟩
   ·obtain⟨cc,a0,ab,c1,c2,c3⟩:=OO o u;rcases Kw h with⟨hf,h9⟩ | ⟨_,h⟩
    ·
     clear h;have ae:J=z.length∧off=0∧len<=k∧n=0∧new.length=z.length∧0<len:=by
      cases p1:Nat.beq J z.length<;>rw [p1] at hf<;>simp only [U0,O6] at hf<;>try (cases hf;done)
      cases p2:Nat.beq off 0<;>rw [p2] at hf<;>simp only [U0,O6] at hf<;>try (cases hf;done)
      cases p3:Nat.ble len k<;>rw [p3] at hf<;>simp only [U0,O6] at hf<;>try (cases hf;done)
      cases p4:Nat.beq (n+1) 1<;>rw [p4] at hf<;>simp only [U0,O6] at hf<;>try (cases hf;done)
      cases p5:Nat.beq (len' new) z.length<;>rw [p5] at hf<;>simp only [U0,O6] at hf<;>try (cases hf;done)
      have p4:=aP p4;have p5:=aP p5;rw [I4] at p5;exact⟨aP p1,aP p2,K9 p3,by omega,p5,Eq.mp Xb hf⟩
     obtain⟨rfl,rfl,hk,rfl,N,af⟩:=ae;cases h9;obtain⟨l,l1,l2,l3,l4⟩:=QE o u len hk;exact F id z.length k a Q u _ _ l _ rfl (.inl rfl) rfl (λ_=>by omega) (λ_=>o.spot id _ u rfl) l1 (by omega) l2 l3 (TK o u hk af l1 l4 N l2 i) rfl
    obtain⟨old,ho,h⟩:=z8 h;rw [Q8] at h;obtain⟨rl,I,r⟩:=xS h;obtain⟨o1,o2,o3⟩:=sI o u _ _ _ ho;have W:X0 (m.nm ι) (old++new):=bB.2 λv hv=>(Z5.1 hv).elim (M6 o2) (M6 i);have d:=(eZ _ _ _ _ I).1;rw [Z7,o1,adw] at d;exact F id J k a Q u _ _ old _ rfl (.inl rfl) rfl (λ_=>by omega) (λ_=>o.spot id _ u rfl) o1 (by omega) o2 o3 (uh I W) r
   obtain⟨J,k,a,a1,h⟩:=bJ h;obtain⟨q4,h⟩:=D5 h;have V:=K9 q4;obtain⟨q5,h⟩:=D5 h;obtain rfl:=aP q5;obtain⟨rl,I,r⟩:=xS h;obtain⟨t1,K⟩:=o.blk id _ u;have d:=(eZ _ _ _ _ I).1;refine F p J k a V a1 _ _ [] (.cells z.length (n+1) (T.ofList rl)) rfl ?_ rfl ?_ ?_ (by simp) d trivial (λj v t=>by simp at t) ?_ ?_;rcases K with K | K;exact .inr (by omega);exact .inl K.1;intro ag;rcases K with K | K;omega;omega;intro ag;rcases K with K | K;omega;exact K.2.2 (o.spot p _ a1 rfl);rw [agm,Z8];exact uh I i;rw [r,Z8];rfl
def aky (d:TypeDesc):Bool:=match d with | .int _=>true | _=>false
theorem Xr (d:TypeDesc):aky d=CP d:=by cases d<;>rfl
theorem FH (s:St P ι (m.nm ι) slots done ls env a.tmps)(N:RM P G ι m w.heap){c:Call}{t u e:TypeId}{d:TypeDesc}{x y:Operand}{S A:N9}{es g:Nat}{z:List d9}(hc:c.callee=.builtin .append)
  (q:c.argTypes.toList=[t,u]) (l:c.args.toList=[x,y]) (hu:P.underlying t=some (.slice e)) (hd:P.underlying u=some d) (p:V5 P e=some es) (V:AX P e=some z) (D:dV P e=some g)
  (hx:J7 P slots done x=some S) (hy:J7 P slots done y=some A) {cf:D7} {outs:List VM} (f:lY (.app es (CP d) z g S A) cf ls env m=some outs):
  ∀o:Oper,o.op=.call c->Does P a.eval o w (V9 P G ι m w outs):=by
 intro o ho;have q:c.argTypes=#[t,u]:=by rw [← q,Z9]
 have l:c.args=#[x,y]:=by rw [← l,Z9]
 obtain⟨Z,g1⟩:=y9 s hx;obtain⟨e2,g2⟩:=y9 s hy;obtain⟨I,H⟩:=mg V;have E:es=z.length:=by rw [p] at H;exact Xl H
 have B:∀(n:Nat) (b:List d9),ab8 P w (CP d) g n (l7 ι (D8 A ls env))->X0 (m.nm ι) b->(n=0->b=[])->
   (∀w':World,w'.heap=w.heap->(if (!CP d)=true then Builtin.firstCells es n (l7 ι (D8 A ls env)) else if n*es=0 then pure #[] else do pure (Builtin.zeroCells (← zeroValue e).cells n):Sem (Array Value)).run P w'=.ok (o9 ι b).toArray w')->
   Fj m es g n b (D8 S ls env)=some outs->Does P a.eval o w (V9 P G ι m w outs):=by
  intro n b hn M O F h;obtain⟨U,Y,X,v,w',q1,W,q3⟩:=Ky N V p D M O F g1 h;refine M0 (v:=v) (w':=w') ?_ q3;rw [← Ae (T:=o.type) hu p hd D hn] at W;simp [execOp,ho,resolve,hc,l,q,invoke,builtin,Z,e2,q1,W]
 cases hi:CP d with
 | true=>rw [hi] at f;obtain⟨k,n,C,f⟩:=dM f;obtain⟨j,f⟩:=D5 f;obtain⟨L,f⟩:=D5 f;have j:n*g<=281474976710656:=K9 j;have L:n<9223372036854775808:=Eq.mp Xb L;have C:D8 A ls env=.int k n:=C;refine B n (Q0 z n) (.inr ⟨hi,⟨k,by rw [C];rfl⟩,L,j⟩) (by obtain⟨_,_,_,J⟩:=bI (P:=P) (w:=w) I ι;exact qD (J _) n) (λr=>by rw [r];rfl) (λw' _=>?_) f;obtain⟨zv,Q,R,J⟩:=bI (P:=P) (w:=w') I ι;simp only [hi,agh,aau,if_false];split;rename_i r;have:Q0 z n=[]:=aax.1 (by rw [dD,← E];exact r);simp [this,o9];simp [Q,R,xR]
 | false=>
  rw [hi] at f;obtain⟨n,C,f⟩:=z8 f;obtain⟨b,j,f⟩:=z8 f;refine B n b (.inl ⟨hi,sP C w⟩) (gG N j).2 (λr=>?_) (λw' hw=>?_) f;subst r;have r:∀i K,R8 m i K 0=some []:=λi K=>rfl;generalize D8 A ls env=v at j;cases v<;>simp only [gV,reduceCtorEq] at j<;>simp_all [bytesOf]
  simp only [hi,ajV,if_true];exact (gG (w:=w') (by rw [hw];exact N) j).1
end
section
variable {P:Program}{G:Mem}{ι:H6}{m:Mem}{w:World}{slots:List Nat}{done:List (Option Nat)}{ls:List d9}{env:T d9}{a:Act}
theorem Ig (s:St P ι (m.nm ι) slots done ls env a.tmps)(c:RM P G ι m w.heap){t:TypeId}(i:P.underlying t=some .string)
  {x:Operand} {d:N9} (k:J7 P slots done x=some d) {cf:D7} {outs:List VM} (j:lY (.rangeS d) cf ls env m=some outs):
  ∀o:Oper,o.op=.range t x->Does P a.eval o w (V9 P G ι m w outs):=by
 intro o g;obtain⟨f,_⟩:=y9 s k;obtain⟨str,b,h⟩:=fE j;cases h;have b:D8 d ls env=.str str:=b;have e:=Laid.new c.ok c.limn (.siter str 0) rfl;refine M0 (v:=.pointer (some ⟨w.heap.size,0,none⟩)) (w':={w with heap:=w.heap.push (.stringIter ⟨str.toArray⟩ 0)}) ?_
  ⟨_,aA.2 rfl,ι.upd m.nx ⟨w.heap.size,0,0,none⟩,Step.lay (w':={w with heap:=w.heap.push (.stringIter ⟨str.toArray⟩ 0)}) c e (o:=.stringIter ⟨str.toArray⟩ 0) (l:=⟨w.heap.size,0,0,none⟩) ⟨rfl,rfl,rfl,rfl⟩ rfl rfl ⟨rfl,bK⟩ (by intro _ _ _ h;cases h),e.self,by simp [l7,H6.at]⟩
 simp [execOp,g,Instr.range,run_underlying i,f,b,l7,run_newObj]
theorem QG {β:Type}{b:Option N7}{k:List UInt8->Nat->Option β}{r:β}(h:GX b k=some r):∃s p,b=some (.siter s p)∧k s p=some r:=by
 match b,h with
 | some (.siter s p),h=>exact⟨s,p,rfl,h⟩
theorem Kz (s:St P ι (m.nm ι) slots done ls env a.tmps)(k:RM P G ι m w.heap)
  {x:Operand} {u:N9} (E:J7 P slots done x=some u) {cf:D7} {outs:List VM} (D:lY (.nextS u) cf ls env m=some outs):
  ∀o:Oper,o.op=.next x true->Does P a.eval o w (V9 P G ι m w outs):=by
 intro o z;obtain⟨A,_⟩:=y9 s E;obtain⟨id,off,n,h⟩:=cZ D;have n:D8 u ls env=.ptr id off:=n;obtain⟨B,h⟩:=D5 h;obtain rfl:off=0:=aP B;obtain⟨C,h⟩:=iU h;have r:=iI C;obtain⟨c,p,q,h⟩:=QG h;obtain⟨y,l⟩:=k.blk id _ q;have t:=k.spot id _ q rfl;have g:=dN (P:=P) l (by intro _ _ _ e;cases e);have i:=λo=>qF (P:=P) (o:=o) l (by intro _ _ _ e;cases e);have j:ByteArray.size ⟨c.toArray⟩=c.length:=mO c;have f:a.eval x=.pointer (some ⟨(ι id).b,0,none⟩):=by rw [A,n];simp [l7,H6.at,y,t]
 rw [I4] at h;cases d:Nat.blt p c.length with
 | false=>
  rw [d] at h;cases h;have d:¬ p<c.length:=by have:=iI d;omega
  refine M0 (v:=.tuple #[.bool false]) (w':=w) ?_ ⟨_,aA.2 rfl,ι,Step.refl k,by simp [d9.lt,X0],by simp [l7,o9]⟩;simp [execOp,z,f,Instr.next,g,j,d]
 | true=>
  rw [d] at h;cases h;have d:p<c.length:=Eq.mp Xb d;refine M0 (v:=.tuple #[.bool true,.int .i64 p,.int .i32 (Utf8.decode ⟨c.toArray⟩ p).1]) (w':={w with heap:=w.heap.setIfInBounds (ι id).b (.stringIter ⟨c.toArray⟩ (p+(Utf8.decode ⟨c.toArray⟩ p).2))}) ?_
   ⟨_,aA.2 rfl,ι,Step.set k r q rfl rfl (o:=.stringIter ⟨c.toArray⟩ (p+(Utf8.decode ⟨c.toArray⟩ p).2)) ⟨rfl,rfl,rfl,rfl⟩ ⟨y,eF l⟩ (by intro _ _ _ h;cases h),by simp [d9.lt,X0],by simp [l7,o9]⟩
  simp [execOp,z,f,Instr.next,g,j,d,i,goInt]
theorem CR {e:TypeId}(h:zX P e=true):P.underlying e=some (.int .u8)∧V5 P e=some 1∧dV P e=some 1∧∃z,AX P e=some z∧z.length=1:=by unfold zX at h;simp only [gI,beq_iff_eq] at h;obtain⟨⟨⟨a,b⟩,d⟩,f⟩:=h;obtain⟨z,c⟩:=ajG.1 f;refine⟨?_,b,d,z,c,?_⟩;split at a;assumption;cases a;have:=(mg c).2;rw [b] at this;exact (Xl this).symm
theorem QH (t:List UInt8):K4 (bytesOf t)=true:=by
 induction t with
 | nil=>rfl
 | cons b t ih=>show bi true (K4 (bytesOf t)) false=true;rw [ih];rfl
theorem zl (ι:H6)(t:List UInt8)(j:Nat):(o9 ι (bytesOf t))[j]?=(t[j]?).map λb=>Value.int .u8 (b.toNat:Int):=by rw [V4,mY,aas];cases t[j]? <;> simp [l7]
theorem fF (t:List UInt8):(bytesOf t).length=t.length:=by rw [mY,aev]
theorem Nn (s:St P ι (m.nm ι) slots done ls env a.tmps)(E:RM P G ι m w.heap){c:Call}{t u e:TypeId}{x y:Operand}{H R:N9}(hc:c.callee=.builtin .append)
  (a2:c.argTypes.toList=[t,u]) (U:c.args.toList=[x,y]) (hu:P.underlying t=some (.slice e)) (hd:P.underlying u=some .string) (ab:zX P e=true)
  (hx:J7 P slots done x=some H) (hy:J7 P slots done y=some R) {cf:D7} {outs:List VM} (g:lY (.appB e H R) cf ls env m=some outs):
  ∀o:Oper,o.op=.call c->Does P a.eval o w (V9 P G ι m w outs):=by
 obtain⟨_,Z,F,z,hz,af⟩:=CR ab;have old:lY (.app 1 false z 1 H R) cf ls env m=some outs->∀o:Oper,o.op=.call c->Does P a.eval o w (V9 P G ι m w outs):=
  λh=>FH s E hc a2 U hu hd Z hz F hx hy h
 obtain⟨e1,g1⟩:=y9 s hx;obtain⟨e2,g2⟩:=y9 s hy;have a3:c.argTypes=#[t,u]:=by rw [← a2,Z9]
 have V:c.args=#[x,y]:=by rw [← U,Z9]
 obtain⟨a9,_⟩:=mg hz;have I:∀{d:List UInt8} {base:Option Addr} {sLen sCap:Nat} {v:Value} {w':World},D8 R ls env=.str d->l7 ι (D8 H ls env)=.slice base sLen sCap->
   (iZ false e 1 sLen sCap base (l7 ι (.str d)) d.length).run P w=.ok v w'->V9 P G ι m w outs v w'->∀o:Oper,o.op=.call c->Does P a.eval o w (V9 P G ι m w outs):=by
  intro d base sLen sCap v w' S q2 q3 q4 o ho;refine M0 (v:=v) (w':=w') ?_ q4;have hn:ab8 P w (CP .string) 1 d.length (l7 ι (.str d)):=.inl ⟨rfl,sP (v:=.str d) (by simp [lenOf]) w⟩;have h3:(iZ (CP .string) e 1 sLen sCap base (l7 ι (.str d)) d.length).run P w=.ok v w':=q3;rw [← Ae (T:=o.type) hu Z hd F hn] at h3;simp [execOp,ho,resolve,hc,V,a3,invoke,builtin,e1,e2,S,q2,h3]
 have C:∀(d:List UInt8) (w':World),w'.heap=w.heap->(if (!false)=true then Builtin.firstCells 1 d.length (l7 ι (.str d)) else if d.length*1=0 then pure #[] else do pure (Builtin.zeroCells (← zeroValue e).cells d.length):Sem (Array Value)).run P w'=.ok (o9 ι (bytesOf d)).toArray w':=by
  intro d w' hw;have:gV m 1 d.length (.str d)=some (bytesOf d):=by simp [gV]
  exact (gG (w:=w') (by rw [hw];exact E) this).1
 have aa:∀{m0:Mem} (st:Step P G ι m w ι m0 w) (f d:List UInt8) (capN:Nat) (i:List Value),m0.nx=m.nx->f.length+d.length<=capN->i.length=(capN-(f.length+d.length))*z.length->
   outs=[⟨.sliceU m.nx 0 (f.length+d.length) 1,m0.new (.buf e (f++d))⟩]->
   V9 P G ι m w outs (.slice (some ⟨w.heap.size,0,none⟩) (f.length+d.length) capN) {w with heap:=w.heap.push (.cells (o9 ι (bytesOf f)++o9 ι (bytesOf d)++i).toArray e),drawn:=w.drawn+1}:=by
  intro m0 st f d capN i ac X N p;subst p;have hl:=Laid.new st.rm.ok st.rm.limn (.buf e (f++d)) rfl;rw [ac] at hl;have ad:(o9 ι (bytesOf f)++o9 ι (bytesOf d)++i).toArray.size=capN:=by simp only [aey,Z7,Q9,fF,N,af];omega
  have Q:=st.trans (Step.lay (w':={w with heap:=w.heap.push (.cells (o9 ι (bytesOf f)++o9 ι (bytesOf d)++i).toArray e),drawn:=w.drawn+1}) st.rm hl (o:=.cells (o9 ι (bytesOf f)++o9 ι (bytesOf d)++i).toArray e) ⟨rfl,rfl,rfl,rfl⟩ (l:=⟨w.heap.size,0,capN,none⟩) rfl rfl
   ⟨rfl,_,_,bK,by simp;omega,by rw [ad];exact lM _,λj b q=>?_⟩ (by intro c' e' fz h k hk;cases h;simp))
  exact mh rfl Q hl.self (by omega) (need:=f.length+d.length) (by simpa using X) (by simp);have L:=(gq.1 q).1;rw [ac1,Y4 (by simpa [fF] using L)];by_cases h1:j<f.length;rw [Y4 h1] at q;rw [Y4 (by simpa [fF] using h1),zl,q];rfl;rw [aaq (by omega)] at q;rw [aaq (by simp [fF];omega),zl];simp only [Q9,fF];rw [q];rfl
 change JK e (D8 H) (D8 R) cf ls env m=some outs at g
 unfold JK at g;split at g;rename_i D;obtain⟨d,A,g⟩:=fE g;cases d with
 | nil=>refine old ?_;show oK 1 1 (D8 H) (D8 R) cf ls env m=some outs;unfold oK;rw [A,D];exact g
 | cons b0 t0=>
  generalize hstr:b0::t0=d at *;have g:bi (big (len' d) 1 1) (one (.sliceU m.nx 0 (len' d) 1) (m.new (.buf e d))) none=some outs:=by rw [← hstr] at g ⊢;exact g
  obtain⟨W,g⟩:=D5 g;rw [I4] at W g;obtain⟨b1,_,b3⟩:=sQ W;have p:outs=[⟨.sliceU m.nx 0 (([]:List UInt8).length+d.length) 1,m.new (.buf e ([]++d))⟩]:=by cases g;simp
  have a0:0<d.length:=by rw [← hstr];simp
  obtain⟨capN,i,r1,r2,r3⟩:=jd (P:=P) (w:=w) (zs:=false) (e:=e) (es:=1) (sLen:=0) (sCap:=0) (base:=none) (x:=l7 ι (.str d)) (n:=d.length) (old:=[]) F a9 (by omega) (by simpa using b1) b3
   (λw' _=>by simp [Builtin.firstCells]) (C d)
  refine I A (by rw [D];rfl) r3 ?_;have:=aa (Step.refl E) [] d capN i rfl (by simpa using r1) (by simpa using r2) p;simpa [bytesOf,o9] using this
 rename_i id off len es D;split at g;rename_i ty' f K;obtain⟨d,A,g⟩:=fE g;obtain⟨k1,a4⟩:=D5 g;obtain⟨k2,a5⟩:=D5 a4;obtain⟨k3,a6⟩:=D5 a5;obtain⟨k4,a7⟩:=D5 a6;obtain⟨k5,a8⟩:=D5 a7;clear g a4 a5 a6 a7;rw [I4] at k4;have r:m.lim<=id:=K9 k5;obtain rfl:e=ty':=aP k1;obtain rfl:off=0:=aP k2;obtain rfl:es=1:=aP k3;obtain rfl:len=f.length:=aP k4;have g:=a8;clear a8;cases d with
 | nil=>refine old ?_;show oK 1 1 (D8 H) (D8 R) cf ls env m=some outs;unfold oK;rw [A,D];exact g
 | cons b0 t0=>
  generalize hstr:b0::t0=d at *;have g:bi (big (Nat.add f.length (len' d)) 1 1) (one (.sliceU m.nx 0 (Nat.add f.length (len' d)) 1) ((m.set id .dead).new (.buf e (ah f d)))) none=some outs:=by rw [← hstr] at g ⊢;exact g
  obtain⟨W,g⟩:=D5 g;rw [I4] at W g;rw [Q8] at g;obtain⟨b1,_,b3⟩:=sQ W;have p:outs=[⟨.sliceU m.nx 0 (f.length+d.length) 1,(m.set id .dead).new (.buf e (f++d))⟩]:=by cases g;rfl
  have a0:0<d.length:=by rw [← hstr];simp
  obtain⟨q0,cs,fz,S,q2,q3,q4⟩:=E.blk id _ K;have O:=E.spot id _ K rfl;have Y:l7 ι (D8 H ls env)=.slice (some ⟨(ι id).b,0,none⟩) f.length (ι id).cap:=by rw [D];simp [l7,H6.at,q0,O]
  have B:=(E.own id _ r K rfl).free cs e fz S;have J:∀w':World,w'.heap=w.heap->∀(j:Nat) (v:d9),(bytesOf f)[j]?=some v->w'.cell? (ι.at id (0+j))=some (l7 ι v):=by
   intro w' hw j v q;rw [mY,aas] at q;cases hb':f[j]? with
   | none=>rw [hb'] at q;cases q
   | some b'=>rw [hb'] at q;cases q;have:=q4 j b' hb';simp [World.cell?,hw,H6.at,q0,O,S,l7,this]
  by_cases hfit:f.length+d.length<=(ι id).cap
  ·
   have a1:=mX (P:=P) (o9 ι (bytesOf d)) cs (f.length*1) 0 w S (by simp [fF];omega) B (λv g=>by
    rw [ak] at g;obtain⟨u',ae,rfl⟩:=ac4.1 g;exact zh (nY (QH d) u' ae))
   refine I A Y (jc hfit (C d w rfl) (by
    have:(⟨(ι id).b,0,none⟩:Addr).add (f.length*1)=⟨(ι id).b,f.length*1,none⟩:=(by simp [Addr.add];intro h;simp [h]);simp only [this];exact a1)) ?_
   subst p;have M:=Laid.new (Step.kill E r K).rm.ok (Step.kill E r K).rm.limn (.buf e (f++d)) rfl;have Q:=Step.aa0 (l:=⟨(ι id).b,0,(ι id).cap,none⟩) (o:=.cells (over cs (f.length*1+0) (o9 ι (bytesOf d))) e fz) (w':={w with heap:=w.heap.setIfInBounds (ι id).b (.cells (over cs (f.length*1+0) (o9 ι (bytesOf d))) e fz)})
    (b':=.buf e (f++d)) E r K rfl rfl ⟨rfl,rfl,rfl,rfl⟩ rfl rfl ⟨rfl,_,_,eF S,by simpa using hfit,by simpa using q3,λj b q=>?_⟩ (by intro c' e' ag h k hk;cases h;exact B k (by simpa using hk))
   have:=mh rfl Q M.self (lM 1) (need:=f.length+d.length) (by simpa using hfit) (cap:=(ι id).cap) (by simp);simpa using this;have L:=(gq.1 q).1;rw [Z7] at L;rw [xO _ _ _ (by simp [fF];omega)];by_cases h1:j<f.length;rw [Y4 h1] at q;rw [if_pos (by omega)];exact q4 j b q;rw [aaq (by omega)] at q;rw [if_neg (by omega),if_pos (by simp [fF];omega),zl,show j-(f.length*1+0)=j-f.length from by omega,q];rfl
  obtain⟨capN,i,r1,r2,r3⟩:=jd (P:=P) (w:=w) (zs:=false) (e:=e) (es:=1) (sLen:=f.length) (sCap:=(ι id).cap) (base:=some ⟨(ι id).b,0,none⟩) (x:=l7 ι (.str d)) (n:=d.length) (old:=o9 ι (bytesOf f)) F a9 hfit b1 b3
   (λw' hw=>by
    have:=eY (P:=P) (ι:=ι) (w:=w') (id:=id) (off:=0) (len:=f.length) (cap:=(ι id).cap) (es:=1) (n:=f.length) (l:=bytesOf f) (by rw [fF,ajT]) (J w' hw);simpa [H6.at,q0,O] using this) (C d)
  exact I A Y r3 (aa (Step.kill E r K) f d capN i rfl r1 r2 p)
 exact old g;exact old g
theorem Np {w:World}{b:Nat}{c:Array Value}{e:TypeId}{fz:Nat×Nat}(h:w.heap[b]?=some (.cells c e fz))(n:Nat):∃fz',w.freeze ⟨b,0,none⟩ n={w with heap:=w.heap.setIfInBounds b (.cells c e fz')}:=by
 have g:=(q8.1 h).1;have i:w.heap[b]=.cells c e fz:=(q8.1 h).2;have a:∀(f:Obj->Obj) fz',f (.cells c e fz)=.cells c e fz'->w.heap.modify b f=w.heap.setIfInBounds b (.cells c e fz'):=by intro f fz' k;apply ac2;intro j;rw [agi,Array.getElem?_setIfInBounds];by_cases hj:b=j;subst hj;simp [h,k,g,i];simp [hj]
 unfold World.freeze;split;refine⟨fz,?_⟩;have d:w.heap.modify b id=w.heap:=by apply ac2;intro j;rw [agi];split<;>simp
 rw [← a id fz rfl,d];obtain⟨m,l⟩:=fz;exact⟨_,by congr 1;exact a _ _ rfl⟩
theorem Xt {β:Type}{v:d9}{k:Nat->Option β}{r:β}(h:ab1 v k=some r):∃n:Nat,v=.int .i64 (n:Int)∧k n=some r:=by unfold ab1 at h;split at h;exact⟨_,rfl,h⟩;cases h
theorem Nq (s:St P ι (m.nm ι) slots done ls env a.tmps)(C:RM P G ι m w.heap){c:Call}{t u e:TypeId}{x y:Operand}{U V:N9}(L:c.callee=.builtin .unsafeString)
  (g:c.argTypes.toList=[t,u]) (f:c.args.toList=[x,y]) (hu:P.underlying t=some (.pointer e)) (K:zX P e=true)
  (hx:J7 P slots done x=some U) (hy:J7 P slots done y=some V) {cf:D7} {outs:List VM} (i:lY (.ustr e U V) cf ls env m=some outs):
  ∀o:Oper,o.op=.call c->Does P a.eval o w (V9 P G ι m w outs):=by
 intro o Q;obtain⟨_,M,_⟩:=CR K;obtain⟨X,_⟩:=y9 s hx;obtain⟨E,_⟩:=y9 s hy;have g:c.argTypes=#[t,u]:=by rw [← g,Z9]
 have f:c.args=#[x,y]:=by rw [← f,Z9]
 obtain⟨n,q,i⟩:=Xt i;have q:D8 V ls env=.int .i64 (n:Int):=q
 change (match D8 U ls env with
  | .nilPtr=>bi (Nat.beq n 0) (one (.str []) m) none
  | .ptr id p=>bi (Nat.beq p 0) (bi (Nat.ble m.lim id) (match m.get id with
   | some (.buf ty' s)=>bi (Nat.beq e ty') (bi (Nat.beq n (len' s)) (bi (Nat.ble n 9223372036854775807) (one (.str s) (m.set id .dead)) none) none) none
   | _=>none) none) none
  | _=>none)=some outs at i
 split at i;rename_i H;obtain⟨I,k⟩:=D5 i;clear i;cases k;obtain rfl:n=0:=aP I;refine M0 (v:=.string .empty) (w':=w) ?_ ⟨_,aA.2 rfl,ι,Step.refl C,trivial,rfl⟩;have:=Lib.run_unsafeString_none (P:=P) w t u o.type none;simp [execOp,Q,resolve,L,f,g,invoke,builtin,X,E,q,H,l7,this];rename_i id p H;obtain⟨I,k⟩:=D5 i;obtain⟨Z,l⟩:=D5 k;clear i k;obtain rfl:p=0:=aP I;have z:m.lim<=id:=K9 Z;split at l;rename_i ty' d O;obtain⟨h5,A⟩:=D5 l;obtain⟨Y,B⟩:=D5 A;obtain⟨h7,T⟩:=D5 B;clear l A B;rw [I4] at Y;cases T;obtain rfl:e=ty':=aP h5;obtain rfl:n=d.length:=aP Y;have J:d.length<=9223372036854775807:=K9 h7;obtain⟨q0,W,fz,D,q2,q3,q4⟩:=C.blk id _ O;have R:=C.spot id _ O rfl;obtain⟨F,N⟩:=Np D d.length;have S:Step P G ι m w ι (m.set id .dead) (w.freeze ⟨(ι id).b,0,none⟩ d.length):=by rw [N];exact Step.set' C z O rfl rfl (o:=.cells W e F) ⟨rfl,rfl,rfl,rfl⟩ trivial (λh=>by cases h)
 refine M0 (v:=.string ⟨d.toArray⟩) (w':=w.freeze ⟨(ι id).b,0,none⟩ d.length) ?_ ⟨_,aA.2 rfl,ι,S,trivial,rfl⟩;have r:a.eval x=.pointer (some ⟨(ι id).b,0,none⟩):=by rw [X,H];simp [l7,H6.at,q0,R]
 by_cases h0:d=[];subst h0;have:=Lib.run_unsafeString_none (P:=P) w t u o.type (some ⟨(ι id).b,0,none⟩);simp [execOp,Q,resolve,L,f,g,invoke,builtin,r,E,q,l7,this,World.freeze];rfl;have:=Lib.run_unsafeString_row (P:=P) w t u o.type e hu (vZ M) (ι id).b W.size (by simp [World.shape?,D]) d h0 (by omega) J (λj b hj=>by
  have:=q4 j b hj;by_cases h0:j=0;subst h0;simpa [World.cell?,Addr.add,D] using this;simpa [World.cell?,Addr.add,D,h0] using this)
 simp [execOp,Q,resolve,L,f,g,invoke,builtin,r,E,q,l7,this];cases l;cases i
end
section
variable {P:Program}{G:Mem}{ι:H6}{m:Mem}{w:World}{slots:List Nat}{done:List (Option Nat)}{ls:List d9}{env:T d9}{a:Act}
def zm (P:Program)(f:FuncId):Prop:=∃fn,P.funcs[f]?=some fn∧fn.body.isSome=true∧fn.name≠ "runtime.NumGoroutine"
def O0 (P:Program)(G:Mem)(ι:H6)(m:Mem)(w:World)(outs:List VM)(e:Ending)(w':World):Prop:=
 (∃v,e=.returned v∧V9 P G ι m w outs v w')∨
  ∃r∈outs,∃x ι',r.v=.ng x∧Step P G ι m w ι' r.m w'∧x.lt (r.m.nm ι')∧e=.panicked [{v:=l7 ι' x,recovered:=false}]
def jA (P:Program)(ρ:Operand->Value)(o:Oper)(w:World)(R:Ending->World->Prop):Prop:=
 match (execOp ρ o).run P w with
 | .ok (.value v) w'=>R (.returned v) w'
 | .ok .skip w'=>R (.returned undef) w'
 | .ok (.enter f args) w'=>CallsIn Fence.wide 0 P f args w' R
 | .ok (.round l f tmps assign body) w'=>RoundIn Fence.wide 0 P l f tmps assign body w' R
 | .halt (.panic v) w'=>R (.panicked [{v,recovered:=false}]) w'
 | _=>False
theorem U3 {c:Operand->Value}{o:Oper}{outs:List VM}(h:Does P c o w (V9 P G ι m w outs)):jA P c o w (O0 P G ι m w outs):=by
 unfold Does at h;unfold jA;generalize (execOp c o).run P w=res at h;cases res with
 | halt=>exact h.elim
 | ok x w'=>
  cases x with
  | value v=>exact .inl ⟨_,rfl,h⟩
  | skip=>exact .inl ⟨_,rfl,h⟩
  | enter f args=>exact ajy h λe b a=>.inl a
  | round l f tmps assign body=>exact RoundIn.mono h λe b a=>.inl a
  | _=>exact h.elim
theorem Nr {a:Operand->Value}{o:Oper}{R:Value->World->Prop}(h:Does P a o w R):jA P a o w (λe w'=>∃v,e=.returned v∧R v w'):=by
 unfold Does at h;unfold jA;generalize (execOp a o).run P w=res at h;cases res with
 | halt=>exact h.elim
 | ok x w'=>
  cases x with
  | value v=>exact⟨_,rfl,h⟩
  | skip=>exact⟨_,rfl,h⟩
  | enter f args=>exact h
  | round l f tmps assign body=>exact h
  | _=>exact h.elim
structure lI (P:Program)(G:Mem)(cf:D7):Prop where
 func:∀{f:FuncId} {args:List d9} {m:Mem} {outs:List VM},cf (.func f) args m=some outs->zm P f∧∀{ι:H6} {w:World},RM P G ι m w.heap->X0 (m.nm ι) args->
  CallsIn Fence.wide 0 P f (o9 ι args).toArray w (O0 P G ι m w outs)
 yield:∀{l:Nat} {args:List d9} {m:Mem} {outs:List VM},cf (.yield l) args m=some outs->∀{ι:H6} {w:World},RM P G ι m w.heap->X0 (m.nm ι) args->
  ∃L:Loop,w.heap[(ι l).b]?=some (.loop L)∧args.length=L.params.size∧
   RoundIn Fence.wide 0 P (ι l).b L.fn ((L.params.zip (o9 ι args).toArray).foldl (λt (p,v)=>t.setIfInBounds p v) L.tmps) L.assign L.body w (O0 P G ι m w outs)
 other:∀{fn:Fn} {args:List d9} {m:Mem} {outs:List VM},cf fn args m=some outs->(∃f,fn=.func f)∨∃l,fn=.yield l
theorem lJ {f:FuncId}(h:zm P f)(args:Array Value)(w:World):(callFunc f args).run P w=.ok (.enter f args) w:=by
 obtain⟨b,d,a,e⟩:=h;cases hb:b.body with
 | none=>rw [hb] at a;cases a
 | some c=>simp [callFunc,d,e,hb]
theorem je (ι:H6)(l r:List d9):o9 ι (l++r)=o9 ι l++o9 ι r:=by simp [ak]
theorem iq {n:Nm}{l r:List d9}(h:X0 n l)(h':X0 n r):X0 n (l++r):=bB.2 λv a=>(Z5.1 a).elim (M6 h) (M6 h')
theorem Ih (s:St P ι (m.nm ι) slots done ls env a.tmps){b:Array Operand}{os:List N9}(h:iE P slots done b.toList=some os):
  b.map a.eval=(o9 ι (evs (dU os) ls env)).toArray∧X0 (m.nm ι) (evs (dU os) ls env):=by
 obtain⟨c,d⟩:=jH s h;refine⟨?_,d⟩;rw [← c,← ajB,Z9]
theorem Ns {cf:D7}(h:lI P G cf)(s:St P ι (m.nm ι) slots done ls env a.tmps)(p:RM P G ι m w.heap){c:Call}{f:FuncId}{e:List N9}(l:c.callee=.value (.func f))
  (g:iE P slots done c.args.toList=some e) {outs:List VM} (i:lY (.call f e) cf ls env m=some outs):
  ∀o:Oper,o.op=.call c->jA P a.eval o w (O0 P G ι m w outs):=by
 intro o q;obtain⟨j,k⟩:=Ih s g;have i:cf (.func f) (evs (dU e) ls env) m=some outs:=i;obtain⟨n,b⟩:=h.func i;have d:(execOp a.eval o).run P w=.ok (.enter f (o9 ι (evs (dU e) ls env)).toArray) w:=by simp [execOp,q,resolve,l,Act.eval,Deferred.ofValue,invoke,j,lJ n]
 unfold jA;rw [d];exact b p k
theorem KA {cf:D7}(j:lI P G cf)(s:St P ι (m.nm ι) slots done ls env a.tmps)(F:RM P G ι m w.heap){c:Call}{f:Operand}{q:N9}{e:List N9}(E:c.callee=.value f)
  (z:J7 P slots done f=some q) (u:iE P slots done c.args.toList=some e) {outs:List VM} (O:lY (.callv q e) cf ls env m=some outs):
  ∀o:Oper,o.op=.call c->jA P a.eval o w (O0 P G ι m w outs):=by
 intro o H;obtain⟨A,B⟩:=Ih s u;obtain⟨n,C⟩:=y9 s z;obtain⟨D,x,y,r,h⟩:=Hr O;have r:D8 q ls env=.func D x y:=r;rw [r] at n C;obtain⟨_,I,k⟩:=C;cases D with
 | func g=>
  have h:cf (.func g) (ah x (ah (evs (dU e) ls env) y)) m=some outs:=h;rw [Q8,Q8] at h;obtain⟨N,i⟩:=j.func h;have d:(execOp a.eval o).run P w=.ok (.enter g (o9 ι (x++(evs (dU e) ls env++y))).toArray) w:=by simp [execOp,H,resolve,E,n,l7,gZ,Deferred.ofValue,invoke,A,lJ N,je]
  unfold jA;rw [d];exact i F (iq I (iq B k))
 | yield l=>
  have h:cf (.yield l) (ah x (evs (dU e) ls env)) m=some outs:=h;rw [Q8] at h;obtain⟨L,J,K,M⟩:=j.yield h F (iq I B);have d:(execOp a.eval o).run P w=.ok (.round (ι l).b L.fn ((L.params.zip (o9 ι (x++evs (dU e) ls env)).toArray).foldl (λt (p,v)=>t.setIfInBounds p v) L.tmps) L.assign L.body) w:=by have k:=run_yield (P:=P) (args:=(o9 ι (x++evs (dU e) ls env)).toArray) J (by simpa using K);rw [je,← List.append_toArray] at k ⊢;simp only [execOp,H,resolve,E,n,l7,gZ,Deferred.ofValue,invoke,A,J3,Y2,gM,k]
  unfold jA;rw [d];exact M
 | method=>cases h
 | methodOf=>cases h
 | via=>cases h
theorem KC (s:St P ι (m.nm ι) slots done ls env a.tmps)(g:RM P G ι m w.heap){x:Operand}{d:N9}(i:J7 P slots done x=some d){cf:D7}{outs:List VM}(b:lY (.panic d) cf ls env m=some outs):
  ∀o:Oper,o.op=.panic x->jA P a.eval o w (O0 P G ι m w outs):=by
 intro o h;obtain⟨e,f⟩:=y9 s i;have b:Xe (D8 d ls env) m=some outs:=b;generalize D8 d ls env=v at *;cases v with
 | iface t y=>
  have b:some [(⟨.ng (.iface t y),m⟩:VM)]=some outs:=b;cases b;have c:(execOp a.eval o).run P w=.halt (.panic (l7 ι (.iface t y))) w:=by simp [execOp,h,e,l7,Instr.panic,goPanic]
  unfold jA;rw [c];exact .inr ⟨_,aA.2 rfl,_,ι,rfl,Step.refl g,f,rfl⟩
 | _=>cases b
theorem zn {cf:D7}(f:lI P G cf)(s:St P ι (m.nm ι) slots done ls env a.tmps)(d:RM P G ι m w.heap){i:Op}{g:Sq}(h:dY P slots done i=some (.e g)){outs:List VM}(c:lY g cf ls env m=some outs):
  ∀o:Oper,o.op=i->jA P a.eval o w (O0 P G ι m w outs):=by
 cases xH h with
 | store h1 h2 h3=>exact λo b=>U3 (Ko s d h1 h2 h3 c o b)
 | mapUpdate h1 h2 h3 h4 h5=>exact λo b=>U3 (xQ s d h1 h2 h3 h4 h5 c o (.inl b))
 | insert h1 h2 h3 h4 h5=>exact λo b=>U3 (xQ s d h1 h2 h3 h4 h5 c o (.inr b))
 | range h1 h2=>exact λo b=>U3 (Ku s d h1 h2 c o b)
 | next h1=>exact λo b=>U3 (Nk s d h1 c o b)
 | app h1 h2 h3 h4 h5 h6 h7 h8 h9 h10=>exact λo b=>U3 (FH s d h2 h3 h4 h5 h1 h6 h7 h8 h9 h10 (by rw [← Xr];exact c) o b)
 | copy h1 h2 h3 h4 h5 h6 h7=>exact λo b=>U3 (Nl s d h1 h2 h3 h4 h5 h6 h7 c o b)
 | clear h1 h2 h3 h4 h5 h6=>exact λo b=>U3 (Kv s d h1 h2 h3 h4 h5 h6 c o b)
 | call h1 h2 h3 h4 h5=>exact Ns f s d h1 h5 c
 | callv h1 h2 h3=>exact KA f s d h1 h2 h3 c
 | panic h1=>exact KC s d h1 c
 | rangeS h1 h2=>exact λo b=>U3 (Ig s d h1 h2 c o b)
 | nextS h1=>exact λo b=>U3 (Kz s d h1 c o b)
 | appB h1 h2 h3 h4 h5 h6 h7 h8=>exact λo b=>U3 (Nn s d h2 h3 h4 h5 h1 h6 h7 h8 c o b)
 | ustr h1 h2 h3 h4 h5 h6 h7=>exact λo b=>U3 (Nq s d h1 h2 h3 h4 h5 h6 h7 c o b)
 | defer=>cases c
 | recover=>cases c
end
end Go.AM
