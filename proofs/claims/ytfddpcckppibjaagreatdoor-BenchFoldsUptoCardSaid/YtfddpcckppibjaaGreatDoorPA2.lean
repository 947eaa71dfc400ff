/- A part of an evaluator for the model, proved sound: what it answers holds of the model; it speaks of every program, no condition. -/
import Derived.Test.YtfddpcckppibjaaGreatDoorPA1
import Derived.Lib.Builder
import Derived.Laws.NewFold
import Derived.CallsIn
import Derived.Lib.UnsafeStr
import Derived.RangeFuncLeaves
import Derived.RangeFuncRecord
import Derived.RangeFuncNested
import Derived.LoopNIn
set_option linter.all false
namespace Go.AM
open Go
section
variable {P:Program}{G:Mem}{ι:J9}{m:Mem}{w:World}
theorem dD {β:Type}{b:Option P8}{k:Nat->Nat->T (List d9)->Option β}{r:β}(h:U1 b k=some r):∃rs n rows,b=some (.cells rs n rows)∧k rs n rows=some r:=by
 match b,h with
 | some (.cells rs n rows),h=>exact⟨rs,n,rows,rfl,h⟩
theorem AJ {β:Type}{b:Option P8}{k:List (d9×d9)->Option β}{r:β}(h:Pf b k=some r):∃es,b=some (.map es)∧k es=some r:=by
 match b,h with
 | some (.map es),h=>exact⟨es,rfl,h⟩
theorem Ko (d:RM P G ι m w.heap){id rs k:Nat}{rows:T (List d9)}(b:m.get id=some (.cells rs k rows)){i j:Nat}(p:i<k)(q:j<rs){row:List d9}
  (r:rows.get i=some row) {v:d9} (f:row[j]?=some v):w.cell? (ι.at id (i*rs+j))=some (o8 ι v)∧v.lt (m.nm ι):=by
 obtain⟨c,e,s,n,u,x,o⟩:=d.blk id _ b;obtain⟨g,a,t,h,l⟩:=o i p;rw [r] at a;cases a;have:=l j q;rw [f] at this;refine⟨?_,P5 h (Y2 f)⟩;simp only [World.cell?,J9.at,n,d.spot id _ b rfl];simpa using this
theorem PS {rs n off:Nat}{rows:T (List d9)}{v:d9}(h:cell1 rs n rows off=some v):
  off / rs<n∧∃row,rows.get (off / rs)=some row∧row[off%rs]?=some v:=by
 obtain⟨b,c⟩:=G8 h;obtain⟨row,d,a⟩:=D6 c;rw [jh] at a;exact⟨Eq.mp Y4 b,row,d,a⟩
theorem BX (j:RM P G ι m w.heap){id rs k off:Nat}{rows:T (List d9)}(i:m.get id=some (.cells rs k rows)){v:d9}(h:cell1 rs k rows off=some v):
  w.cell? (ι.at id off)=some (o8 ι v)∧v.lt (m.nm ι):=by
 obtain⟨d,p,f,g⟩:=PS h;obtain⟨c,e,q,_,_,_,o⟩:=j.blk id _ i;obtain⟨l,b,n,_,_⟩:=o _ d;rw [f] at b;cases b;have a:off%rs<rs:=ahc (J2.1 g).1 n;have:=Ko j i d a f g
 rwa [show off / rs*rs+off%rs=off from by rw [aeL];exact akZ off rs] at this
def oM (ι:J9)(w:World)(id off:Nat)(l:List d9):Prop:=∀j v,l[j]?=some v->w.cell? (ι.at id (off+j))=some (o8 ι v)
theorem Kq (s:RM P G ι m w.heap){id rs n off k:Nat}{rows:T (List d9)}(p:m.get id=some (.cells rs n rows)){l:List d9}(h:jQ rs n rows off k=some l):
  l.length=k∧aU (m.nm ι) l∧oM ι w id off l:=by
 obtain⟨f,z⟩:=G8 h;obtain⟨row,g,a⟩:=D6 z;have f:off / rs<n:=Eq.mp Y4 f;obtain⟨c,e,C,_,_,_,A⟩:=s.blk id _ p;obtain⟨u,o,x,y,_⟩:=A _ f;have g:rows.get (off / rs)=some row:=g;rw [g] at o;cases o;have i:l=(row.drop (off%rs)).take k∧(off%rs+k<=rs∨k=0):=by have b:Nat.mod off rs=off%rs:=rfl;rw [b] at a;rw [uQ] at a;split at a;rename_i t;rw [uQ] at a;split at a;rename_i q;have e:row=l:=Y5 a;rw [t,q,← e];refine⟨?_,by omega⟩;rw [q8,← x,ahb];obtain⟨e,r⟩:=kX _ _ _ a;rw [t];exact⟨by rw [q8];exact e,by omega⟩;obtain⟨e,r⟩:=kX _ _ _ a;simp only [mg,List.length_drop] at r e;exact⟨e,by omega⟩
 obtain⟨rfl,q⟩:=i;refine⟨by simp;omega,cB.2 λv d=>P5 y (aeI (agn d)),λj v d=>?_⟩;have B:j<k:=by have:=(J2.1 d).1;simp at this;omega
 rw [aeP,if_pos B,ahe] at d;have:=(Ko s p f (show off%rs+j<rs by omega) g d).1
 rwa [show off / rs*rs+(off%rs+j)=off+j from by have:=akZ off rs;rw [aeL] at this;omega] at this
theorem He (rs n:Nat)(rows:T (List d9))(off:Nat):M0 rs n rows 0 off=some []:=rfl
theorem Hf (rs n:Nat)(rows:T (List d9))(k off:Nat):M0 rs n rows (k+1) off=ob (cell1 rs n rows off) λv=>ob (M0 rs n rows k (off+1)) λl=>some (v::l):=rfl
theorem uR (p:RM P G ι m w.heap){id rs n:Nat}{rows:T (List d9)}(o:m.get id=some (.cells rs n rows)):
  ∀(k off:Nat) (l:List d9),M0 rs n rows k off=some l->l.length=k∧aU (m.nm ι) l∧oM ι w id off l:=by
 intro k;induction k with
 | zero=>intro off l h;rw [He] at h;cases h;exact⟨rfl,trivial,λj v q=>by simp at q⟩
 | succ k ih=>
  intro off l h;rw [Hf] at h;obtain⟨v,g,h⟩:=D6 h;obtain⟨r,i,h⟩:=D6 h;cases h;obtain⟨b,c⟩:=BX p o g;obtain⟨d,e,f⟩:=ih _ _ i;refine⟨by simp [d],⟨c,e⟩,λj u a=>?_⟩;cases j with
  | zero=>simp at a;subst a;exact b
  | succ j=>rw [show off+(j+1)=off+1+j from by omega];exact f j u (by simpa using a)
theorem jY (e:RM P G ι m w.heap){id off k:Nat}{l:List d9}(h:S9 m id off k=some l):
  l.length=k∧aU (m.nm ι) l∧oM ι w id off l:=by
 cases k with
 | zero=>cases h;exact⟨rfl,trivial,λj v f=>by simp at f⟩
 | succ k=>have h:U1 (m.get id) (λb n a=>M0 b n a (k+1) off)=some l:=h;obtain⟨b,n,a,c,d⟩:=dD h;exact uR e c _ _ _ d
theorem MX {a:Addr}{v:Value}(h:w.cell? a=some v):(load a).run P w=.ok v w:=by simp [h]
theorem ze {id off:Nat}:∀(l:List d9) (i:Nat) (acc:Array Value),(∀j v,l[j]?=some v->w.cell? (ι.at id (off+(i+j)))=some (o8 ι v))->
  (loadCellsFrom (ι.at id off) i l.length acc).run P w=.ok (acc++(u6 ι l).toArray) w:=by
 intro l;induction l with
 | nil=>intro i acc _;simp [loadCellsFrom,u6]
 | cons v l ih=>intro i acc h;have a:w.cell? (ι.at id (off+i))=some (o8 ι v):=h 0 v rfl;simp only [Y6,loadCellsFrom,Xl,J9.oJ];rw [MX a,K9,ih (i+1) _ (λj u b=>by rw [show i+1+j=i+(j+1) from by omega];exact h (j+1) u (by simpa using b))];simp [u6]
theorem qC {id off:Nat}{l:List d9}(h:oM ι w id off l):(loadCells (ι.at id off) l.length).run P w=.ok (u6 ι l).toArray w:=by have:=ze (P:=P) (ι:=ι) (w:=w) (id:=id) (off:=off) l 0 #[] (λj v a=>by simpa using h j v a);simpa [loadCells] using this
theorem iD {id off len cap es n:Nat}{l:List d9}(a:l.length=n*es)(h:oM ι w id off l):
  (Builtin.firstCells es n (.slice (some (ι.at id off)) len cap)).run P w=.ok (u6 ι l).toArray w:=by
 simp only [Builtin.firstCells];rw [← a];exact qC h
end
section
variable {P:Program}{G:Mem}{ι:J9}{m:Mem}{w:World}{slots:List Nat}{done:List (Option Nat)}{ls:List d9}{env:T d9}{a:Act}
theorem wY {t:TypeId}{e:Option Nat}(j:partT P t=some e)(d:RM P G ι m w.heap){id off:Nat}{v:d9}
  (o:U1 (m.get id) (λrs n rows=>match e with | none=>cell1 rs n rows off | some k=>ob (jQ rs n rows off k) λl=>some (.agg l))=some v):
  (loadVar t (ι.at id off)).run P w=.ok (o8 ι v) w∧v.lt (m.nm ι):=by
 obtain⟨rs,n,rows,c,h⟩:=dD o;rcases Er j with⟨rfl,ha,k,hk⟩ | ⟨k,rfl,ha,hk⟩;obtain⟨a,b⟩:=BX d c h;exact⟨by simp [loadVar,qP ha,a],b⟩;obtain⟨l,a,b⟩:=D6 h;cases b;obtain⟨f,g,i⟩:=Kq d c a;refine⟨?_,g⟩;have:=qC (P:=P) i;rw [f] at this;simp [loadVar,qP ha,run_sizeOf hk,this,o8]
theorem gJ {t:TypeId}(h:P.underlying t=some .bool∨(∃k,P.underlying t=some (.int k))∨P.underlying t=some .string)(e:Bool)(d:Nat)(v:Value)(w:World):
  (Instr.checkKey e (d+1) t v).run P w=.ok () w:=by
 rcases h with h | ⟨k,h⟩ | h<;>simp [Instr.checkKey,run_underlying h]
def qc (e:Bool)(d:Nat)(X:Array Value):List Field->Sem Unit
 | []=>pure ()
 | f::l=>do
  if f.name≠ "_" then Instr.checkKey e d f.type (← part f.type X f.offset)
  qc e d X l
theorem PU (e:Bool)(d:Nat)(X:Array Value)(l:List Field):
  (forIn l PUnit.unit λf _=>do
    if f.name≠ "_" then Instr.checkKey e d f.type (← part f.type X f.offset)
    pure (ForInStep.yield PUnit.unit):Sem PUnit)=qc e d X l:=by
 induction l with
 | nil=>simp [qc]
 | cons f l ih=>rw [aiP];simp only [qc];rw [← ih];by_cases hf:f.name= "_";simp [hf];simp [hf]
theorem Da {t:TypeId}{a:Array Field}(h:P.underlying t=some (.struct a))(e:Bool)(d:Nat)(X:Array Value)(w:World):
  (Instr.checkKey e (d+1) t (.agg X)).run P w=(qc e d X a.toList).run P w:=by
 simp only [Instr.checkKey,Xl,run_underlying h,K9];rw [← aiU,← PU];generalize (forIn a.toList PUnit.unit _:Sem PUnit)=r;simp;cases r.run P w<;>rfl
theorem PV:∀(d:Nat) (t:TypeId) (ks:List PK),fH P d t=some ks->∃agg,wK P t=some agg∧aM P t=some ks.length∧(agg=false->ks.length=1)∧
  ∀D,d<=D->∀(l:List d9),ks.length<=l.length->∀(e:Bool) w,(Instr.checkKey e D t (mkV ι agg l)).run P w=.ok () w:=by
 intro d;induction d with
 | zero=>intro t ks h;simp [fH] at h
 | succ d ih=>
  intro t ks h;obtain⟨agg,k,i,n,_⟩:=Il (P:=P) (ι:=ι) (d+1) t ks h;refine⟨agg,k,i,n,λD s l v e w=>?_⟩;obtain⟨D,rfl⟩:∃D',D=D'+1:=⟨D-1,by omega⟩;simp only [fH] at h;cases hu:P.underlying t with
  | none=>simp [hu] at h
  | some u=>
   rw [hu] at h;cases u<;>try (simp at h;done)
   exact gJ (.inl hu) e D _ w;exact gJ (.inr (.inl ⟨_,hu⟩)) e D _ w;exact gJ (.inr (.inr hu)) e D _ w;rename_i p;rw [pY hu] at k;cases k;simp only at h;cases hf:oH (fH P d) p.toList 0 with
   | none=>simp [hf] at h
   | some ks'=>
    simp only [hf] at h;split at h;rename_i x;cases h;simp only [mkV,if_true];rw [Da hu];have o:∀(j:List Field) (c:Nat) (a:List PK),c+a.length<=l.length->oH (fH P d) j c=some a->
      (qc e D (u6 ι l).toArray j).run P w=.ok () w:=by
     intro j;induction j with
     | nil=>intro c a _ _;simp [qc]
     | cons f j ihl=>
      intro c a m b;simp only [oH] at b;split at b;rename_i q;cases hk:fH P d f.type with
      | none=>simp [hk] at b
      | some kf=>
       simp only [hk] at b;cases hrest:oH (fH P d) j (c+kf.length) with
       | none=>simp [hrest] at b
       | some kr=>
        simp only [hrest,J4] at b;subst b;simp only [aar] at m;obtain⟨agg,k,i,n,r⟩:=ih f.type kf hk;simp only [qc,if_pos q.1,Xl];rw [q.2,uO k i _ _ (λg=>⟨by have:=n g;omega,n g⟩),K9,
         r D (by omega) _ (by simp;omega) e w,K9]
        exact ihl (c+kf.length) kr (by omega) hrest
      cases b
    exact o p.toList 0 _ (by omega) hf;cases h
end
section
variable {P:Program}{G:Mem}{ι:J9}
theorem Io {t:TypeId}{k:Ah}(h:tY P t=some k):VZ P false t=some k∧((∃j,k=.prim j)∨∃ks,k=.flat ks):=by simp only [tY] at h;split at h;cases h;exact⟨by assumption,.inl ⟨_,rfl⟩⟩;cases h;exact⟨by assumption,.inr ⟨_,rfl⟩⟩;cases h
theorem dL (f:Gv)(k:d9)(i:Nat):findKey f k [] i=some none:=rfl
theorem dM (f:Gv)(k:d9)(e:d9×d9)(es:List (d9×d9))(i:Nat):
  findKey f k (e::es) i=ob (f k e.1) λb=>bi b (some (some (i,e.2))) (findKey f k es (i+1)):=rfl
def nA (ι:J9)(r:Option (Nat×d9)):Option (Nat×Value):=r.map λp=>(p.1,o8 ι p.2)
theorem wZ {f:Gv}{d:TypeDesc}(hs:∀x y r,f x y=some r->Instr.sameNow d (o8 ι x) (o8 ι y)=some r)(k:d9):
  ∀(es:List (d9×d9)) (i j:Nat) (r:Option (Nat×d9)),findKey f k es i=some r->Instr.findNow d (o8 ι k) (I9 ι es j) i=some (nA ι r)
 | [],i,j,r,h=>by rw [dL] at h;cases h;rfl
 | e::es,i,j,r,h=>by
  rw [dM] at h;obtain⟨b,h1,h2⟩:=D6 h;simp only [I9,Instr.findNow,hs _ _ _ h1];cases b with
  | true=>cases h2;rfl
  | false=>exact wZ hs k es (i+1) (j+1) r h2
theorem qU {f:Gv}{t:TypeId}(hs:∀x y r,f x y=some r->∀w,(Op.equal t (o8 ι x) (o8 ι y)).run P w=.ok r w)(k:d9)(w:World):
  ∀(es:List (d9×d9)) (i j:Nat) (r:Option (Nat×d9)),findKey f k es i=some r->(Instr.findAsking t (o8 ι k) (I9 ι es j) i).run P w=.ok (nA ι r) w
 | [],i,j,r,h=>by rw [dL] at h;cases h;simp [I9,Instr.findAsking,nA]
 | e::es,i,j,r,h=>by
  rw [dM] at h;obtain⟨b,h1,h2⟩:=D6 h;simp only [I9,Instr.findAsking,Xl,hs _ _ _ h1 w,K9];cases b with
  | true=>cases h2;simp [nA]
  | false=>simpa using qU hs k w es (i+1) (j+1) r h2
theorem jZ {f:Gv}{n:Nat}{k:d9}{es:List (d9×d9)}{r:Option (Nat×d9)}(h:R3 f n k es=some r):
  k.cells.length=n∧(∃y b,f k y=some b)∧findKey f k es 0=some r:=by
 obtain⟨a,h⟩:=G8 h;have a:=gI a;rw [K4] at a;refine⟨a,?_⟩;cases es with
 | nil=>obtain⟨b,c,d⟩:=D6 (show ob (f k k) (λ_=>some none)=some r from h);exact⟨⟨_,_,c⟩,by rw [dL];exact d⟩
 | cons e es=>have h:findKey f k (e::es) 0=some r:=h;refine⟨?_,h⟩;rw [dM] at h;obtain⟨b,c,_⟩:=D6 h;exact⟨_,_,c⟩
theorem vV {kk:Ah}{t:TypeId}(d:tY P t=some kk):
  (kk=.prim .b∧P.underlying t=some .bool)∨(∃k,kk=.prim .i∧P.underlying t=some (.int k))∨(kk=.prim .s∧P.underlying t=some .string)∨
  ∃fs ks,kk=.flat ks∧P.underlying t=some (.struct fs)∧fH P 10 t=some ks:=by
 obtain⟨a,c⟩:=Io d;simp only [VZ] at a;cases hu:P.underlying t with
 | none=>simp [hu] at a
 | some u=>
  rw [hu] at a;cases u<;>try (simp at a;done)
  simp only [J4] at a;subst a;simp;simp only [J4] at a;subst a;simp;simp only [J4] at a;subst a;simp;simp only at a;split at a;cases a;rcases c with⟨_,c⟩ | ⟨_,c⟩<;>cases c
  cases a;simp only [J4] at a;subst a;rcases c with⟨_,c⟩ | ⟨_,c⟩<;>cases c
  simp only [J4] at a;subst a;rcases c with⟨_,c⟩ | ⟨_,c⟩<;>cases c
  rename_i fs;simp only at a;cases hf:fH P 10 t with
  | none=>simp [hf] at a
  | some ks=>simp only [hf] at a;split at a;cases a;exact .inr (.inr (.inr ⟨fs,ks,rfl,rfl,rfl⟩));cases a
  simp only [J4] at a;subst a;rcases c with⟨_,c⟩ | ⟨_,c⟩<;>cases c
theorem Dt {kk:Ah}{t:TypeId}(f:tY P t=some kk){k y:d9}{b:Bool}(g:k.cells.length=Ar kk)(h:mM kk k y=some b)(e:Bool)(w:World):
  (Instr.checkKey e 10000 t (o8 ι k)).run P w=.ok () w:=by
 rcases vV f with⟨rfl,hu⟩ | ⟨_,rfl,hu⟩ | ⟨rfl,hu⟩ | ⟨fs,ks,rfl,hu,hf⟩;exact gJ (.inl hu) e _ _ w;exact gJ (.inr (.inl ⟨_,hu⟩)) e _ _ w;exact gJ (.inr (.inr hu)) e _ _ w;obtain⟨l,rfl,_⟩:=eB h;obtain⟨c,a,_,_,d⟩:=PV (P:=P) (ι:=ι) 10 t ks hf;rw [pY hu] at a;cases a;have:=d 10000 (by decide) l (Nat.le_of_eq g.symm) e w;simpa [mkV,o8] using this
theorem TH {kk:Ah}{d:TypeDesc}(h:(kk=.prim .b∧d=.bool)∨(∃k,kk=.prim .i∧d=.int k)∨(kk=.prim .s∧d=.string))(x y:d9)(r:Bool)(c:mM kk x y=some r):
  Instr.sameNow d (o8 ι x) (o8 ι y)=some r:=by
 rcases h with⟨rfl,rfl⟩ | ⟨k,rfl,rfl⟩ | ⟨rfl,rfl⟩;obtain⟨a,b,rfl,rfl,rfl⟩:=iC c;simp [o8,Instr.sameNow];obtain⟨k,a,b,rfl,rfl,rfl⟩:=oL c;simp [o8,Instr.sameNow];obtain⟨a,b,rfl,rfl,rfl⟩:=jq c;simp [o8,Instr.sameNow,lS]
theorem lT {kk:Ah}{t:TypeId}(f:tY P t=some kk){k:d9}{es:List (d9×d9)}{r:Option (Nat×d9)}(h:findKey (mM kk) k es 0=some r)(w:World):
  (Instr.findKey t (o8 ι k) (I9 ι es 0)).run P w=.ok (nA ι r) w:=by
 have a:∀d,P.underlying t=some d->((kk=.prim .b∧d=.bool)∨(∃k,kk=.prim .i∧d=.int k)∨(kk=.prim .s∧d=.string))->
   (Instr.findKey t (o8 ι k) (I9 ι es 0)).run P w=.ok (nA ι r) w:=by
  intro d c j;simp [Instr.findKey,run_underlying c,wZ (TH j) k es 0 0 r h]
 rcases vV f with⟨rfl,c⟩ | ⟨_,rfl,c⟩ | ⟨rfl,c⟩ | ⟨fs,ks,rfl,c,hf⟩;exact a _ c (.inl ⟨rfl,rfl⟩);exact a _ c (.inr (.inl ⟨_,rfl,rfl⟩));exact a _ c (.inr (.inr ⟨rfl,rfl⟩));have g:=qU (P:=P) (ι:=ι) (t:=t) (λx y r l w=>BU (Io f).1 l w) k w es 0 0 r h;cases es with
 | nil=>rw [dL] at h;cases h;simp [Instr.findKey,run_underlying c,I9,Instr.findNow,nA]
 | cons e es=>simp only [Instr.findKey,Xl,run_underlying c,K9];simp only [I9,Instr.findNow,Instr.sameNow];exact g
theorem lD {f:Gv}{k:d9}:∀{es:List (d9×d9)} {i:Nat} {p:Nat×d9},findKey f k es i=some (some p)->
  ∃j e,p.1=i+j∧es[j]?=some e∧e.2=p.2∧f k e.1=some true
 | [],i,p,h=>by rw [dL] at h;cases h
 | e::es,i,p,h=>by
  rw [dM] at h;obtain⟨b,h1,h2⟩:=D6 h;cases b with
  | true=>cases h2;exact⟨0,e,rfl,rfl,rfl,h1⟩
  | false=>obtain⟨j,e',h3,h4,h5⟩:=lD h2;exact⟨j+1,e',by omega,by simpa using h4,h5⟩
end
section
variable {P:Program}{G:Mem}{slots:List Nat}{done:List (Option Nat)}
inductive qD (P:Program)(slots:List Nat)(done:List (Option Nat)):Op->Po->Prop
 | load {t x sz x'}:partT P t=some sz->N7 P slots done x=some x'->qD P slots done (.load t x) (.load sz x')
 | look {t kt e kk z ok x k x' k'}:P.underlying t=some (.map kt e)->tY P kt=some kk->zeroV P e=some z->N7 P slots done x=some x'->N7 P slots done k=some k'->
   qD P slots done (.lookup t x k ok) (.look kk z ok x' k')
 | lenM {c t kt e x x'}:c.callee=.builtin .len->c.argTypes.toList=[t]->c.args.toList=[x]->P.underlying t=some (.map kt e)->N7 P slots done x=some x'->
   qD P slots done (.call c) (.lenM x')
 | slData {c t e x x'}:c.callee=.builtin .unsafeSliceData->c.argTypes.toList=[t]->c.args.toList=[x]->P.underlying t=some (.slice e)->N7 P slots done x=some x'->qD P slots done (.call c) (.slData x')
 | toUns {a b t x x' k}:P.underlying a=some (.pointer t)->P.underlying b=some .unsafePointer->aM P t=some k->k≠0->N7 P slots done x=some x'->qD P slots done (.convert a b x) (.toUns x')
 | fromUns {a b u x x' k}:P.underlying a=some .unsafePointer->P.underlying b=some (.pointer u)->aM P u=some k->k≠0->N7 P slots done x=some x'->qD P slots done (.convert a b x) (.fromUns (MI P u) x')
 | bytesStr {a b e x x'}:P.underlying a=some (.slice e)->P.underlying b=some .string->P.underlying e=some (.int .u8)->N7 P slots done x=some x'->
   qD P slots done (.convert a b x) (.bytesStr x')
 | entry {x x'}:N7 P slots done x=some x'->qD P slots done (.entry x) (.entry x')
set_option maxHeartbeats 1000000 in
theorem uS {n:Op}{ro:Po}(h:gF P slots done n=some (.r ro)):qD P slots done n ro:=by
 cases n with
 | load t x=>obtain⟨B,g,h⟩:=bind_eq h;obtain⟨i,d,h⟩:=bind_eq h;cases h;exact .load g d
 | lookup t x k ok=>obtain⟨u,e,h⟩:=bind_eq h;split at h;obtain⟨A,g,h⟩:=bind_eq h;obtain⟨z,d,h⟩:=bind_eq h;obtain⟨i,p,h⟩:=bind_eq h;obtain⟨y,q,h⟩:=bind_eq h;cases h;exact .look e g d p q;cases h
 | entry x=>obtain⟨i,d,h⟩:=bind_eq h;cases h;exact .entry d
 | convert a b x=>obtain⟨u,e,h⟩:=bind_eq h;obtain⟨v,l,h⟩:=bind_eq h;split at h;obtain⟨_,_,h⟩:=bind_eq h;cases h;obtain⟨_,_,h⟩:=bind_eq h;split at h;obtain⟨_,_,h⟩:=bind_eq h;cases h;cases h;obtain⟨w,s,h⟩:=bind_eq h;split at h;obtain⟨i,f,h⟩:=bind_eq h;cases h;exact .bytesStr e l s f;cases h;obtain⟨k,j,h⟩:=bind_eq h;split at h;cases h;obtain⟨i,f,h⟩:=bind_eq h;cases h;exact .toUns e l j (by assumption) f;obtain⟨k,j,h⟩:=bind_eq h;split at h;cases h;obtain⟨i,f,h⟩:=bind_eq h;cases h;exact .fromUns e l j (by assumption) f;cases h
 | call c=>
  simp only [gF] at h;split at h
  ·rename_i b o;simp only [uH] at h;split at h;rename_i g d;obtain⟨u,e,h⟩:=bind_eq h;split at h;obtain⟨_,_,h⟩:=bind_eq h;cases h;obtain⟨_,_,h⟩:=bind_eq h;cases h;cases h;obtain⟨i,f,h⟩:=bind_eq h;cases h;exact .lenM o g d e f;cases h
   case h_9 g d=>obtain⟨u,e,h⟩:=bind_eq h;split at h;obtain⟨i,f,h⟩:=bind_eq h;cases h;exact .slData o g d e f;cases h
   all_goals (repeat' (first | (cases h;done) | (obtain⟨_,_,h⟩:=bind_eq h) | split at h))
  ·obtain⟨_,_,h⟩:=bind_eq h;repeat' (first | (cases h;done) | (obtain⟨_,_,h⟩:=bind_eq h) | split at h)
  obtain⟨_,_,h⟩:=bind_eq h;obtain⟨_,_,h⟩:=bind_eq h;cases h;cases h
 | build t parts=>simp only [gF,xP] at h;repeat' (first | (cases h;done) | split at h)
 | slice t x lo hi mx=>
  cases mx with
  | some m=>simp only [gF] at h;cases h
  | none=>simp only [gF] at h;repeat' (first | (cases h;done) | (obtain⟨_,_,h⟩:=bind_eq h) | split at h)
 | next it str=>
  cases str with
  | true=>simp only [gF] at h;obtain⟨_,_,h⟩:=bind_eq h;cases h
  | false=>simp only [gF] at h;obtain⟨_,_,h⟩:=bind_eq h;cases h
 | _=>simp only [gF] at h;repeat' (first | (cases h;done) | (obtain⟨_,_,h⟩:=bind_eq h) | split at h)
inductive mX (P:Program)(slots:List Nat)(done:List (Option Nat)):Op->Tm->Prop
 | alloc {t z}:qN P t=some z->mX P slots done (.alloc t) (.alloc z)
 | box {t x x'}:N7 P slots done x=some x'->mX P slots done (.box t x) (.box x')
 | allocT {t z}:CY P t=some z->mX P slots done (.alloc t) (.allocT t z)
 | boxT {t k x x'}:aM P t=some k->N7 P slots done x=some x'->mX P slots done (.box t x) (.boxT t k x')
 | buildSlice {t len parts e es ps z}:P.underlying t=some (.slice e)->aM P e=some es->uG P slots done (λi=>some (i*es,es)) parts.toList=some ps->len*es<=16777216->
   qN P e=some z->mX P slots done (.buildSlice t len parts) (.buildSlice es len z ps)
 | mkMap {t}:mX P slots done (.makeMap t none) .mkMap
 | mkMapN {t k n kt e}:P.underlying t=some (.map kt e)->mX P slots done (.makeMap t (some (.const (.int k n)))) .mkMap
 | mkSlice {t l c e es by' z l' c'}:P.underlying t=some (.slice e)->aM P e=some es->fZ P e=some by'->CY P e=some z->N7 P slots done l=some l'->N7 P slots done c=some c'->
   mX P slots done (.makeSlice t l c) (.mkSlice es by' z l' c')
 | strBytes {a b e x x'}:P.underlying a=some .string->P.underlying b=some (.slice e)->P.underlying e=some (.int .u8)->N7 P slots done x=some x'->
   mX P slots done (.convert a b x) (.strBytes x')
 | sl {t x lo hi e es x' lo' hi'}:P.underlying t=some (.slice e)->aM P e=some es->N7 P slots done x=some x'->cOpt P slots done lo=some lo'->cOpt P slots done hi=some hi'->
   mX P slots done (.slice t x lo hi none) (.sl es x' lo' hi')
set_option maxHeartbeats 1000000 in
theorem zf {n:Op}{lo:Tm}(h:gF P slots done n=some (.a lo)):mX P slots done n lo:=by
 cases n with
 | alloc t=>simp only [gF] at h;split at h;obtain⟨z,d,h⟩:=bind_eq h;cases h;exact .allocT d;obtain⟨z,d,h⟩:=bind_eq h;cases h;exact .alloc d
 | box t x=>simp only [gF] at h;split at h;obtain⟨k,d,h⟩:=bind_eq h;obtain⟨z,f,h⟩:=bind_eq h;cases h;exact .boxT d f;obtain⟨z,d,h⟩:=bind_eq h;cases h;exact .box d
 | buildSlice t len parts=>obtain⟨u,e,h⟩:=bind_eq h;split at h;obtain⟨y,d,h⟩:=bind_eq h;obtain⟨A,f,h⟩:=bind_eq h;split at h;rename_i j;obtain⟨z,g,h⟩:=bind_eq h;cases h;exact .buildSlice e d f j g;cases h;cases h
 | makeMap t r=>simp only [gF] at h;split at h;cases h;exact .mkMap;split at h;rename_i e;cases h;exact .mkMapN e;cases h;cases h
 | makeSlice t l c=>obtain⟨u,e,h⟩:=bind_eq h;split at h;obtain⟨_,d,h⟩:=bind_eq h;obtain⟨_,f,h⟩:=bind_eq h;obtain⟨_,g,h⟩:=bind_eq h;obtain⟨_,i,h⟩:=bind_eq h;obtain⟨_,q,h⟩:=bind_eq h;cases h;exact .mkSlice e d f g i q;cases h
 | convert a b x=>obtain⟨u,e,h⟩:=bind_eq h;obtain⟨v,s,h⟩:=bind_eq h;split at h;obtain⟨_,_,h⟩:=bind_eq h;cases h;obtain⟨w,o,h⟩:=bind_eq h;split at h;obtain⟨_,p,h⟩:=bind_eq h;cases h;exact .strBytes e s o p;cases h;obtain⟨w,o,h⟩:=bind_eq h;split at h;obtain⟨B,p,h⟩:=bind_eq h;cases h;cases h;all_goals (repeat' (first | (cases h;done) | (obtain⟨_,_,h⟩:=bind_eq h) | split at h))
 | slice t x lo hi mx=>
  cases mx with
  | some m=>simp only [gF] at h;cases h
  | none=>simp only [gF] at h;obtain⟨u,e,h⟩:=bind_eq h;split at h;obtain⟨_,_,h⟩:=bind_eq h;obtain⟨_,_,h⟩:=bind_eq h;obtain⟨_,_,h⟩:=bind_eq h;cases h;obtain⟨_,d,h⟩:=bind_eq h;obtain⟨_,f,h⟩:=bind_eq h;obtain⟨_,g,h⟩:=bind_eq h;obtain⟨_,i,h⟩:=bind_eq h;cases h;exact .sl e d f g i;obtain⟨_,_,h⟩:=bind_eq h;obtain⟨_,_,h⟩:=bind_eq h;obtain⟨_,_,h⟩:=bind_eq h;obtain⟨_,_,h⟩:=bind_eq h;cases h;cases h
 | call c=>
  simp only [gF] at h;split at h
  ·simp only [uH] at h;split at h;all_goals (repeat' (first | (cases h;done) | (obtain⟨_,_,h⟩:=bind_eq h) | split at h))
  ·obtain⟨_,_,h⟩:=bind_eq h;repeat' (first | (cases h;done) | (obtain⟨_,_,h⟩:=bind_eq h) | split at h)
  obtain⟨_,_,h⟩:=bind_eq h;obtain⟨_,_,h⟩:=bind_eq h;cases h;cases h
 | build t parts=>simp only [gF,xP] at h;repeat' (first | (cases h;done) | split at h)
 | next it str=>
  cases str with
  | true=>simp only [gF] at h;obtain⟨_,_,h⟩:=bind_eq h;cases h
  | false=>simp only [gF] at h;obtain⟨_,_,h⟩:=bind_eq h;cases h
 | _=>simp only [gF] at h;repeat' (first | (cases h;done) | (obtain⟨_,_,h⟩:=bind_eq h) | split at h)
inductive kR (P:Program)(slots:List Nat)(done:List (Option Nat)):Op->Vv->Prop
 | store {t a x k a' x'}:aM P t=some k->N7 P slots done a=some a'->N7 P slots done x=some x'->kR P slots done (.store t a x) (.store k a' x')
 | mapUpdate {t m k x kt e kk m' k' x'}:P.underlying t=some (.map kt e)->tY P kt=some kk->N7 P slots done m=some m'->N7 P slots done k=some k'->N7 P slots done x=some x'->
   kR P slots done (.mapUpdate t m k x) (.mapSet kk m' k' x')
 | insert {t m k x kt e kk m' k' x'}:P.underlying t=some (.map kt e)->tY P kt=some kk->N7 P slots done m=some m'->N7 P slots done k=some k'->N7 P slots done x=some x'->
   kR P slots done (.insert t m k x) (.mapSet kk m' k' x')
 | range {t x k e x'}:P.underlying t=some (.map k e)->N7 P slots done x=some x'->kR P slots done (.range t x) (.range x')
 | next {x x'}:N7 P slots done x=some x'->kR P slots done (.next x false) (.next x')
 | app {c t u s x e es z by' s' x' d}:P.underlying u=some d->c.callee=.builtin .append->c.argTypes.toList=[t,u]->c.args.toList=[s,x]->P.underlying t=some (.slice e)->
   aM P e=some es->CY P e=some z->fZ P e=some by'->N7 P slots done s=some s'->N7 P slots done x=some x'->
   kR P slots done (.call c) (.app es (match d with | .int _=>true | _=>false) z by' s' x')
 | copy {c t u d s e es d' s'}:c.callee=.builtin .copy->c.argTypes.toList=[t,u]->c.args.toList=[d,s]->P.underlying t=some (.slice e)->
   aM P e=some es->N7 P slots done d=some d'->N7 P slots done s=some s'->kR P slots done (.call c) (.copy es d' s')
 | clear {c t x e z x'}:c.callee=.builtin .clear->c.argTypes.toList=[t]->c.args.toList=[x]->P.underlying t=some (.slice e)->
   qN P e=some z->N7 P slots done x=some x'->kR P slots done (.call c) (.clear z x')
 | call {c f fn as}:c.callee=.value (.func f)->P.funcs[f]?=some fn->fn.body.isSome=true->fn.name≠ "runtime.NumGoroutine"->jE P slots done c.args.toList=some as->
   kR P slots done (.call c) (.call f as)
 | rangeS {t x x'}:P.underlying t=some .string->N7 P slots done x=some x'->kR P slots done (.range t x) (.rangeS x')
 | nextS {x x'}:N7 P slots done x=some x'->kR P slots done (.next x true) (.nextS x')
 | appB {c t u s x e s' x'}:P.underlying u=some .string->c.callee=.builtin .append->c.argTypes.toList=[t,u]->c.args.toList=[s,x]->P.underlying t=some (.slice e)->BQ P e=true->
   N7 P slots done s=some s'->N7 P slots done x=some x'->kR P slots done (.call c) (.appB e s' x')
 | ustr {c t u p n e p' n'}:c.callee=.builtin .unsafeString->c.argTypes.toList=[t,u]->c.args.toList=[p,n]->P.underlying t=some (.pointer e)->BQ P e=true->
   N7 P slots done p=some p'->N7 P slots done n=some n'->kR P slots done (.call c) (.ustr e p' n')
 | panic {x x'}:N7 P slots done x=some x'->kR P slots done (.panic x) (.panic x')
 | defer {c f f' as}:c.callee=.value f->N7 P slots done f=some f'->jE P slots done c.args.toList=some as->kR P slots done (.defer c) (.defer f' as)
 | recover {c}:c.callee=.builtin .recover->kR P slots done (.call c) .recover
 | callv {c f f' as}:c.callee=.value f->N7 P slots done f=some f'->jE P slots done c.args.toList=some as->
   kR P slots done (.call c) (.callv f' as)
set_option maxHeartbeats 1000000 in
theorem zh {y:Op}{eo:Vv}(h:gF P slots done y=some (.e eo)):kR P slots done y eo:=by
 cases y with
 | store t a x=>obtain⟨_,g,h⟩:=bind_eq h;obtain⟨_,i,h⟩:=bind_eq h;obtain⟨_,l,h⟩:=bind_eq h;cases h;exact .store g i l
 | mapUpdate t m k x=>obtain⟨u,j,h⟩:=bind_eq h;split at h;obtain⟨_,g,h⟩:=bind_eq h;obtain⟨_,i,h⟩:=bind_eq h;obtain⟨_,l,h⟩:=bind_eq h;obtain⟨_,n,h⟩:=bind_eq h;cases h;exact .mapUpdate j g i l n;cases h
 | insert t m k x=>obtain⟨u,j,h⟩:=bind_eq h;split at h;obtain⟨_,g,h⟩:=bind_eq h;obtain⟨_,i,h⟩:=bind_eq h;obtain⟨_,l,h⟩:=bind_eq h;obtain⟨_,n,h⟩:=bind_eq h;cases h;exact .insert j g i l n;cases h
 | range t x=>obtain⟨u,j,h⟩:=bind_eq h;split at h;obtain⟨_,g,h⟩:=bind_eq h;cases h;exact .range j g;obtain⟨_,g,h⟩:=bind_eq h;cases h;exact .rangeS j g;cases h
 | next it str=>
  cases str with
  | true=>simp only [gF] at h;obtain⟨_,g,h⟩:=bind_eq h;cases h;exact .nextS g
  | false=>simp only [gF] at h;obtain⟨_,g,h⟩:=bind_eq h;cases h;exact .next g
 | panic x=>obtain⟨_,g,h⟩:=bind_eq h;cases h;exact .panic g
 | defer c=>simp only [gF] at h;split at h;obtain⟨_,g,h⟩:=bind_eq h;obtain⟨_,i,h⟩:=bind_eq h;cases h;exact .defer (by assumption) g i;cases h
 | convert a b x=>obtain⟨u,j,h⟩:=bind_eq h;obtain⟨v,D,h⟩:=bind_eq h;repeat' (first | (cases h;done) | (obtain⟨_,_,h⟩:=bind_eq h) | split at h)
 | slice t x lo hi mx=>
  cases mx with
  | some m=>simp only [gF] at h;cases h
  | none=>simp only [gF] at h;repeat' (first | (cases h;done) | (obtain⟨_,_,h⟩:=bind_eq h) | split at h)
 | call c=>
  simp only [gF] at h;split at h
  ·rename_i b p;simp only [uH] at h;split at h
   ·repeat' (first | (cases h;done) | (obtain⟨_,_,h⟩:=bind_eq h) | split at h)
   ·repeat' (first | (cases h;done) | (obtain⟨_,_,h⟩:=bind_eq h) | split at h)
   rename_i g i;obtain⟨u,j,h⟩:=bind_eq h;split at h;obtain⟨d,z,h⟩:=bind_eq h;split at h;rename_i o;obtain⟨_,r,h⟩:=bind_eq h;obtain⟨_,s,h⟩:=bind_eq h;cases h;rw [Hl] at o;have:d=.string:=by have:=o.1;cases d<;>first | rfl | cases this
   exact .appB (by rw [z,this]) p g i j o.2 r s;obtain⟨_,l,h⟩:=bind_eq h;obtain⟨_,n,h⟩:=bind_eq h;obtain⟨_,q,h⟩:=bind_eq h;obtain⟨_,r,h⟩:=bind_eq h;obtain⟨_,s,h⟩:=bind_eq h;cases h;exact .app z p g i j l n q r s;cases h;rename_i g i;obtain⟨u,j,h⟩:=bind_eq h;split at h;obtain⟨_,l,h⟩:=bind_eq h;obtain⟨_,n,h⟩:=bind_eq h;obtain⟨_,q,h⟩:=bind_eq h;cases h;exact .copy p g i j l n q;cases h;rename_i g i;obtain⟨u,j,h⟩:=bind_eq h;split at h;obtain⟨_,l,h⟩:=bind_eq h;obtain⟨_,n,h⟩:=bind_eq h;cases h;exact .clear p g i j l n;cases h
   case h_10 g i=>obtain⟨u,j,h⟩:=bind_eq h;split at h;split at h;rename_i o;obtain⟨_,l,h⟩:=bind_eq h;obtain⟨_,n,h⟩:=bind_eq h;cases h;exact .ustr p g i j o l n;cases h;cases h
   all_goals (first | (cases h;exact .recover p;done) | (repeat' (first | (cases h;done) | (obtain⟨_,_,h⟩:=bind_eq h) | split at h)))
  ·rename_i f A;obtain⟨C,g,h⟩:=bind_eq h;split at h;rename_i w;obtain⟨B,i,h⟩:=bind_eq h;cases h;simp only [Hl,bne_iff_ne,ne_eq] at w;exact .call A g w.1 w.2 i
   ·repeat' (first | (cases h;done) | (obtain⟨_,_,h⟩:=bind_eq h) | split at h)
  rename_i f A _;obtain⟨_,g,h⟩:=bind_eq h;obtain⟨_,i,h⟩:=bind_eq h;cases h;exact .callv (by assumption) g i;cases h
 | build t parts=>simp only [gF,xP] at h;repeat' (first | (cases h;done) | split at h)
 | _=>simp only [gF] at h;repeat' (first | (cases h;done) | (obtain⟨_,_,h⟩:=bind_eq h) | split at h)
end
section
variable {P:Program}{G:Mem}{ι:J9}{m:Mem}{w:World}{slots:List Nat}{done:List (Option Nat)}{ls:List d9}{env:T d9}{a:Act}
def Rz (P:Program)(ρ:Operand->Value)(op:Op)(v:Value)(w:World):Prop:=
 ∀(o:Oper),o.op=op->(execOp ρ o).run P w=.ok (.value v) w
theorem fJ {r:Nat}{o:Obj}(h:w.heap[r]?=some o)(a:∀c e fz,o≠.cells c e fz):(getObj r).run P w=.ok o w:=by simp only [getObj,Sem.run,h]
theorem Kr (f:RM P G ι m w.heap){id:Nat}{es:List (d9×d9)}(d:m.get id=some (.map es)):
  (getObj (ι id).b).run P w=.ok (.map (I9 ι es 0).toArray es.length) w∧∀e∈es,e.1.lt (m.nm ι)∧e.2.lt (m.nm ι):=by
 obtain⟨a,c⟩:=f.blk id _ d;exact⟨fJ a (by intro _ _ _ e;cases e),c⟩
def uT (ι:J9)(ok:Bool)(z:d9)(r:Option (Nat×d9)):Value:=match r with
 | some p=>if ok then .tuple #[o8 ι p.2,.bool true] else o8 ι p.2
 | none=>if ok then .tuple #[o8 ι z,.bool false] else o8 ι z
theorem BZ {ok:Bool}{z v:d9}{r:Option (Nat×d9)}(h:found ok z r=some v){n:Nm}(b:z.lt n)(a:∀p,r=some p->p.2.lt n):
  v.lt n∧o8 ι v=uT ι ok z r:=by
 cases r with
 | none=>have h:some (bi ok (.tuple [z,.bool false]) z)=some v:=h;cases h;cases ok<;>simp [bi,d9.lt,aU,o8,u6,b,uT]
 | some p=>have h:some (bi ok (.tuple [p.2,.bool true]) p.2)=some v:=h;cases h;have:=a p rfl;cases ok<;>simp [bi,d9.lt,aU,o8,u6,this,uT]
theorem zk (w:World){t f e:TypeId}{kk:Ah}{z:d9}(o:P.underlying t=some (.map f e))(m:tY P f=some kk)(I:zeroV P e=some z){ok:Bool}{k v:d9}
  {es:List (d9×d9)} {r:Option (Nat×d9)} {n:Nm} (h:∀e∈es,e.1.lt n∧e.2.lt n) (E:R3 (mM kk) (Ar kk) k es=some r) (G:found ok z r=some v):
  v.lt n∧∀x,(x=.map none∧es=[])∨(∃b,x=.map (some b)∧∀w',w'=w->(getObj b).run P w'=.ok (.map (I9 ι es 0).toArray es.length) w')->
   (Instr.lookup t x (o8 ι k) ok).run P w=.ok (o8 ι v) w:=by
 obtain⟨A,⟨y,b,B⟩,d⟩:=jZ E;obtain⟨c,i⟩:=nV (w:=w) I ι;obtain⟨u,g⟩:=BZ (ι:=ι) G (i n) (λp F=>by
  subst F;obtain⟨j,s,_,C,D,_⟩:=lD d;rw [← D];exact (h s (Y2 C)).2)
 refine⟨u,λx H=>?_⟩;have l:=λq=>Dt (ι:=ι) m A B q w;have a:=lT (ι:=ι) m d w;rcases H with⟨rfl,rfl⟩ | ⟨b,rfl,hb⟩;simp only [Instr.lookup,Xl,run_underlying o,K9,Z8,l];rw [show Instr.findKey f (o8 ι k) []=Instr.findKey f (o8 ι k) (I9 ι [] 0) from rfl,a];simp only [K9];rw [dL] at d;cases d;simp [nA,c,g,uT];simp only [Instr.lookup,Xl,run_underlying o,K9,hb w rfl,Z8,l];rw [a];simp only [K9];cases r with
 | none=>simp [nA,c,g,uT]
 | some p=>simp [nA,g,uT]
theorem Du {β:Type}{b:Option P8}{k:List (d9×d9)->Option β}{r:β}(h:CJ b k=some r):∃es,(b=some (.map es)∨b=some (.mapU es))∧k es=some r:=by
 match b,h with
 | some (.map es),h=>exact⟨es,.inl rfl,h⟩
 | some (.mapU es),h=>exact⟨es,.inr rfl,h⟩
def tZ (x:MapEntry):Value×Value:=(x.key,x.val)
theorem Ew (d:TypeDesc)(k:Value):∀(L M:List MapEntry) (i:Nat),L.map tZ=M.map tZ->Instr.findNow d k L i=Instr.findNow d k M i
 | [],[],_,_=>rfl
 | [],_ :: _,_,h=>by cases h
 | _ :: _,[],_,h=>by cases h
 | x::L,y::M,i,h=>by simp only [Z6,agf,tZ,ah9] at h;obtain⟨⟨h1,h2⟩,h3⟩:=h;simp only [Instr.findNow,h1,h2,Ew d k L M (i+1) h3]
theorem xg (t:TypeId)(k:Value):∀(L M:List MapEntry) (i:Nat),L.map tZ=M.map tZ->Instr.findAsking t k L i=Instr.findAsking t k M i
 | [],[],_,_=>rfl
 | [],_ :: _,_,h=>by cases h
 | _ :: _,[],_,h=>by cases h
 | x::L,y::M,i,h=>by simp only [Z6,agf,tZ,ah9] at h;obtain⟨⟨h1,h2⟩,h3⟩:=h;simp only [Instr.findAsking,h1,h2,xg t k L M (i+1) h3]
theorem Ey (t:TypeId)(k:Value){L M:List MapEntry}(h:L.map tZ=M.map tZ):Instr.findKey t k L=Instr.findKey t k M:=by unfold Instr.findKey;congr 1;funext d;rw [Ew d k L M 0 h,xg t k L M 0 h]
theorem Ca {α β:Type}(f:α->β):∀{l:List β} {es:List α},l.Perm (es.map f)->∃es':List α,es'.Perm es∧l=es'.map f:=by
 intro l es h;generalize hm:es.map f=m at h;induction h generalizing es with
 | nil=>exact⟨[],by simp at hm;subst hm;exact .nil,rfl⟩
 | cons x h ih=>
  cases es with
  | nil=>cases hm
  | cons e es=>simp only [Z6,agf] at hm;obtain⟨es',d,g⟩:=ih hm.2;exact⟨e::es',d.cons e,by rw [g,← hm.1];rfl⟩
 | swap x y l=>
  match es,hm with
  | a::b::es,hm=>simp only [Z6,agf] at hm;exact⟨b::a::es,.swap _ _ _,by rw [← hm.1,← hm.2.1,← hm.2.2];rfl⟩
  | [],hm=>cases hm
  | [_],hm=>simp at hm
 | trans d g ih1 ih2=>obtain⟨i,j,n⟩:=ih2 hm;obtain⟨c,k,o⟩:=ih1 n.symm;exact⟨c,k.trans j,o⟩
theorem xV (ι:J9):∀(es:List (d9×d9)) (i:Nat),(I9 ι es i).map tZ=es.map λe=>(o8 ι e.1,o8 ι e.2)
 | [],_=>rfl
 | e::es,i=>by simp [I9,tZ,xV ι es]
theorem xW {s:List UInt8}:∀(es:List (d9×d9)) (i:Nat),(∀e∈es,∃t,e.1=.str t)->(∀e∈es,e.1≠.str s)->findKey eqStr (.str s) es i=some none
 | [],_,_,_=>rfl
 | e::es,i,h1,h2=>by obtain⟨t,ht⟩:=h1 e (by simp);have hne:s≠t:=λh=>h2 e (by simp) (by rw [ht,h]);rw [dM,ht];show ob (some (strEq s t)) _=_;rw [iB,beq_eq_false_iff_ne.2 hne];exact xW es (i+1) (λx hx=>h1 x (by simp [hx])) (λx hx=>h2 x (by simp [hx]))
theorem qd {s:List UInt8}{v:d9}:∀(es:List (d9×d9)) (i:Nat),(∀e∈es,∃t,e.1=.str t)->(es.map (·.1)).Nodup->(.str s,v)∈es->∃j,findKey eqStr (.str s) es i=some (some (i+j,v))∧es[j]?=some (.str s,v)
 | [],_,_,_,h=>by cases h
 | e::es,i,h1,h2,h3=>by
  obtain⟨t,ht⟩:=h1 e (by simp);rw [dM,ht];have hq:∀k:Bool->Option (Option (Nat×d9)),ob (eqStr (.str s) (.str t)) k=k (s==t):=λk=>by show k (strEq s t)=_;rw [iB]
  rw [hq];simp only [Z6,aeJ] at h2;rcases Z5.1 h3 with h3 | h3;have:s=t:=by rw [← h3] at ht;simpa using ht
  subst this;refine⟨0,?_,by rw [← h3];rfl⟩;rw [beq_self_eq_true,← h3];rfl;have hne:s≠t:=λh=>h2.1 (by rw [ht,← h];exact adh.2 ⟨_,h3,rfl⟩);rw [beq_eq_false_iff_ne.2 hne];obtain⟨j,q1,q2⟩:=qd es (i+1) (λx hx=>h1 x (by simp [hx])) h2.2 h3;exact⟨j+1,by rw [show i+(j+1)=i+1+j from by omega];exact q1,q2⟩
theorem RA {kk:Ah}{t:TypeId}(c:tY P t=some kk){k:d9}{s:List UInt8}{b:Bool}(h:mM kk k (.str s)=some b):kk=.prim .s∧∃u,k=.str u:=by rcases vV c with⟨rfl,_⟩ | ⟨_,rfl,_⟩ | ⟨rfl,_⟩ | ⟨fs,ks,rfl,_,_⟩;obtain⟨_,_,_,h,_⟩:=iC h;cases h;obtain⟨_,_,_,_,h,_⟩:=oL h;cases h;obtain⟨a,_,h,_⟩:=jq h;exact⟨rfl,a,h⟩;obtain⟨_,_,h⟩:=eB h;obtain⟨_,h,_⟩:=eB h;cases h
theorem acB {kk:Ah}{t:TypeId}(A:tY P t=some kk){k:d9}{es a:List (d9×d9)}(hp:a.Perm es)(i:∀e∈es,∃s,e.1=.str s)(w:(es.map (·.1)).Nodup){r:Option (Nat×d9)}(z:R3 (mM kk) (Ar kk) k es=some r):
  ∃r',findKey (mM kk) k a 0=some r'∧r'.map (·.2)=r.map (·.2):=by
 obtain⟨_,_,c⟩:=jZ z;cases es with
 | nil=>rw [List.Perm.eq_nil hp];rw [dL] at c;cases c;exact⟨none,dL ..,rfl⟩
 | cons e es=>
  obtain⟨C,o⟩:=i e (by simp);have:∃b,mM kk k (.str C)=some b:=by rw [dM,o] at c;obtain⟨b,n,_⟩:=D6 c;exact⟨b,n⟩
  obtain⟨b,n⟩:=this;obtain⟨rfl,u,rfl⟩:=RA A n;have f:∀x∈a,∃s,x.1=.str s:=λx d=>i x (hp.mem_iff.1 d);have m:(a.map (·.1)).Nodup:=(hp.map _).nodup_iff.2 w;have c:findKey eqStr (.str u) (e::es) 0=some r:=c;by_cases hin:∃v,(d9.str u,v)∈e::es;obtain⟨v,y⟩:=hin;obtain⟨j,p,_⟩:=qd (e::es) 0 i w y;obtain⟨D,q,_⟩:=qd a 0 f m (hp.mem_iff.2 y);rw [p] at c;cases c;exact⟨_,q,rfl⟩;have g:∀(l:List (d9×d9)),(∀x∈l,x∈e::es)->∀x∈l,x.1≠.str u:=λl B x d h=>hin ⟨x.2,by rw [← h];exact B x d⟩;have p:=xW (e::es) 0 i (g _ λx d=>d);have q:=xW a 0 f (g _ λx d=>hp.mem_iff.1 d);rw [p] at c;cases c;exact⟨none,q,rfl⟩
theorem TI {ok:Bool}{z:d9}{r a:Option (Nat×d9)}(h:a.map (·.2)=r.map (·.2)):found ok z a=found ok z r:=by
 cases r<;>cases a<;>simp at h
 rfl;rename_i p q;show some (bi ok (d9.tuple [q.2,.bool true]) q.2)=some (bi ok (d9.tuple [p.2,.bool true]) p.2);rw [h]
theorem Hg (w:World){t l e:TypeId}{kk:Ah}{z:d9}(M:P.underlying t=some (.map l e))(f:tY P l=some kk)(N:zeroV P e=some z){ok:Bool}{k v:d9}
  {es:List (d9×d9)} {r:Option (Nat×d9)} {n:Nm} (d:∀e∈es,e.1.lt n∧e.2.lt n) (q:R3 (mM kk) (Ar kk) k es=some r) (s:found ok z r=some v)
  {L:List MapEntry} {A b:Nat} (H:UOk ι es L) (hb:(getObj b).run P w=.ok (.map L.toArray A) w):
  v.lt n∧(Instr.lookup t (.map (some b)) (o8 ι k) ok).run P w=.ok (o8 ι v) w:=by
 obtain⟨D,⟨y,m,E⟩,S⟩:=jZ q;obtain⟨g,K,J⟩:=H;obtain⟨c,u,O⟩:=Ca _ g;obtain⟨R,x,Q⟩:=acB f u K J q;obtain⟨h,i⟩:=nV (w:=w) N ι;rw [← TI Q] at s;obtain⟨C,o⟩:=BZ (ι:=ι) s (i n) (λp g=>by
  subst g;obtain⟨j,B,_,F,G,_⟩:=lD x;rw [← G];exact (d B (u.mem_iff.1 (Y2 F))).2)
 refine⟨C,?_⟩;have I:=λm=>Dt (ι:=ι) f D E m w;have a:=lT (ι:=ι) f x w;rw [Ey l (o8 ι k) (show (I9 ι c 0).map tZ=L.map tZ from by rw [xV];exact O.symm)] at a;simp only [Instr.lookup,Xl,run_underlying M,K9,hb,Z8,I];rw [a];simp only [K9];cases R with
 | none=>simp [nA,h,o,uT]
 | some p=>simp [nA,o,uT]
theorem Db (ts:Array TypeId)(a:TypeId)(l c:Nat)(w:World):(Builtin.unsafeSliceData_ ts a #[.slice none l c]).run P w=.ok (.pointer none) w:=rfl
theorem Ez {ts:Array TypeId}{b:TypeId}{a:Addr}{l c:Nat}(h:c≠0)(w:World):(Builtin.unsafeSliceData_ ts b #[.slice (some a) l c]).run P w=.ok (.pointer (some a)) w:=by have e:Builtin.unsafeSliceData_ ts b #[.slice (some a) l c]=(if c≠0 then pure (.pointer (some a)) else do if (← viewAt a.block).isSome then pure (.pointer (some a)) else pure (.pointer (some ⟨← newObj (.view a (← elemOf b)),0,none⟩))):=rfl;rw [e,if_pos h];rfl
theorem zl:∀(l:List d9) (s:List UInt8),byteOf l=some s->∀(acc:ByteArray) (w:World),
  (forIn (u6 ι l) acc (λc (r:ByteArray)=>match c with
   | .int .u8 n=>pure (ForInStep.yield (r.push (UInt8.ofNat n.toNat)))
   | _=>do stuck "bytesToString: byte expected";pure (ForInStep.yield r)):Sem ByteArray).run P w=.ok ⟨acc.data++s.toArray⟩ w
 | [],s,h,acc,w=>by simp [byteOf] at h;subst h;simp [u6]
 | v::l,s,h,acc,w=>by
  cases v<;>try (simp [byteOf] at h;done)
  rename_i k n;cases k<;>try (simp [byteOf] at h;done)
  cases n with
  | negSucc n=>simp [byteOf] at h
  | ofNat n=>
   simp only [byteOf] at h;cases hb:byteOf l with
   | none=>simp [hb] at h
   | some s'=>simp only [hb,J4] at h;subst h;simp only [u6,o8,aiP,Xl,Z8,K9];rw [zl l s' hb];congr 1;simp [ByteArray.push]
theorem nC {x:Value}{m:Mem}(f:RM P G ι m w.heap){id off len c:Nat}(g:x=.slice (some (ι.at id off)) len c){l:List d9}{s:List UInt8}
  (d:S9 m id off len=some l) (e:byteOf l=some s):(Conv.bytesToString x).run P w=.ok (o8 ι (.str s)) w:=by
 obtain⟨a,_,b⟩:=jY f d;have h:=qC (P:=P) b;rw [a] at h;subst g;have:=zl (P:=P) (ι:=ι) l s e ByteArray.empty w;simp only [Conv.bytesToString,Xl,h,K9];rw [← aiU]
 erw [this]
 simp [o8,Z8]
theorem zm (ι:J9):∀(es:List (d9×d9)) (i j:Nat),(I9 ι es j).find? (λe=>e.born==j+i)=(es[i]?).map λe=>{key:=o8 ι e.1,val:=o8 ι e.2,born:=j+i}
 | [],i,j=>by simp [I9]
 | e::es,0,j=>by simp [I9]
 | e::es,i+1,j=>by simp only [I9,List.find?_cons];rw [show (j==j+(i+1))=false from by simp];simp only [adz];have:=zm ι es i (j+1);rw [show j+1+i=j+(i+1) from by omega] at this;exact this
theorem EB {β:Type}{b:Option P8}{a:Option β}{k:Nat->Nat->List Nat->Option β}{r:β}(h:Ie b a k=some r):
  (∃s l,b=some (.iter none s l)∧a=some r)∨∃mp s l,b=some (.iter (some mp) s l)∧k mp s l=some r:=by
 match b,h with
 | some (.iter none s l),h=>exact .inl ⟨s,l,rfl,h⟩
 | some (.iter (some mp) s l),h=>exact .inr ⟨mp,s,l,rfl,h⟩
theorem EC {ty off:Nat}:∀{l:List (Nat×Nat)},ZE ty off l=true->(ty,off)∈l
 | [],h=>by cases h
 | p::l,h=>by
  have h:bi (Nat.beq p.1 ty) (bi (Nat.beq p.2 off) true (ZE ty off l)) (ZE ty off l)=true:=h;cases h1:Nat.beq p.1 ty with
  | false=>rw [h1] at h;exact Z7 _ (EC h)
  | true=>
   rw [h1] at h;cases h2:Nat.beq p.2 off with
   | false=>rw [h2] at h;exact Z7 _ (EC h)
   | true=>rw [← gI h1,← gI h2];exact ady
theorem PW {u c off:Nat}(h:(c,off)∈MI P u):P.cellsOf c≠0∧liesAt P P.depth c 1 off u 1=true:=by unfold MI at h;obtain⟨t,_,h⟩:=List.mem_flatMap.1 h;split at h;rename_i a;simp only [Hl,bne_iff_ne,ne_eq] at a;rcases aaD.1 h with h | h;split at h;rename_i b;simp only [aP,ah9] at h;obtain⟨rfl,rfl⟩:=h;exact⟨a.2,b⟩;simp at h;split at h;obtain⟨f,_,h⟩:=List.mem_flatMap.1 h;split at h;rename_i b;simp only [aP,ah9] at h;obtain⟨rfl,rfl⟩:=h;exact⟨a.2,b.2⟩;simp at h;simp at h;simp at h
theorem sF (s:St P ι (m.nm ι) slots done ls env a.tmps)(H:RM P G ι m w.heap){op:Op}{ro:Po}(h:qD P slots done op ro){v:d9}(C:rW ro ls env m=some v):
  v.lt (m.nm ι)∧Rz P a.eval op (o8 ι v) w:=by
 cases h with
 | @load t x sz x' f p=>
  obtain⟨q,_⟩:=D5 s p;have key:∀id off,I4 x' ls env=.ptr id off->U1 (m.get id) (λrs n D=>match sz with | none=>cell1 rs n D off | some k=>ob (jQ rs n D off k) λl=>some (.agg l))=some v->
    v.lt (m.nm ι)∧Rz P a.eval (.load t x) (o8 ι v) w:=by
   intro id off d E;obtain⟨K,M⟩:=wY f H E;refine⟨M,λo g=>?_⟩;simp [execOp,g,q,d,o8,Instr.loadAt,Instr.sureAddr,K]
  cases sz with
  | none=>obtain⟨id,off,d,E⟩:=eu C;exact key id off d E
  | some k=>obtain⟨id,off,d,E⟩:=eu C;exact key id off d E
 | @look t kt e kk z ok x k x' k' hu hk hz d hkk=>
  obtain⟨q,a8⟩:=D5 s d;obtain⟨I,_⟩:=D5 s hkk;rcases vU C with⟨d,h⟩ | ⟨id,d,h⟩;obtain⟨r,B,F⟩:=D6 h;obtain⟨K,M⟩:=zk (ι:=ι) w hu hk hz (n:=(m.nm ι)) (by simp) B F;refine⟨K,λo g=>?_⟩;have:=M (.map none) (.inl ⟨rfl,rfl⟩);have d:I4 x' ls env=.nilMap:=d;simp [execOp,g,q,d,o8,I,this]
  ·obtain⟨es,f | f,p⟩:=Du h
   case inr=>obtain⟨r,B,F⟩:=D6 p;obtain⟨L,ck,Y,Z,c3⟩:=H.blk id _ f;obtain⟨K,M⟩:=Hg (ι:=ι) w hu hk hz c3 B F Z (fJ Y (by intro _ _ _ e;cases e));refine⟨K,λo g=>?_⟩;have d:I4 x' ls env=.map id:=d;simp [execOp,g,q,d,o8,I,M]
   obtain⟨r,B,F⟩:=D6 p;obtain⟨o1,o2⟩:=Kr H f;obtain⟨K,M⟩:=zk (ι:=ι) w hu hk hz o2 B F;refine⟨K,λo g=>?_⟩;have:=M (.map (some (ι id).b)) (.inr ⟨_,rfl,λw' hw=>by subst hw;exact o1⟩);have d:I4 x' ls env=.map id:=d;simp [execOp,g,q,d,o8,I,this]
 | @lenM c t kt e x x' E A y hu d=>
  obtain⟨q,_⟩:=D5 s d;have A:c.argTypes=#[t]:=by rw [← A,aaG]
  have y:c.args=#[x]:=by rw [← y,aaG]
  rcases vU C with⟨d,h⟩ | ⟨id,d,h⟩;cases h;have d:I4 x' ls env=.nilMap:=d;exact⟨by simp [d9.lt],λo g=>by simp [execOp,g,resolve,E,y,A,invoke,builtin,Builtin.len_,run_underlying hu,q,d,o8,goInt]⟩;obtain⟨es,f,p⟩:=AJ h;obtain⟨o1,o2⟩:=Kr H f;cases p;have d:I4 x' ls env=.map id:=d;exact⟨by simp [d9.lt],λo g=>by simp [execOp,g,resolve,E,y,A,invoke,builtin,Builtin.len_,run_underlying hu,q,d,o8,goInt,o1]⟩
 | @bytesStr t b e x x' f p B d=>obtain⟨q,_⟩:=D5 s d;rcases rZ C with⟨d,h⟩ | ⟨id,off,len,cap,d,h⟩ | ⟨id,off,len,cap,d,h⟩;cases h;have d:I4 x' ls env=.nilSlice:=d;refine⟨by simp [d9.lt],λo g=>?_⟩;simp [execOp,g,q,d,o8,convert,run_underlying f,run_underlying p,run_underlying B,Conv.bytesToString];rfl;obtain⟨l,F,h⟩:=D6 h;obtain⟨a7,h5,h⟩:=D6 h;cases h;have d:I4 x' ls env=.slice id off len cap:=d;have:=nC H (x:=a.eval x) (by rw [q,d];rfl) F h5;refine⟨by simp [d9.lt],λo g=>?_⟩;rw [q,d] at this;simp only [o8] at this;simp [execOp,g,q,d,o8,convert,run_underlying f,run_underlying p,run_underlying B,this];obtain⟨l,F,h⟩:=D6 h;obtain⟨a7,h5,h⟩:=D6 h;cases h;have d:I4 x' ls env=.sliceU id off len cap:=d;have:=nC H (x:=a.eval x) (by rw [q,d];rfl) F h5;refine⟨by simp [d9.lt],λo g=>?_⟩;rw [q,d] at this;simp only [o8] at this;simp [execOp,g,q,d,o8,convert,run_underlying f,run_underlying p,run_underlying B,this]
 | @slData c t e x x' E A y hu d=>
  obtain⟨q,I⟩:=D5 s d;have A:c.argTypes=#[t]:=by rw [← A,aaG]
  have y:c.args=#[x]:=by rw [← y,aaG]
  rcases rZ C with⟨f,p⟩ | ⟨id,off,len,cap,f,p⟩ | ⟨id,off,len,es,f,p⟩;have f:I4 x' ls env=.nilSlice:=f;cases p;exact⟨trivial,λo g=>by simp [execOp,g,resolve,E,y,A,invoke,builtin,Db,q,f,o8]⟩;have f:I4 x' ls env=.slice id off len cap:=f;obtain⟨B,p⟩:=G8 p;cases p;have B:0<cap:=Eq.mp Y4 B;rw [f] at I;exact⟨I,λo g=>by simp [execOp,g,resolve,E,y,A,invoke,builtin,Ez (Nat.ne_of_gt B),q,f,o8]⟩;have f:I4 x' ls env=.sliceU id off len es:=f;obtain⟨B,p⟩:=G8 p;cases p;have B:0<len:=Eq.mp Y4 B;rw [f] at I;obtain⟨W,q2,X⟩:=I;have X:off+len*es<=(ι id).cap:=X;have a1:((ι id).cap-off) / es≠0:=by
   have:1<=((ι id).cap-off) / es:=(aeF q2).2 (by
    have:1*es<=len*es:=aaC _ B;omega)
   omega
  refine⟨W,λo g=>?_⟩;simp [execOp,g,resolve,E,y,A,invoke,builtin,Ez a1,q,f,o8]
 | @toUns a' b' t x x' k ha hb hs hk d=>
  obtain⟨q,I⟩:=D5 s d
  change xJ (I4 x') ls env m=some v at C
  unfold xJ at C;split at C;rename_i f;cases C;exact⟨trivial,λo g=>by simp [execOp,g,q,f,o8,convert,run_underlying ha,run_underlying hb,Conv.unsafePointer]⟩;rename_i id off f;obtain⟨rs,n,D,S,h⟩:=dD C;obtain⟨p,h⟩:=G8 h;cases h;have p:off<n*rs:=Eq.mp Y4 p;obtain⟨c,e,fz,W,q2,⟨X,_⟩,_⟩:=H.blk id _ S;obtain⟨j,hj,T⟩:=acY.1 hs;refine⟨⟨_,S,rfl⟩,λo g=>?_⟩;have:=Lib.run_to_unsafe (P:=P) w (ι.at id off) ha hb hj (by rw [T];exact hk) (e:=e) (cells:=c.size) (by simp [World.shape?,J9.at,W]) (by show (ι id).base+off<c.size;omega);simp [execOp,g,q,f,o8,this];cases C
 | @fromUns a' b' u x x' k ha hb hs hk d=>
  obtain⟨q,I⟩:=D5 s d
  change ou (MI P u) (I4 x') ls env m=some v at C
  unfold ou at C;split at C;rename_i f;cases C;exact⟨trivial,λo g=>by simp [execOp,g,q,f,o8,convert,run_underlying ha,run_underlying hb,Conv.unsafePointer]⟩;rename_i id off f;obtain⟨rs,n,D,S,h⟩:=dD C;obtain⟨p,h⟩:=G8 h;obtain⟨ty,B,h⟩:=D6 h;obtain⟨F,h⟩:=G8 h;cases h;obtain rfl:n=1:=gI p;obtain⟨c,e,fz,W,q2,⟨X,N,_,_,V⟩,_⟩:=H.blk id _ S;obtain⟨rfl,a0,a6⟩:=V ty rfl B;obtain⟨U,R⟩:=PW (EC F);obtain⟨j,hj,T⟩:=acY.1 hs;refine⟨⟨_,S,rfl⟩,λo g=>?_⟩;have:=Lib.run_from_unsafe (P:=P) w (ι.at id off) ha hb hj (e:=e) (cells:=c.size) (by simp [World.shape?,J9.at,W]) (by
   rw [a6,Nat.div_self (ahy U)];show liesAt P P.depth e 1 ((ι id).base+off) u 1=true;rw [a0,aaF];exact R)
  simp [execOp,g,q,f,o8,this];cases C
 | @entry x x' d=>
  obtain⟨q,_⟩:=D5 s d;obtain⟨id,off,d,h⟩:=eu C;have d:I4 x' ls env=.ptr id off:=d;obtain⟨h0,h⟩:=G8 h;obtain rfl:off=0:=gI h0;rcases EB h with⟨_,_,_,h⟩ | ⟨mp,since,seen,J,h⟩;cases h;cases seen with
  | nil=>cases h
  | cons i seen=>
   have h:Pf (m.get mp) (λes=>bi (Nat.beq (len' es) since) (ob (pI i es) λe=>some (.tuple [e.1,e.2])) none)=some v:=h;obtain⟨es,a2,h⟩:=AJ h;obtain⟨f,h⟩:=G8 h;have f:=gI f;rw [K4] at f;obtain⟨e,p,h⟩:=D6 h;rw [jh] at p;cases h;obtain⟨b1,b2,sn,st,b3,b4,b5⟩:=H.blk id _ J;have a4:=H.spot id _ J rfl;obtain⟨Y,Z⟩:=Kr H a2;have he:=Z e (Y2 p);refine⟨by simp [d9.lt,aU,he],λo g=>?_⟩;have a5:st=since:=b5 (by simp);have O:sn.back?=some i:=by have:=congrArg List.head? b4;simpa [List.head?_reverse] using this
   have Q:(I9 ι es 0).toArray.find? (λe=>e.born==i)=some {key:=o8 ι e.1,val:=o8 ι e.2,born:=i}:=by have:=zm ι es i 0;rw [p] at this;simpa using this
   have J:=fJ (P:=P) b3 (by intro _ _ _ e;cases e);have a3:a.eval x=.pointer (some ⟨(ι id).b,0,none⟩):=by rw [q,d];simp [o8,J9.at,b1,a4]
   simp [execOp,g,a3,Instr.entry,J,O,Y,a5,f,Q,o8,u6]
end
section
variable {P:Program}{G:Mem}{ι:J9}{n:Nm}{slots:List Nat}{done:List (Option Nat)}{ls:List d9}{env:T d9}{a:Act}
theorem MZ (rs:Nat)(l:List d9)(r:List (List d9))(h:rowsOf rs 0 l=some r):l=[]∧r=[]:=by
 cases l with
 | nil=>cases h;exact⟨rfl,rfl⟩
 | cons=>cases h
theorem Na (rs k:Nat)(l:List d9):rowsOf rs (k+1) l=ob (takeN rs l) λr=>ob (rowsOf rs k (lW rs l)) λrest=>some (r::rest):=rfl
theorem iE (rs:Nat):∀(k:Nat) (l:List d9) (r:List (List d9)),rowsOf rs k l=some r->
  l.length=k*rs∧r.length=k∧∀i,i<k->∃row,r[i]?=some row∧row.length=rs∧∀j,j<rs->row[j]?=l[i*rs+j]?:=by
 intro k;induction k with
 | zero=>intro l r h;obtain⟨rfl,rfl⟩:=MZ rs l r h;simp
 | succ k ih=>
  intro l r h;rw [Na] at h;obtain⟨x,n,h⟩:=D6 h;obtain⟨y,b,h⟩:=D6 h;cases h;obtain⟨rfl,p⟩:=kX _ _ _ n;rw [mg] at b;obtain⟨f,g,m⟩:=ih _ _ b;rw [List.length_drop] at f;refine⟨by rw [adf];omega,by simp [g],λi o=>?_⟩;cases i with
  | zero=>exact⟨_,rfl,by simp;omega,λj a=>by simp [a]⟩
  | succ i=>obtain⟨row,c,d,e⟩:=m i (by omega);refine⟨row,by simpa using c,d,λj a=>?_⟩;rw [e j a,ahe];congr 1;rw [adf];omega
theorem Nb {h:Array Obj}{l:Loc}{es k:Nat}{cells:List d9}{d:List (List d9)}(B:rowsOf es k cells=some d){c:Array Value}{e:TypeId}{p:Nat×Nat}
  (A:h[l.b]?=some (Obj.cells c e p)) (h0:l.base=0) (D:l.cap=c.size) (m:aU n cells) (f:∀(j:Nat) (v:d9),cells[j]?=some v->c[j]?=some (o8 ι v)) (u:cells.length<=c.size):
  dK P ι n h l (.cells es k (T.ofList d)):=by
 obtain⟨x,y,z⟩:=iE _ _ _ _ B;refine⟨c,e,p,A,by omega,⟨by omega,d.length,by omega,T.gG d,by rw [← y];exact uM (T.gG d)⟩,λi t=>?_⟩;obtain⟨o,w,q,r⟩:=z i t;refine⟨o,by rw [T.aD];exact w,q,cB.2 λv C=>?_,λj a=>?_⟩;obtain⟨j,a⟩:=aaH C;have g:j<es:=ahc (J2.1 a).1 q;rw [r j g] at a;exact P5 m (Y2 a);rw [r j a,h0,aaF];have s:i*es+j<cells.length:=by
  rw [x]
  calc i*es+j<i*es+es:=by omega
   _=(i+1)*es:=by rw [adf]
   _<=k*es:=aaC _ t
 rw [J3 s];exact f _ _ (J3 s)
theorem Ws {h:Array Obj}{l:Loc}{cs:List d9}{e:TypeId}{c:Nat×Nat}
  (d:h[l.b]?=some (.cells (u6 ι cs).toArray e c)) (h0:l.base=0) (f:l.cap=cs.length) (a:aU n cs):dK P ι n h l (l9 cs):=by
 refine⟨_,e,c,d,by simp;omega,⟨by simp;omega,1,q9 1,.nd .e .e,uM (.nd .e .e)⟩,λi g=>?_⟩;obtain rfl:i=0:=by omega
 refine⟨cs,rfl,(K4 cs).symm,a,λj k=>?_⟩;rw [h0];simp [aL]
theorem TJ {h:Array Obj}{l:Loc}{cs:List d9}{e:TypeId}{f:Nat×Nat}
  (g:h[l.b]?=some (.cells (u6 ι cs).toArray e f)) (h0:l.base=0) (k:l.cap=cs.length) (a:aU n cs) (c:cs.length=P.cellsOf e):dK P ι n h l (Mw e cs):=by
 refine⟨_,e,f,g,by simp;omega,⟨by simp;omega,2,by omega,.nd (.nd .e .e) .e,λty _ d=>?_⟩,λi m=>?_⟩;have d:some e=some ty:=d;cases d;exact⟨rfl,h0,by simpa using c⟩;obtain rfl:i=0:=by omega
 refine⟨cs,rfl,(K4 cs).symm,a,λj o=>?_⟩;rw [h0];simp [aL]
theorem AL {a:Nat}{l:Loc}{cs:List d9}(c:¬ n a)(h:aU n cs):u6 (ι.upd a l) cs=u6 ι cs:=
 fA (n:=n) (λi b=>ι.upd_ne l (λe=>c (by subst e;exact b))) cs h
theorem Nc {a:Nat}{l:Loc}{v:d9}(c:¬ n a)(h:v.lt n):o8 (ι.upd a l) v=o8 ι v:=
 R4 (n:=n) (λi b=>ι.upd_ne l (λe=>c (by subst e;exact b))) v h
structure Makes (P:Program)(ι:J9)(n:Nm)(ρ:Operand->Value)(op:Op)(nid:Nat)(v:d9)(b:P8)(w:World)(l:Loc)(obj:Obj)(w':World):Prop where
 loc:l.b=w.heap.size
 spot:l.spot=none
 run:∀o:Oper,o.op=op->(execOp ρ o).run P w=.ok (.value (o8 (ι.upd nid l) v)) w'
 grew:Wm w w' obj
 live:cO b=false
 free:∀c e fz,obj=.cells c e fz->∀k,k<c.size->¬ (fz.1<=k∧k<fz.2)
 blk:∀n':Nm,n.le n'->n' nid->n'.cap nid=l.cap->dK P (ι.upd nid l) n' (w.heap.push obj) l b∧v.lt n'
inductive oN (P:Program)(ι:J9)(n:Nm)(ρ:Operand->Value)(op:Op)(nid:Nat)(w:World):d9×Option P8->Prop
 | none {v}:v.lt n->Gives P ρ op (o8 ι v)->oN P ι n ρ op nid w (v,none)
 | made {v b} (l:Loc) (obj:Obj) (w':World):Makes P ι n ρ op nid v b w l obj w'->oN P ι n ρ op nid w (v,some b)
 | tail {v p} (l:Loc):n p->(l.cap=0∨(l.b=(ι p).b∧l.base+l.cap<=(ι p).base+(ι p).cap∧((ι p).spot=none->l.spot=none)))->Gives P ρ op (o8 (ι.upd nid l) v)->(∀n':Nm,n.le n'->n' nid->n'.cap nid=l.cap->v.lt n')->
   oN P ι n ρ op nid w (v,some (.tail p))
theorem dF {w:World}{o:Obj}:(w.heap.push o)[w.heap.size]?=some o:=by simp
theorem Ip {i:Op}{b:Nat}{w:World}{cs:List d9}(m:¬ n b)(d:aU n cs){e:TypeId}
  (f:∀o:Oper,o.op=i->(execOp a.eval o).run P w=.ok (.value (.pointer (some ⟨w.heap.size,0,none⟩))) {w with heap:=w.heap.push (.cells (u6 ι cs).toArray e)}):
  oN P ι n a.eval i b w (.ptr b 0,some (l9 cs)):=by
 refine .made ⟨w.heap.size,0,cs.length,none⟩ (.cells (u6 ι cs).toArray e) {w with heap:=w.heap.push (.cells (u6 ι cs).toArray e)} ⟨rfl,rfl,λo p=>?_,⟨rfl,rfl,rfl,rfl⟩,rfl,λc q r h k s=>?_,λt j g _=>⟨?_,g⟩⟩;rw [f o p];simp [o8,J9.at];cases h;simp;rw [← AL (l:=⟨w.heap.size,0,cs.length,none⟩) m d];exact Ws dF rfl rfl (dJ j _ d)
theorem ED {j:Op}{b:Nat}{w:World}{cs:List d9}(p:¬ n b)(d:aU n cs){e:TypeId}(i:cs.length=P.cellsOf e)
  (f:∀o:Oper,o.op=j->(execOp a.eval o).run P w=.ok (.value (.pointer (some ⟨w.heap.size,0,none⟩))) {w with heap:=w.heap.push (.cells (u6 ι cs).toArray e)}):
  oN P ι n a.eval j b w (.ptr b 0,some (Mw e cs)):=by
 refine .made ⟨w.heap.size,0,cs.length,none⟩ (.cells (u6 ι cs).toArray e) {w with heap:=w.heap.push (.cells (u6 ι cs).toArray e)} ⟨rfl,rfl,λo q=>?_,⟨rfl,rfl,rfl,rfl⟩,rfl,λc r s h k t=>?_,λu m g _=>⟨?_,g⟩⟩;rw [f o q];simp [o8,J9.at];cases h;simp;rw [← AL (l:=⟨w.heap.size,0,cs.length,none⟩) p d];exact TJ dF rfl rfl (dJ m _ d) i
theorem dR (e:TypeId)(cs:Array Value)(w:World):(newRow e cs).run P w=.ok ⟨w.heap.size,0,none⟩ {w with heap:=w.heap.push (.cells cs e)}:=by simp [newRow,newObj,Sem.run]
theorem sG (z:List d9)(k:Nat):U3 z (k+1)=z++U3 z k:=by show aC z (U3 z k)=_;rw [R8]
theorem zn (z:List d9):U3 z 0=[]:=rfl
theorem eP (z:List d9):∀k,(U3 z k).length=k*z.length
 | 0=>by simp [zn]
 | k+1=>by rw [sG,aar,eP z k,adf];omega
theorem sI {z:List d9}(h:aU n z):∀k,aU n (U3 z k)
 | 0=>trivial
 | k+1=>by rw [sG,cB];intro v hv;rcases aaD.1 hv with hv | hv;exact P5 h hv;exact P5 (sI h k) hv
theorem uU (z:List d9):∀(k i:Nat),i<k*z.length->(U3 z k)[i]?=z[i%z.length]?
 | 0,i,h=>by simp at h
 | k+1,i,h=>by rw [sG];by_cases hi:i<z.length;rw [Z9 hi,ahn hi];have hi:z.length<=i:=ad9 hi;rw [aaL hi,uU z k _ (by rw [adf] at h;omega),← Nat.mod_eq_sub_mod hi]
theorem EG (z:List d9)(k:Nat):(Array.range (k*z.length)).map (λi=>(u6 ι z).toArray[i%(u6 ι z).toArray.size]!)=(u6 ι (U3 z k)).toArray:=by
 apply Array.ext;simp [eP];intro i d f;have a:i<k*z.length:=by simpa using d
 have j:0<z.length:=ahy λe=>by rw [e] at a;simp at a
 have c:i%z.length<z.length:=aiL _ j;have g:=uU z k i a;rw [Array.getElem_map,Array.getElem_range];have h:(u6 ι (U3 z k))[i]?=some (u6 ι z)[i%z.length]!:=by rw [aL,g,J3 c];simp [bA,c]
 have b:(u6 ι (U3 z k)).toArray[i]?=some ((u6 ι z).toArray[i%(u6 ι z).toArray.size]!):=by simpa using h
 rw [aaE f] at b;exact (Y5 b).symm
theorem Wt {i:Op}{b:Nat}{w:World}{cells:List d9}(r:¬ n b)(d:aU n cells){e:TypeId}{es k len:Nat}{m:List (List d9)}(t:rowsOf es k cells=some m)
  (f:∀o:Oper,o.op=i->(execOp a.eval o).run P w=.ok (.value (.slice (some ⟨w.heap.size,0,none⟩) len k)) {w with heap:=w.heap.push (.cells (u6 ι cells).toArray e)}):
  oN P ι n a.eval i b w (.slice b 0 len k,some (.cells es k (T.ofList m))):=by
 refine .made ⟨w.heap.size,0,cells.length,none⟩ (.cells (u6 ι cells).toArray e) {w with heap:=w.heap.push (.cells (u6 ι cells).toArray e)} ⟨rfl,rfl,λo s=>?_,⟨rfl,rfl,rfl,rfl⟩,rfl,λc u x h k y=>?_,λz q g _=>⟨?_,g⟩⟩;rw [f o s];simp [o8,J9.at];cases h;simp;rw [← AL (l:=⟨w.heap.size,0,cells.length,none⟩) r d];exact Nb t dF rfl (by simp) (dJ q _ d) (λj v p=>by simp [aL,p]) (by simp)
theorem nW {t:TypeId}{z:List d9}(h:CY P t=some z):qN P t=some z∧aM P t=some z.length:=by simp only [CY] at h;split at h;split at h;cases h;rename_i a b c;exact⟨b,by rw [a,c]⟩;cases h;cases h
theorem xX {t:TypeId}{k:Nat}(h:aM P t=some k):P.cellsOf t=k:=by unfold aM at h;unfold Program.cellsOf;rw [h];rfl
theorem run_askRoom (k:Nat)(w:World):(askRoom k).run P w=.ok () w:=by unfold askRoom;split<;>simp [mark,Sem.run]
theorem zo (e:TypeId)(c:Array Value)(hp:Array Obj)(w:World):
  (markStringish ⟨hp.size,0,none⟩).run P {w with heap:=hp.push (.cells c e)}=.ok () {w with heap:=hp.push (.cells c e (c.size,c.size+1))}:=by
 simp only [markStringish,Xl,run_shape,World.shape?,K9];have d:∀(f:Obj->Obj),(hp.push (.cells c e)).modify hp.size f=hp.push (f (.cells c e)):=by
  intro f;apply Array.ext;simp;intro i a b;rw [Array.getElem_modify];simp only [Array.size_push,Array.size_modify] at a b;by_cases h:hp.size=i;subst h;simp;have:i<hp.size:=by omega
  simp [h,Array.getElem_push_lt this]
 simp [World.freeze,d]
theorem sJ (s:St P ι n slots done ls env a.tmps)(E:∀i,n i->n.cap i=(ι i).cap){D:Nat}(hn:¬ n D){op:Op}{lo:Tm}(h:mX P slots done op lo){r:d9×Option P8}(y:wQ lo ls env D=some r)(w:World):
  oN P ι n a.eval op D w r:=by
 cases h with
 | @alloc t z W=>cases y;obtain⟨v,K,R,h3⟩:=dB (w:=w) W ι;exact Ip (e:=t) hn (h3 n) λo A=>by simp [execOp,A,Instr.alloc,K,newVar,dR,R]
 | @box t x x' hx=>cases y;obtain⟨U,e2⟩:=D5 s hx;exact Ip (e:=t) hn (uJ e2) λo A=>by simp [execOp,A,Instr.box,U,newVar,dR,kY]
 | @allocT t z W=>cases y;obtain⟨W,O⟩:=nW W;obtain⟨v,K,R,h3⟩:=dB (w:=w) W ι;exact ED (e:=t) hn (h3 n) (xX O).symm λo A=>by simp [execOp,A,Instr.alloc,K,newVar,dR,R]
 | @boxT t k x x' hk hx=>
  obtain⟨K,y⟩:=G8 y;cases y;obtain⟨U,e2⟩:=D5 s hx;have K:(I4 x' ls env).cells.length=k:=by rw [← K4];exact gI K
  exact ED (e:=t) hn (uJ e2) (by rw [xX hk];exact K) λo A=>by simp [execOp,A,Instr.box,U,newVar,dR,kY]
 | @mkMap t=>cases y;refine .made ⟨w.heap.size,0,0,none⟩ (.map #[] 0) {w with heap:=w.heap.push (.map #[] 0)} ⟨rfl,rfl,λo A=>?_,⟨rfl,rfl,rfl,rfl⟩,rfl,(λc e' fz h=>by cases h),λn' hm C _=>⟨⟨?_,by simp⟩,C⟩⟩;simp [execOp,A,Instr.makeMap,o8,newObj,Sem.run];simp [I9]
 | @mkMapN t k m kt e hu=>cases y;refine .made ⟨w.heap.size,0,0,none⟩ (.map #[] 0) {w with heap:=w.heap.push (.map #[] 0)} ⟨rfl,rfl,λo A=>?_,⟨rfl,rfl,rfl,rfl⟩,rfl,(λc e' fz h=>by cases h),λn' hm C _=>⟨⟨?_,by simp⟩,C⟩⟩;simp [execOp,A,Instr.makeMap,o8,newObj,Sem.run,run_underlying hu,Act.eval,asInt,asIntOf];simp [I9]
 | @buildSlice t len parts e es ps z hu hes hps a3 W=>
  obtain⟨cells,K,y⟩:=D6 y;obtain⟨rl,R,y⟩:=D6 y;cases y;obtain⟨v,a4,a5,Y⟩:=dB (P:=P) (w:=w) W ι;obtain⟨g,Q,g3⟩:=AB s _ parts.toList ps hps _ cells (sI (Y n) len) K;obtain⟨r1,_,_⟩:=iE _ _ _ _ R;rw [eP] at g3;have a1:(parts.map λp=>(p.1,a.eval p.2)).toList=parts.toList.map λp=>(p.1,a.eval p.2):=by simp
  refine Wt (e:=e) hn Q R λo A=>?_
  have af:¬ len*es>2^24:=by have:(2:Nat)^24=16777216:=rfl
                            omega
  simp only [execOp,A,Instr.buildSlice,Xl,run_underlying hu,K9,run_sizeOf hes,if_neg af,Z8];have a0:∀Z:Array Value,(len*es=0∨Z=(u6 ι z).toArray)->(Array.range (len*es)).map (λi=>Z[i%Z.size]!)=(u6 ι (U3 z len)).toArray:=by
   intro Z hZ;by_cases N:len*es=0;have:U3 z len=[]:=aeN (by rw [eP];omega);rw [this,N];simp [u6];rcases hZ with h | rfl;exact absurd h N;have hm:len*z.length=len*es:=by omega
   have hp:0<len:=ahy λe=>N (by rw [e,ad4]);have ai:z.length=es:=Nat.eq_of_mul_eq_mul_left hp hm;rw [← ai];exact EG z len
  by_cases N:len*es=0;rw [if_pos N];simp only [Xl,Z8,K9,a1,a0 #[] (.inl N),g];simp [dR];rw [if_neg N];simp only [Xl,a4,Z8,K9,a1,a5,a0 _ (.inr rfl),g];simp [dR]
 | @mkSlice t l c e es by' z l' c' hu hes hby W hl J=>
  obtain⟨ah,a8⟩:=nW W;rw [hes] at a8;cases a8;obtain⟨i,len,K,y⟩:=fI y;obtain⟨j,cap,R,y⟩:=fI y;obtain⟨g,y⟩:=G8 y;obtain⟨Q,y⟩:=G8 y;obtain⟨g3,y⟩:=G8 y;cases y;have g:len<=cap:=X8 g;have Q:by'*cap<=281474976710656:=X8 Q;have g3:cap<9223372036854775808:=Eq.mp Y4 g3;have K:I4 l' ls env=.int i (len:Int):=K;have R:I4 c' ls env=.int j (cap:Int):=R;obtain⟨U,_⟩:=D5 s hl;obtain⟨e2,_⟩:=D5 s J;obtain⟨ak,ab,ac⟩:=vT (w:=w) hby;obtain⟨v,a4,a5,Y⟩:=dB (P:=P) (w:=w) ah ι;have M:=eP z cap;have B:∀o:Oper,o.op=.makeSlice t l c->(execOp a.eval o).run P w=.ok (.value (.slice (some ⟨w.heap.size,0,none⟩) len cap)) {w with heap:=w.heap.push (.cells (u6 ι (U3 z cap)).toArray e)}:=by
   intro o A;have w1:IntKind.i64.wrap (len:Int)=len:=yY _ ⟨by omega,by omega⟩;have w2:IntKind.i64.wrap (cap:Int)=cap:=yY _ ⟨by omega,by omega⟩;have a6:¬ ((by':Int)*(cap:Int)>2^48):=by have:((by'*cap:Nat):Int)=(by':Int)*(cap:Int):=(by simp);rw [← this];have a9:(2:Int)^48=281474976710656:=rfl;rw [a9];omega
   simp only [execOp,A,Instr.makeSlice,Xl,run_underlying hu,K9,U,e2,K,R,o8,asInt,asIntOf,Z8,ab,ac,w1,w2];rw [if_neg (by simp only [adi,decide_eq_true_eq,not_or];exact⟨⟨⟨by omega,a6⟩,by omega⟩,by omega⟩)];simp only [Xl,run_askRoom,K9,run_sizeOf hes,aja];by_cases N:cap*z.length=0;have a7:U3 z cap=[]:=aeN (by rw [M];exact N);have ag:∀f:Nat->Value,(Array.range 0).map f=#[]:=by intro f;simp
   simp only [Xl,Z8,K9,N,a7,if_true,ag];simp [dR,u6];have hk:=EG (ι:=ι) z cap;simp only [if_neg N,Xl,Z8,K9,a4,a5,hk];simp [dR]
  refine .made ⟨w.heap.size,0,(U3 z cap).length,none⟩ (.cells (u6 ι (U3 z cap)).toArray e) {w with heap:=w.heap.push (.cells (u6 ι (U3 z cap)).toArray e)} ⟨rfl,rfl,λo A=>?_,⟨rfl,rfl,rfl,rfl⟩,rfl,λc e' fz h k hk=>?_,λn' hm C _=>⟨?_,C⟩⟩;rw [B o A];simp [o8,J9.at];cases h;simp;refine⟨_,_,_,dF,by simp,⟨by simp [M],cap,q9 _,by simpa using T.PG z cap .e 0 .e,uM (by simpa using T.PG z cap .e 0 .e)⟩,λi hi=>⟨z,?_,rfl,Y _,λj hj=>?_⟩⟩;rw [T.Ry _ _ _ _ T.Ok.e];simp [hi];have hb:i*z.length+j<cap*z.length:=by
   calc i*z.length+j<i*z.length+z.length:=by omega
    _=(i+1)*z.length:=by rw [adf]
    _<=cap*z.length:=aaC _ hi
  rw [aaF,ad1,aL,uU _ _ _ hb];rw [show (i*z.length+j)%z.length=j from by rw [aeL,al9,ahn hj]];rw [J3 hj];simp [Nc (l:=⟨w.heap.size,0,(U3 z cap).length,none⟩) hn (P5 (Y n) (aaO hj))]
 | @strBytes t u e x x' K R h3 hx=>
  obtain⟨str,h4,y⟩:=iH y;obtain⟨rl,h5,y⟩:=D6 y;cases y;have h4:I4 x' ls env=.str str:=h4;obtain⟨U,_⟩:=D5 s hx;have V:∀l:List UInt8,bytesOf l=l.map λb=>d9.int .u8 b.toNat:=by
   intro l;induction l with
   | nil=>rfl
   | cons b l ih=>simp [bytesOf,ih]
  rw [K4] at *;generalize G:str.length+w.tape w.drawn (.appendCap str.length 0 e)%(2^63-str.length)=cap;have a3:str.length<=cap:=by omega
  let cells:Array Value:=(u6 ι (bytesOf str)).toArray++Array.replicate (cap-str.length) (.int .u8 0)
  have O:cells.size=cap:=by simp [cells,V];omega
  have I:aU n (bytesOf str):=by rw [V,cB];intro v y;obtain⟨b,_,rfl⟩:=adh.1 y;simp [d9.lt]
  have B:∀o:Oper,o.op=.convert t u x->(execOp a.eval o).run P w =
    .ok (.value (.slice (some ⟨w.heap.size,0,none⟩) str.length cap)) {w with heap:=w.heap.push (.cells cells e (cap,cap+1)),drawn:=w.drawn+1}:=by
   intro o A;simp only [execOp,A,Xl,convert,run_underlying K,run_underlying R,run_underlying h3,K9,U,h4,o8,Conv.stringToBytes];rw [run_choose];simp only [Question.forced,abQ,if_false,K9,Question.cut,oK,G];have J:(⟨str.toArray⟩:ByteArray).data.map (λb=>Value.int .u8 b.toNat)++Array.replicate (cap-str.length) (.int .u8 0)=cells:=by simp only [cells,V,bA,ahk];congr 1;simp [o8,Function.comp_def]
   have J:str.toArray.map (λb=>Value.int .u8 b.toNat)++Array.replicate (cap-str.length) (.int .u8 0)=cells:=J;rw [J,dR];simp only [K9];rw [zo e cells w.heap {w with drawn:=w.drawn+1}];simp [O]
  refine .made ⟨w.heap.size,0,cap,none⟩ (.cells cells e (cap,cap+1)) {w with heap:=w.heap.push (.cells cells e (cap,cap+1)),drawn:=w.drawn+1} ⟨rfl,rfl,λo A=>?_,⟨rfl,rfl,rfl,rfl⟩,rfl,λc e' fz h k hk=>?_,λn' hm C E=>⟨?_,⟨C,q9 1,by rw [E];show 0+str.length*1<=cap;omega⟩⟩⟩;rw [B o A];simp [o8,J9.at];cases h;rw [O] at hk;simp;omega;refine Nb h5 dF rfl O.symm (dJ hm _ I) (λj v hj=>?_) (by rw [O,V];simpa using a3);have ae:j<(bytesOf str).length:=(J2.1 hj).1;have y:=P5 I (Y2 hj);rw [Nc (l:=⟨w.heap.size,0,cap,none⟩) hn y];simp only [cells];rw [aiW (by simpa using ae)];simp [aL,hj]
 | @sl t x lo hi e es x' lo' hi' hu hes hx hlo hhi=>
  obtain⟨U,e2⟩:=D5 s hx;have y:fD (kT lo') 0 ls env (λl=>Option.rec (M9 D es (I4 x' ls env) l none) (λh=>jP (h ls env) λh=>M9 D es (I4 x' ls env) l (some h)) (kT hi'))=some r:=y;generalize hX:I4 x' ls env=X at *;have hb:∀d,(∀l,M9 D es X l none=M9 D es X l (some d))->
    ∃l h,M9 D es X l (some h)=some r∧∀cap w,l<=h->h<=cap->(Instr.sliceBounds true d cap (lo.map a.eval) (hi.map a.eval) none).run P w=.ok (l,h,cap) w:=by
   intro d hd;have h':fD (kT lo') 0 ls env (λl=>fD (kT hi') d ls env λh=>M9 D es X l (some h))=some r:=by
    rw [← y];congr 1;funext l;cases hhi':kT hi' with
    | none=>simp only [fD];exact (hd l).symm
    | some f=>rfl
   obtain⟨l,h,g,_,_,Q⟩:=sw s hlo hhi h';exact⟨l,h,g,λcap w p q=>Q true d cap w rfl p q⟩
  have F:∀(ad:Option Addr) (len cap l h:Nat) (w:World),o8 ι X=.slice ad len cap->(Instr.sliceBounds true len cap (lo.map a.eval) (hi.map a.eval) none).run P w=.ok (l,h,cap) w->
    ∀o:Oper,o.op=.slice t x lo hi none->(execOp a.eval o).run P w=.ok (.value (.slice (if cap=l then ad else ad.map (·.add (l*es))) (h-l) (cap-l))) w:=by
   intro ad len cap l h w J aa o A;simp [execOp,A,Instr.sliceAt,run_underlying hu,Instr.slice,U,J,aa,run_sizeOf hes]
  cases X with
  | nilSlice=>obtain⟨l,h,g,Q⟩:=hb 0 (λl=>by simp [M9,rO,abB]);have g:bi (Nat.beq l 0) (bi (Nat.beq h 0) (some (d9.nilSlice,none)) none) none=some r:=g;obtain⟨q1,g⟩:=G8 g;obtain⟨S,g⟩:=G8 g;obtain rfl:=gI q1;obtain rfl:=gI S;cases g;refine .none (by simp [d9.lt]) λo A w=>?_;rw [F none 0 0 0 0 w rfl (Q 0 w (q9 _) (q9 _)) o A];rfl
  | slice id off len cap=>obtain⟨l,h,g,Q⟩:=hb len (λl=>rfl);have g:M9.known es l id off cap h=some r:=g;simp only [M9.known] at g;obtain⟨q1,g⟩:=G8 g;obtain⟨S,g⟩:=G8 g;have q1:=X8 q1;have S:=X8 S;cases g;refine .none e2 λo A w=>?_;rw [F _ len cap l h w rfl (Q cap w q1 S) o A];simp only [o8,uQ,acu,J9.oJ];by_cases J:cap=l;rw [if_pos J,if_pos J.symm];rfl;rw [if_neg J,if_neg (λe=>J e.symm)];rfl
  | sliceU id off len es'=>
   obtain⟨l,h,g,Q⟩:=hb len (λl=>rfl);have g:M9.unk D es l id off len es' h=some r:=g;simp only [M9.unk] at g;obtain⟨q1,p1⟩:=G8 g;obtain⟨S,p2⟩:=G8 p1;obtain⟨q3,p3⟩:=G8 p2;clear g p1 p2;have q1:=X8 q1;have S:=X8 S;obtain rfl:=gI q3;obtain⟨L,H,G⟩:=e2;have G:off+len*es<=(n.cap id):=G;rw [E id L] at G;have M:len<=((ι id).cap-off) / es:=(aeF H).2 (by omega);have hX:o8 ι (.sliceU id off len es)=.slice (some (ι.at id off)) len (((ι id).cap-off) / es):=by simp [o8]
   have B:=λw=>F _ _ _ l h w hX (Q _ w q1 (aA S M));have a2:∀k,k*es<=(ι id).cap-off->((ι id).cap-(off+k*es)) / es=((ι id).cap-off) / es-k:=by intro k hk;rw [← Nat.sub_sub,aeL k es,Nat.sub_mul_div]
   cases I:Nat.blt l len with
   | true=>
    have g:some (d9.sliceU id (off+l*es) (h-l) es,none)=some r:=(by rw [I] at p3;exact p3);have am:l<len:=Eq.mp Y4 I;cases g;have a3:h*es<=len*es:=aaC _ S;have aj:l*es+(h-l)*es=h*es:=(by rw [← ad8];congr 1;omega);refine .none ⟨L,H,by rw [E id L];omega⟩ λo A w=>?_;rw [B w o A,if_neg (by omega)];simp only [o8,acu,J9.oJ]
    rw [a2 l (by have:l*es<=len*es:=aaC _ (by omega)
                 omega)]
   | false=>
    have al:len<=l:=by rcases afq l len with hh | hh;rw [(Eq.mpr Y4 hh:Nat.blt l len=true)] at I;cases I;exact hh
    have g:bi (Nat.beq l 0) (some (d9.sliceU id off (h-l) es,none)) (some (.sliceU D 0 0 es,some (.tail id)))=some r:=(by rw [I] at p3;exact p3);rw [uQ] at g;split at g;rename_i N;subst N;cases g;obtain rfl:len=0:=(by omega);obtain rfl:h=0:=(by omega);refine .none ⟨L,H,by rw [E id L];omega⟩ λo A w=>?_;rw [B w o A];simp only [o8,acu,J9.oJ,ad4,Y1,aky,ite_self];cases g;obtain rfl:l=len:=(by omega);obtain rfl:h=l:=(by omega);by_cases J:((ι id).cap-off) / es=h;refine .tail ⟨(ι id).b,(ι id).base+off,0,if off=0 then (ι id).spot else none⟩ L (.inl rfl) (λo A w=>?_) λn' hm C E=>⟨C,H,by rw [E];simp⟩;rw [B w o A,if_pos J,J];simp [o8,J9.at];refine .tail ⟨(ι id).b,(ι id).base+(off+h*es),(ι id).cap-(off+h*es),if off+h*es=0 then (ι id).spot else none⟩ L (.inr ⟨rfl,by show (ι id).base+(off+h*es)+((ι id).cap-(off+h*es))<=(ι id).base+(ι id).cap;omega,λhh=>by show (if off+h*es=0 then (ι id).spot else none)=none;rw [hh];simp⟩) (λo A w=>?_) λn' hm C E=>⟨C,H,by rw [E];simp⟩;rw [B w o A,if_neg J,← a2 h (by omega)];have a0:=J9.oJ ι id off (h*es);simp only [o8,acu,a0];simp [J9.at]
  | _=>obtain⟨l,h,g,_⟩:=hb 0 (λl=>rfl);cases g
end
theorem Mem.nH {m:Mem}(h:T.Ok m.t m.nx){id:Nat}{b b':P8}(c:m.get id=some b)(a:cO b'=false)(i:Nat)(f:m.has i):(m.set id b').has i:=by obtain⟨x,d,e⟩:=f;by_cases he:i=id;subst he;exact⟨b',by rw [Mem.V9 h (Mem.J5 h c),if_pos rfl],a⟩;exact⟨x,by rw [Mem.V9 h (Mem.J5 h c),if_neg he];exact d,e⟩
theorem getElem?_set_ne (a:Array Obj)(i j:Nat)(o:Obj)(h:i≠j):(a.setIfInBounds i o)[j]?=a[j]?:=Y3 h
structure Put (w w':World)(b:Nat)(o:Obj):Prop where
 heap:w'.heap=w.heap.setIfInBounds b o
 os:w'.os=w.os
 out:w'.output=w.output
 tape:w'.tape=w.tape
theorem Step.set' {P:Program}{G:Mem}{ι:J9}{m:Mem}{w w':World}(h:RM P G ι m w.heap){id:Nat}{b b':P8}(r:m.lim<=id)(q:m.get id=some b)(u:U7 b=true)
  (L:cO b'=false) {o:Obj} (s:Put w w' (ι id).b o)
  (D:dK P ι ((m.set id b').nm ι) (w.heap.setIfInBounds (ι id).b o) (ι id) b')
  (S:U7 b'=true->∀c e fz,o=.cells c e fz->∀k,k<c.size->¬ (fz.1<=k∧k<fz.2)):
  Step P G ι m w ι (m.set id b') w':=by
 have F:=Mem.J5 h.ok q;have a:=Mem.V9 h.ok F b';have l:=λi p=>Mem.nH h.ok q L i p;have v:=h.own id b r q u;have E:(ι id).b<w.heap.size:=eO (h.blk id b q) u;refine⟨⟨h.ok.put id b' F,?_,?_,h.glim,h.limn,h.gle,λi p=>by rw [a,if_neg (by have:=h.glim;omega)];exact h.base i p,λi p=>l i (h.ghas i p),h.glob,λi x d f=>by
   rw [a] at d;split at d;rename_i e;subst e;exact h.spot i b q u;exact h.spot i x d f,h.MO λt A O=>by
   rw [s.heap,getElem?_set_ne];intro e;exact O ⟨id,b,r,q,u,e⟩⟩,λ_ _=>rfl,l,q9 _,rfl,?_,by rw [s.heap];simp,?_,?_,s.os,s.out,s.tape⟩
 intro i x d;rw [a] at d;rw [s.heap];split at d;rename_i e;subst e;cases d;exact D;rename_i e;exact (h.blk i x d).mono (n:=m.nm ι) (λ_ _=>rfl) (Mem.aB l λ_ _=>rfl) (λf=>getElem?_set_ne _ _ _ _ (λK=>v.alone i x e d f K.symm));intro i x p d f;rw [a] at d;have I:∀j y,m.get j=some y->U7 y=true->j≠i->∀(z:P8),m.get i=some z->U7 z=true->(ι j).b≠(ι i).b:=λj y H B N z C g=>(h.own i z p C g).alone j y N H B;have M:∃z,m.get i=some z∧U7 z=true:=by split at d;rename_i e;subst e;exact⟨b,q,u⟩;exact⟨x,d,f⟩
 obtain⟨z,C,g⟩:=M;refine⟨λj y Q H B=>?_,λc e fz J=>?_⟩;rw [a] at H;split at H;rename_i R;subst R;exact I j b q u Q z C g;exact I j y H B Q z C g;by_cases he:i=id;subst he;rw [if_pos rfl] at d;cases d;rw [s.heap,Y7 E] at J;exact S f c e fz (Y5 J);rw [s.heap,getElem?_set_ne _ _ _ _ (λK=>v.alone i z he C g K.symm)] at J;exact (h.own i z p C g).free c e fz J;intro i p;rw [a,if_neg (by omega)];intro t A O;rw [s.heap,getElem?_set_ne];intro e;exact O ⟨id,b,r,q,u,e⟩;rintro t ⟨i,x,p,d,f,rfl⟩;rw [a] at d;split at d;rename_i e;subst e;exact .inl ⟨i,b,r,q,u,rfl⟩;exact .inl ⟨i,x,p,d,f,rfl⟩
theorem Step.set {P:Program}{G:Mem}{ι:J9}{m:Mem}{w w':World}(h:RM P G ι m w.heap){id:Nat}{b b':P8}(f:m.lim<=id)(i:m.get id=some b)(j:U7 b=true)
  (d:cO b'=false) {o:Obj} (l:Put w w' (ι id).b o)
  (a:dK P ι ((m.set id b').nm ι) (w.heap.setIfInBounds (ι id).b o) (ι id) b')
  (g:∀c e fz,o=.cells c e fz->∀k,k<c.size->¬ (fz.1<=k∧k<fz.2)):
  Step P G ι m w ι (m.set id b') w':=Step.set' h f i j d l a λ_=>g
theorem Step.kill {P:Program}{G:Mem}{ι:J9}{m:Mem}{w:World}(h:RM P G ι m w.heap){id:Nat}{b:P8}(q:m.lim<=id)(o:m.get id=some b):
  Step P G ι m w ι (m.set id .dead) w:=by
 have k:=Mem.J5 h.ok o;have d:=Mem.V9 h.ok k .dead;have e:=λi f=>Mem.nH (b':=.dead) h.ok o rfl i f;have g:∀i x,(m.set id .dead).get i=some x->U7 x=true->m.get i=some x:=λi x c a=>by rw [d] at c;split at c;cases c;cases a;exact c
 refine⟨⟨h.ok.put id .dead k,?_,?_,h.glim,h.limn,h.gle,λi f=>by rw [d,if_neg (by have:=h.glim;omega)];exact h.base i f,λi f=>e i (h.ghas i f),h.glob,λi x c a=>h.spot i x (g i x c a) a,h.gsz⟩,λ_ _=>rfl,e,q9 _,rfl,?_,q9 _,λ_ _ _=>rfl,?_,rfl,rfl,rfl⟩;intro i x c;rw [d] at c;split at c;cases c;trivial;exact (h.blk i x c).mono (n:=m.nm ι) (λ_ _=>rfl) (Mem.aB e λ_ _=>rfl) (λ_=>rfl);intro i x f c a;have p:=h.own i x f (g i x c a) a;exact⟨λj y r s l=>p.alone j y r (g j y s l) l,p.free⟩;intro i f;rw [d,if_neg (by omega)];rintro b₁ ⟨i,x,f,c,a,rfl⟩;exact .inl ⟨i,x,f,g i x c a,a,rfl⟩
section
variable {P:Program}{G:Mem}{ι:J9}{m:Mem}{w:World}{slots:List Nat}{done:List (Option Nat)}{ls:List d9}{env:T d9}{a:Act}
def aS (P:Program)(G:Mem)(ι:J9)(m:Mem)(w:World)(outs:List VM)(v:Value)(w':World):Prop:=
 ∃r∈outs,∃ι',Step P G ι m w ι' r.m w'∧r.v.lt (r.m.nm ι')∧v=o8 ι' r.v
def Does (P:Program)(ρ:Operand->Value)(o:Oper)(w:World)(R:Value->World->Prop):Prop:=
 match (execOp ρ o).run P w with
 | .ok (.value v) w'=>R v w'
 | .ok .skip w'=>R undef w'
 | .ok (.enter f args) w'=>CallsIn Fence.wide 0 P f args w' λe w''=>∃v,e=.returned v∧R v w''
 | .ok (.round l f tmps assign body) w'=>RoundIn Fence.wide 0 P l f tmps assign body w' λe w''=>∃v,e=.returned v∧R v w''
 | _=>False
theorem O8 {a:Operand->Value}{o:Oper}{R:Value->World->Prop}{v:Value}{w':World}(h:(execOp a o).run P w=.ok (.value v) w')(b:R v w'):Does P a o w R:=by unfold Does;rw [h];exact b
theorem AO {a:Operand->Value}{o:Oper}{R:Value->World->Prop}{w':World}(h:(execOp a o).run P w=.ok .skip w')(b:R undef w'):Does P a o w R:=by unfold Does;rw [h];exact b
theorem qg:∀{l:List d9},J8 l=true->∀v∈l,u7 v=true
 | [],_,v,hv=>by cases hv
 | x::l,h,v,hv=>by
  have h:bi (u7 x) (J8 l) false=true:=h;cases hx:u7 x with
  | false=>rw [hx] at h;cases h
  | true=>rw [hx] at h;rcases Z5.1 hv with rfl | hv;exact hx;exact qg h v hv
theorem AP {v:d9}(h:u7 v=true):(∀l,o8 ι v≠.agg l)∧∀l,o8 ι v≠.tuple l:=by cases v<;>simp_all [u7,o8]
theorem run_store {a:Addr}{v x:Value}{w:World}(d:w.cell? a=some x)(e:w.frozen? a=false)(b:∀l,v≠.agg l)(c:∀l,v≠.tuple l):
  (store a v).run P w=.ok () (w.setCell a v):=by
 cases v<;>first | exact absurd rfl (b _) | exact absurd rfl (c _) | simp [store,Sem.run,d,e]
def over (c:Array Value)(o:Nat):List Value->Array Value
 | []=>c
 | v::l=>over (c.setIfInBounds o v) (o+1) l
@[simp] theorem agl (l:List Value):∀(c:Array Value) (o:Nat),(over c o l).size=c.size:=by
 induction l with
 | nil=>intro c o;rfl
 | cons v l ih=>intro c o;rw [over,ih];simp
theorem zq (l:List Value):∀(c:Array Value) (o:Nat),o+l.length<=c.size->∀i,(over c o l)[i]?=if i<o then c[i]? else if i<o+l.length then l[i-o]? else c[i]?:=by
 induction l with
 | nil=>intro c o h i;simp [over];omega
 | cons v l ih=>intro c o h i;simp only [Y6] at h ⊢;rw [over,ih _ _ (by simp;omega)];by_cases h1:i<o;rw [if_pos h1,if_pos (by omega),Y3 (by omega)];by_cases h2:i=o;subst h2;rw [if_pos (by omega),if_neg h1,if_pos (by omega),Y7 (by omega)];simp;rw [if_neg (by omega),if_neg h1];by_cases h3:i<o+1+l.length;rw [if_pos h3,if_pos (by omega),show i-o=(i-(o+1))+1 from by omega];simp;rw [if_neg h3,if_neg (by omega),Y3 (by omega)]
theorem oO {b:Nat}{e:TypeId}{d:Nat×Nat}:∀(vs:List Value) (c:Array Value) (base i:Nat) (w:World),w.heap[b]?=some (.cells c e d)->
  base+i+vs.length<=c.size->(∀k,k<c.size->¬ (d.1<=k∧k<d.2))->(∀v∈vs,(∀l,v≠.agg l)∧∀l,v≠.tuple l)->
  (storeCells ⟨b,base,none⟩ vs i).run P w=.ok () {w with heap:=w.heap.setIfInBounds b (.cells (over c (base+i) vs) e d)}:=by
 intro vs;induction vs with
 | nil=>
  intro c base i w a p h n;have:w.heap.setIfInBounds b (.cells c e d)=w.heap:=by apply ad5;intro j;by_cases hj:b=j;subst hj;rw [Y7 (U9.1 a).1,a];rw [Y3 hj]
  simp [storeCells,over,this]
 | cons v vs ih=>
  intro c base i w a p h n;simp only [Y6] at p;have f:base+i<c.size:=by omega
  have o:=n v (by simp);have q:w.cell? ⟨b,base+i,none⟩=some c[base+i]:=by simp [World.cell?,a,f]
  have m:w.frozen? ⟨b,base+i,none⟩=false:=by have:=h (base+i) f;simp only [World.frozen?,a,ahl,decide_eq_false_iff_not];omega
  simp only [storeCells,Xl];rw [show (⟨b,base,none⟩:Addr).add i=⟨b,base+i,none⟩ from by simp [Addr.add],run_store q m o.1 o.2,K9];have g:w.setCell ⟨b,base+i,none⟩ v={w with heap:=w.heap.setIfInBounds b (.cells (c.setIfInBounds (base+i) v) e d)}:=by simp only [World.setCell];congr 1;apply ad5;intro j;rw [aiK];by_cases hj:b=j;subst hj;rw [if_pos rfl,a,Y7 (U9.1 a).1];simp;rw [if_neg hj,Y3 hj]
  rw [g,ih (c.setIfInBounds (base+i) v) base (i+1) _ (by simp [Y7 (U9.1 a).1]) (by simp;omega) (by simpa using h) (λx r=>n x (by simp [r]))];congr 2;simp [over,agk]
theorem Ho {rs n off:Nat}{rows rows':T (List d9)}{b:List d9}(h:aI rs n rows off b=some rows'):
  off / rs<n∧∃row,rows.get (off / rs)=some row∧off%rs+b.length<=rs∧rows'=rows.put (off / rs) (lX (off%rs) b row):=by
 obtain⟨c,h⟩:=G8 h;obtain⟨row,d,h⟩:=D6 h;obtain⟨a,h⟩:=G8 h;have a:=X8 a;rw [K4] at a;cases h;exact⟨Eq.mp Y4 c,row,d,a,rfl⟩
theorem zu {n:Nm}{h h':Array Obj}{l:Loc}{rs k off:Nat}{rows rows':T (List d9)}{g:List d9}(hb:dK P ι n h l (.cells rs k rows))(V:aI rs k rows off g=some rows')
  (w:aU n g) {c:Array Value} {e:TypeId} {r:Nat×Nat} (R:h[l.b]?=some (.cells c e r)) (t:h'[l.b]?=some (.cells (over c (l.base+off) (u6 ι g)) e r)):
  dK P ι n h' l (.cells rs k rows')∧l.base+off+g.length<=c.size:=by
 obtain⟨B,C,s,F,M,⟨O,N,Q,a,q⟩,G⟩:=hb;rw [R] at F;cases F;obtain⟨A,X,Z,w3,rfl⟩:=Ho V;obtain⟨f,D,J,E,K⟩:=G _ A;rw [Z] at D;cases D;have S:off / rs*rs+off%rs=off:=by rw [aeL];exact akZ off rs
 have H:off / rs*rs+rs<=k*rs:=by
  calc off / rs*rs+rs=(off / rs+1)*rs:=by rw [adf]
   _<=k*rs:=aaC _ A
 have m:l.base+off+g.length<=c.size:=by omega
 refine⟨⟨_,e,r,t,by simpa using M,⟨O,N,Q,a.put _ _ (by omega),λY p I=>?_⟩,λi U=>?_⟩,m⟩;have L:off / rs=0:=Nat.lt_one_iff.1 (ahc A p);rw [L,Tz a (by omega) (by omega)] at I;obtain⟨x,y,z⟩:=q Y p I;exact⟨x,y,by simpa using z⟩;by_cases hi0:i=off / rs;subst hi0;refine⟨_,T.aY a _ _ (by omega),by rw [yV _ _ _ (by omega)];exact J,?_,λj u=>?_⟩;rw [mh _ _ _ (by omega),cB];intro v d;rcases aaD.1 d with d | d;exact P5 E (agn d);rcases aaD.1 d with d | d;exact P5 w d;exact P5 E (aeI d);have o:=K j u;rw [zq _ _ _ (by simp;omega),Tw _ _ _ (by omega)];simp only [V5];by_cases c1:j<off%rs;rw [if_pos (by omega),if_neg (by omega)];exact o;by_cases c2:j<off%rs+g.length;rw [if_neg (by omega),if_pos (by omega),if_pos (by omega),aL];congr 2;omega;rw [if_neg (by omega),if_neg (by omega),if_neg (by omega)];exact o;obtain⟨f,x,y,z,W⟩:=G i U;refine⟨f,by rw [T.bH a _ _ _ (by omega) (λe=>hi0 e.symm)];exact x,y,z,λj u=>?_⟩;rw [zq _ _ _ (by simp;omega),← W j u];simp only [V5];rcases afq i (off / rs) with hlt | hge;have:i*rs+rs<=off / rs*rs:=by
  calc i*rs+rs=(i+1)*rs:=by rw [adf]
   _<=off / rs*rs:=aaC _ hlt
 rw [if_pos (by omega)];have:off / rs*rs+rs<=i*rs:=by
  calc off / rs*rs+rs=(off / rs+1)*rs:=by rw [adf]
   _<=i*rs:=aaC _ (by omega)
 rw [if_neg (by omega),if_neg (by omega)]
theorem Hq (rs n:Nat)(rows:T (List d9))(off:Nat):iG rs n [] rows off=some rows:=rfl
theorem EH (rs n:Nat)(v:d9)(a:List d9)(rows:T (List d9))(off:Nat):
  iG rs n (v::a) rows off=ob (aI rs n rows off [v]) λrows'=>iG rs n a rows' (off+1):=rfl
theorem gW {h:Array Obj}{b:Nat}{x o:Obj}(hb:h[b]?=some x):(h.setIfInBounds b o)[b]?=some o:=
 Y7 (U9.1 hb).1
theorem set_set (h:Array Obj)(b:Nat)(x y:Obj):(h.setIfInBounds b x).setIfInBounds b y=h.setIfInBounds b y:=by apply ad5;intro j;by_cases hj:b=j;subst hj;by_cases hb:b<h.size;rw [Y7 (by simpa using hb),Y7 hb];simp [ad9 hb];rw [Y3 hj,Y3 hj,Y3 hj]
theorem Hr {n:Nm}{l:Loc}{rs k:Nat}{e:TypeId}{g:Nat×Nat}:∀(vs:List d9) (off:Nat) (rows rows':T (List d9)) (h:Array Obj) (c:Array Value),
  dK P ι n h l (.cells rs k rows)->iG rs k vs rows off=some rows'->aU n vs->h[l.b]?=some (.cells c e g)->
  dK P ι n (h.setIfInBounds l.b (.cells (over c (l.base+off) (u6 ι vs)) e g)) l (.cells rs k rows')∧(vs≠[]->l.base+off+vs.length<=c.size):=by
 intro vs;induction vs with
 | nil=>intro off rows rows' h c i f _ a;rw [Hq] at f;cases f;refine⟨i.mono (n:=n) (λ_ _=>rfl) (Nm.le_refl n) λ_=>?_,λh=>absurd rfl h⟩;rw [gW a,a];rfl
 | cons v vs ih=>
  intro off rows rows' h c i f d a;rw [EH] at f;obtain⟨m,r,s⟩:=D6 f;obtain⟨o,p⟩:=zu (h':=h.setIfInBounds l.b (.cells (over c (l.base+off) (u6 ι [v])) e g)) i r ⟨d.1,trivial⟩ a (gW a);obtain⟨j,q⟩:=ih (off+1) _ _ _ _ o s d.2 (gW a);rw [set_set] at j;refine⟨?_,λ_=>?_⟩;simpa [u6,over,agk] using j;cases vs with
  | nil=>simpa using p
  | cons u vs=>have:=q (by simp);simp at this ⊢;omega
theorem Iq (r:RM P G ι m w.heap){id rs k off:Nat}{rows rows':T (List d9)}(q:m.lim<=id)(p:m.get id=some (.cells rs k rows)){d:List d9}
  (y:J8 d=true) (A:aU (m.nm ι) d)
  (hb:∀c e fz,w.heap[(ι id).b]?=some (.cells c e fz)->dK P ι (m.nm ι) (w.heap.setIfInBounds (ι id).b (.cells (over c ((ι id).base+off) (u6 ι d)) e fz)) (ι id) (.cells rs k rows')∧
   (d≠[]->(ι id).base+off+d.length<=c.size)):
  ∃w',(storeCells (ι.at id off) (u6 ι d) 0).run P w=.ok () w'∧Step P G ι m w ι (m.set id (.cells rs k rows')) w':=by
 obtain⟨c,e,fz,g,_⟩:=r.blk id _ p;obtain⟨f,o⟩:=hb c e fz g;have a:=(r.own id _ q p rfl).free c e fz g;have s:∀v∈u6 ι d,(∀l,v≠.agg l)∧∀l,v≠.tuple l:=by intro v t;rw [bA] at t;obtain⟨u,B,rfl⟩:=adh.1 t;exact AP (qg y u B)
 refine⟨{w with heap:=w.heap.setIfInBounds (ι id).b (.cells (over c ((ι id).base+off) (u6 ι d)) e fz)},?_,?_⟩;cases d with
 | nil=>
  have:w.heap.setIfInBounds (ι id).b (.cells c e fz)=w.heap:=by apply ad5;intro j;by_cases hj:(ι id).b=j;subst hj;rw [gW g,g];rw [Y3 hj]
  simp [u6,storeCells,over,this]
 | cons v d=>have:=o (by simp);rw [J9.yX (r.spot id _ p rfl)];exact oO (u6 ι (v::d)) c ((ι id).base+off) 0 w g (by simpa using this) a s
 refine Step.set r q p rfl rfl ⟨rfl,rfl,rfl,rfl⟩ ?_ (λC D x h=>by cases h;simpa using a);exact f.mono (n:=m.nm ι) (λ_ _=>rfl) (Mem.aB (λi z=>Mem.nH r.ok p rfl i z) λ_ _=>rfl) λ_=>rfl
theorem Ht (l:RM P G ι m w.heap){id off:Nat}{d:List d9}{β:Type}{k:Mem->Option β}{r:β}(hs:storeAt m id off d k=some r)(a:aU (m.nm ι) d):
  ∃m' w',k m'=some r∧(storeCells (ι.at id off) (u6 ι d) 0).run P w=.ok () w'∧Step P G ι m w ι m' w':=by
 obtain⟨g,hs⟩:=jW hs;obtain⟨v,hs⟩:=G8 hs;obtain⟨z,n,o,j,hs⟩:=dD hs;obtain⟨rows',y,x⟩:=D6 hs;have f:m.lim<=id:=by rcases afq id m.lim with h | h;rw [(Eq.mpr Y4 h:Nat.blt id m.lim=true)] at g;cases g;exact h
 obtain⟨w',t,u⟩:=Iq (off:=off) (rows':=rows') l f j v a (λc e s i=>by
  obtain⟨p,q⟩:=zu (h':=w.heap.setIfInBounds (ι id).b (.cells (over c ((ι id).base+off) (u6 ι d)) e s)) (l.blk id _ j) y a i (gW i);exact⟨p,λ_=>q⟩)
 exact⟨_,w',x,t,u⟩
theorem mY (g:RM P G ι m w.heap){id off:Nat}{b:List d9}{β:Type}{k:Mem->Option β}{r:β}(hs:jD m id off b k=some r)(d:aU (m.nm ι) b):
  ∃m' w',k m'=some r∧(storeCells (ι.at id off) (u6 ι b) 0).run P w=.ok () w'∧Step P G ι m w ι m' w':=by
 cases b with
 | nil=>exact⟨m,w,hs,by simp [u6,storeCells],Step.refl g⟩
 | cons v b=>
  have hs:bi (Nat.blt id m.lim) none (bi (J8 (v::b)) (U1 (m.get id) λi n a=>ob (iG i n (v::b) a off) λrows'=>k (m.set id (.cells i n rows'))) none)=some r:=hs;obtain⟨j,hs⟩:=jW hs;obtain⟨q,hs⟩:=G8 hs;obtain⟨i,n,a,l,hs⟩:=dD hs;obtain⟨rows',u,t⟩:=D6 hs;have f:m.lim<=id:=by rcases afq id m.lim with h | h;rw [(Eq.mpr Y4 h:Nat.blt id m.lim=true)] at j;cases j;exact h
  obtain⟨w',o,p⟩:=Iq (off:=off) (rows':=rows') g f l q d (λc e x s=>Hr (v::b) off a rows' _ c (g.blk id _ l) u d s);exact⟨_,w',t,o,p⟩
theorem jI {a b:Nat}(h:Nat.blt a b=false):b<=a:=by rcases afq a b with g | g;rw [(Eq.mpr Y4 g:Nat.blt a b=true)] at h;cases h;exact g
theorem Nf (s:St P ι (m.nm ι) slots done ls env a.tmps)(u:RM P G ι m w.heap){t:TypeId}{x y:Operand}{k:Nat}{l c:Q7}(r:aM P t=some k)
  (A:N7 P slots done x=some l) (B:N7 P slots done y=some c) {cf:H8} {outs:List VM} (z:nT (.store k l c) cf ls env m=some outs):
  ∀o:Oper,o.op=.store t x y->Does P a.eval o w (aS P G ι m w outs):=by
 intro o v;obtain⟨id,off,f,h⟩:=eu z;have f:I4 l ls env=.ptr id off:=f;obtain⟨g,h⟩:=G8 h;have g:(I4 c ls env).cells.length=k:=by rw [← K4];exact gI g
 obtain⟨n,_⟩:=D5 s A;obtain⟨p,e⟩:=D5 s B;obtain⟨C,w',i,d,b⟩:=Ht u h (uJ e);cases i;refine AO (w':=w') ?_ ⟨_,aP.2 rfl,ι,b,trivial,rfl⟩;have j:(o8 ι (I4 c ls env)).cells.size=k:=by rw [kY];simp [g]
 have q:(o8 ι (I4 c ls env)).cells.toList=u6 ι (I4 c ls env).cells:=by rw [kY]
 simp [execOp,v,Instr.storeAt,n,p,f,o8,Instr.sureAddr,storeVar,run_sizeOf r,j,q,d]
end
section
variable {P:Program}{G:Mem}{ι:J9}{m:Mem}{w:World}{slots:List Nat}{done:List (Option Nat)}{ls:List d9}{env:T d9}{a:Act}
theorem sK {r:Nat}{o x:Obj}(h:w.heap[r]?=some x)(a:∀c e fz,x≠.cells c e fz):(setObj r o).run P w=.ok () {w with heap:=w.heap.setIfInBounds r o}:=by simp only [setObj,Sem.run,h]
theorem lU {kk:PK}{x y:d9}(h:GJ kk x y=some true)(n:Nat):Instr.sameBits n (o8 ι x) (o8 ι y)=true:=by
 cases kk with
 | i=>obtain⟨k,p,q,rfl,rfl,a⟩:=oL (show N9 x y=some true from h);simp [o8,Instr.sameBits];simpa using a.symm
 | b=>obtain⟨p,q,rfl,rfl,a⟩:=iC (show oo x y=some true from h);simp [o8,Instr.sameBits];simpa using a.symm
 | s=>obtain⟨p,q,rfl,rfl,a⟩:=jq (show eqStr x y=some true from h);simp [o8,Instr.sameBits,lS];simpa using a.symm
theorem xk:∀(ks:List PK) (x y:List d9),bO ks x y=some true->x.length=ks.length->y.length=ks.length->∀n,
  ((u6 ι x).zip (u6 ι y)).all (λ(p:Value×Value)=>Instr.sameBits n p.1 p.2)=true
 | [],x,y,_,h1,h2,n=>by cases x<;>simp_all [u6]
 | k::ks,x,y,h,h1,h2,n=>by
  cases x with
  | nil=>simp at h1
  | cons a x=>
   cases y with
   | nil=>simp at h2
   | cons b y=>
    rw [jF] at h;obtain⟨r,h3,h4⟩:=D6 h;cases r with
    | false=>cases h4
    | true=>have ih:=xk ks x y h4 (by simpa using h1) (by simpa using h2) n;simp only [u6,List.zip_cons_cons,aiY,lU h3 n,adL];exact ih
theorem Ku {kk:Ah}{t:TypeId}(z:tY P t=some kk){x y:d9}(h:mM kk x y=some true)(f:x.cells.length=Ar kk)(g:y.cells.length=Ar kk):
  Instr.sameBits 10000 (o8 ι y) (o8 ι x)=true:=by
 have c:∀kk x y,GJ kk x y=some true->GJ kk y x=some true:=by
  intro kk x y h;cases kk with
  | i=>obtain⟨k,p,q,rfl,rfl,d⟩:=oL (show N9 x y=some true from h)
       have:p=q:=(by simpa using d.symm);subst this;exact h
  | b=>obtain⟨p,q,rfl,rfl,d⟩:=iC (show oo x y=some true from h)
       have:p=q:=(by simpa using d.symm);subst this;exact h
  | s=>obtain⟨p,q,rfl,rfl,d⟩:=jq (show eqStr x y=some true from h)
       have:p=q:=(by simpa using d.symm);subst this;exact h
 rcases vV z with⟨rfl,_⟩ | ⟨_,rfl,_⟩ | ⟨rfl,_⟩ | ⟨fs,a,rfl,_,_⟩;exact lU (kk:=.b) (c .b x y h) _;exact lU (kk:=.i) (c .i x y h) _;exact lU (kk:=.s) (c .s x y h) _;obtain⟨l,rfl,n⟩:=eB h;obtain⟨j,rfl,o⟩:=eB n;have f:l.length=a.length:=f;have g:j.length=a.length:=g;have e:∀(a:List PK) (x y:List d9),bO a x y=some true->bO a y x=some true:=by
  intro a;induction a with
  | nil=>intro x y h;exact lg y x
  | cons k a ih=>
   intro x y h;cases x with
   | nil=>cases h
   | cons u x=>
    cases y with
    | nil=>cases h
    | cons v y=>
     rw [jF] at h ⊢;obtain⟨r,w,m⟩:=D6 h;cases r with
     | false=>cases m
     | true=>rw [c k u v w];exact ih x y m
 have:=xk (ι:=ι) a j l (e a l j o) g f 9999;simp only [o8,Instr.sameBits,aeM,V5,f,g,beq_self_eq_true,adL];exact this
theorem uV (ι:J9)(e:d9×d9):∀(es:List (d9×d9)) (j:Nat),I9 ι (es ++ [e]) j=I9 ι es j ++ [{key:=o8 ι e.1,val:=o8 ι e.2,born:=j+es.length}]
 | [],j=>by simp [I9]
 | x::es,j=>by simp [I9,uV ι e es,agk,aj8 1]
theorem EI (k v:d9)(i:Nat):dw [] k v i=[]:=rfl
theorem mq (e:d9×d9)(es:List (d9×d9))(k v:d9):dw (e::es) k v 0=(k,v)::es:=rfl
theorem mD (e:d9×d9)(es:List (d9×d9))(k v:d9)(i:Nat):dw (e::es) k v (i+1)=e::dw es k v i:=rfl
theorem xq (k v:d9):∀(es:List (d9×d9)) (i:Nat),(dw es k v i).length=es.length
 | [],i=>rfl
 | e::es,0=>by simp [mq]
 | e::es,i+1=>by simp [mD,xq k v es]
theorem sM {k v:d9}:∀{es:List (d9×d9)} {i:Nat} {x:d9×d9},x∈dw es k v i->x=(k,v)∨x∈es
 | [],i,x,h=>by cases h
 | e::es,0,x,h=>by rw [mq] at h;rcases Z5.1 h with h | h;exact .inl h;exact .inr (Z7 _ h)
 | e::es,i+1,x,h=>by rw [mD] at h;rcases Z5.1 h with h | h;exact .inr (by rw [h];exact ady);rcases sM h with h | h;exact .inl h;exact .inr (Z7 _ h)
theorem uW (ι:J9)(k v:d9):∀(es:List (d9×d9)) (i j:Nat),
  (I9 ι es j).modify i (λe=>{e with key:=o8 ι k,val:=o8 ι v})=I9 ι (dw es k v i) j
 | [],i,j=>by simp [I9,EI]
 | e::es,0,j=>by simp [I9,mq]
 | e::es,i+1,j=>by simp [I9,mD,uW ι k v es]
theorem Dc (C:RM P G ι m w.heap){t O e:TypeId}{kk:Ah}(N:P.underlying t=some (.map O e))(J:tY P O=some kk){id:Nat}{k x:d9}{es:List (d9×d9)}
  (z:m.lim<=id) (v:m.get id=some (.map es)) {r:Option (Nat×d9)} (S:R3 (mM kk) (Ar kk) k es=some r) (B:k.lt (m.nm ι)) (D:x.lt (m.nm ι)) {outs:List VM}
  (q:Option.rec (one .undef (m.set id (.map (aC es [(k,x)])))) (λp=>ob (pI p.1 es) λe=>
   bi (Nat.beq (len' e.1.cells) (Ar kk)) (one .undef (m.set id (.map (dw es k x p.1)))) none) r=some outs):
  ∃w',(Instr.mapUpdate t (.map (some (ι id).b)) (o8 ι k) (o8 ι x)).run P w=.ok () w'∧aS P G ι m w outs undef w':=by
 obtain⟨L,⟨y,b,R⟩,M⟩:=jZ S;obtain⟨c,f⟩:=C.blk id _ v;have g:=fJ (P:=P) c (by intro _ _ _ e;cases e);have l:=λo=>sK (P:=P) (o:=o) c (by intro _ _ _ e;cases e);have u:=lT (ι:=ι) J M w;have s:=Dt (ι:=ι) J L R false w;cases r with
 | none=>cases q;refine⟨{w with heap:=w.heap.setIfInBounds (ι id).b (.map (I9 ι (es ++ [(k,x)]) 0).toArray (es ++ [(k,x)]).length)},?_,_,aP.2 rfl,ι,Step.set C z v rfl rfl (o:=.map (I9 ι (es ++ [(k,x)]) 0).toArray (es ++ [(k,x)]).length) ⟨rfl,rfl,rfl,rfl⟩ ?_ (by intro _ _ _ h;cases h),trivial,rfl⟩;simp only [Instr.mapUpdate,Xl,run_underlying N,g,K9,s,u,nA,ahf,l];simp [uV];rw [R8];refine⟨gW c,λe d=>?_⟩;have a:=Mem.aB (ι:=ι) (ι':=ι) (λi I=>Mem.nH (b':=.map (es ++ [(k,x)])) C.ok v rfl i I) λ_ _=>rfl;rcases aaD.1 d with d | d;exact⟨d9.O0 a _ (f e d).1,d9.O0 a _ (f e d).2⟩;rw [aP.1 d];exact⟨d9.O0 a _ B,d9.O0 a _ D⟩
 | some p=>
  obtain⟨e,F,q⟩:=D6 q;obtain⟨H,q⟩:=G8 q;cases q;rw [jh] at F;have H:e.1.cells.length=Ar kk:=by rw [← K4];exact gI H
  obtain⟨j,T,E,K,_,Q⟩:=lD M;rw [aaF] at E;rw [E,K] at F;cases F;have n:=Ku (ι:=ι) J Q L H;refine⟨{w with heap:=w.heap.setIfInBounds (ι id).b (.map (I9 ι (dw es k x p.1) 0).toArray es.length)},?_,_,aP.2 rfl,ι,Step.set C z v rfl rfl (o:=.map (I9 ι (dw es k x p.1) 0).toArray es.length) ⟨rfl,rfl,rfl,rfl⟩ ?_ (by intro _ _ _ h;cases h),trivial,rfl⟩;have A:(((I9 ι es 0).toArray[p.1]?).map (·.key)).getD (o8 ι k)=o8 ι e.1:=by simp [mo,E,K]
  simp only [Instr.mapUpdate,Xl,run_underlying N,g,K9,s,u,nA,acu,A,Instr.keyThatStays,n,if_true,Z8,l];rw [List.modify_toArray,uW];refine⟨by rw [xq];exact gW c,λe d=>?_⟩;have a:=Mem.aB (ι:=ι) (ι':=ι) (λi I=>Mem.nH (b':=.map (dw es k x p.1)) C.ok v rfl i I) λ_ _=>rfl;rcases sM d with d | d;rw [d];exact⟨d9.O0 a _ B,d9.O0 a _ D⟩;exact⟨d9.O0 a _ (f e d).1,d9.O0 a _ (f e d).2⟩
theorem Ir {ι:J9}(k v:d9):∀(L:List MapEntry) (es:List (d9×d9)) (j:Nat),L.map tZ=es.map (λe=>(o8 ι e.1,o8 ι e.2))->
  (L.modify j λe=>{e with key:=o8 ι k,val:=o8 ι v}).map tZ=(dw es k v j).map λe=>(o8 ι e.1,o8 ι e.2)
 | [],[],j,_=>by simp [EI]
 | [],_ :: _,_,h=>by cases h
 | _ :: _,[],_,h=>by cases h
 | x::L,e::es,0,h=>by simp only [Z6,agf] at h;rw [mq];simp [tZ];simpa [tZ] using h.2
 | x::L,e::es,j+1,h=>by simp only [Z6,agf] at h;rw [mD];simp [h.1,Ir k v L es j h.2]
def Ng (u:List UInt8)(x:d9)(e:d9×d9):d9×d9:=match e.1 with
 | .str t=>if t=u then (.str u,x) else e
 | _=>e
theorem Wu (u:List UInt8)(x:d9)(e:d9×d9):(Ng u x e).1=e.1:=by
 obtain⟨k,v⟩:=e;cases k<;>simp only [Ng]
 split;rename_i h;rw [h];rfl
theorem RB {u:List UInt8}{x:d9}:∀{es:List (d9×d9)},(∀e∈es,e.1≠.str u)->es.map (Ng u x)=es
 | [],_=>rfl
 | e::es,h=>by
  rw [Z6,RB λy hy=>h y (by simp [hy])];congr 1;have:=h e (by simp);obtain⟨k,v⟩:=e;cases k<;>simp only [Ng]
  split;rename_i h';exact absurd (by simp [h']) this;rfl
theorem qh {u:List UInt8}{x v:d9}:∀{es:List (d9×d9)} {j:Nat},(es.map (·.1)).Nodup->es[j]?=some (.str u,v)->dw es (.str u) x j=es.map (Ng u x)
 | [],j,_,h=>by simp at h
 | e::es,0,hn,h=>by simp at h;subst h;simp only [Z6,aeJ] at hn;rw [mq,Z6,RB λy hy hk=>hn.1 (by rw [← hk];exact adh.2 ⟨y,hy,rfl⟩)];simp [Ng]
 | e::es,j+1,hn,h=>by
  simp only [Z6,aeJ] at hn;have h:es[j]?=some (.str u,v):=by simpa using h
  rw [mD,Z6,qh hn.2 h];congr 1;have hne:e.1≠.str u:=λhk=>hn.1 (by rw [hk];exact adh.2 ⟨_,Y2 h,rfl⟩);obtain⟨k,w⟩:=e;cases k<;>simp only [Ng]
  split;rename_i h';exact absurd (by simp [h']) hne;rfl
theorem AQ (hm:RM P G ι m w.heap){t kt e:TypeId}{kk:Ah}(hu:P.underlying t=some (.map kt e))(Z:tY P kt=some kk){id:Nat}{u:List UInt8}{x:d9}{es:List (d9×d9)}
  (O:m.lim<=id) (Y:m.get id=some (.mapU es)) {r:Option (Nat×d9)} (hf:R3 (mM kk) (Ar kk) (.str u) es=some r) (W:x.lt (m.nm ι)) {B:List (d9×d9)}
  (hr:(r=none∧B=es ++ [(.str u,x)])∨∃p,r=some p∧B=dw es (.str u) x p.1):
  ∃w',(Instr.mapUpdate t (.map (some (ι id).b)) (o8 ι (.str u)) (o8 ι x)).run P w=.ok () w'∧aS P G ι m w [⟨.undef,m.set id (.mapU B)⟩] undef w':=by
 obtain⟨h1,⟨y,b,h2⟩,C⟩:=jZ hf;obtain⟨L,I,d,⟨hp,V,E⟩,q⟩:=hm.blk id _ Y;have s:=fJ (P:=P) d (by intro _ _ _ e;cases e);have z:=λo=>sK (P:=P) (o:=o) d (by intro _ _ _ e;cases e);obtain⟨g,p1,p2⟩:=Ca _ hp;obtain⟨r',q1,q2⟩:=acB Z p1 V E hf;have a5:(I9 ι g 0).map tZ=L.map tZ:=by rw [xV];exact p2.symm
 have D:=lT (ι:=ι) Z q1 w;rw [Ey kt (o8 ι (.str u)) a5] at D;have N:=Dt (ι:=ι) Z h1 h2 false w;have f:∀b',cO b'=false->(m.nm ι).le ((m.set id b').nm ι):=λb' a0=>Mem.aB (ι:=ι) (ι':=ι) (λi hi=>Mem.nH (b':=b') hm.ok Y a0 i hi) λ_ _=>rfl;have S:es≠[]->mM kk=eqStr:=λF=>by
  cases es with
  | nil=>exact absurd rfl F
  | cons A es=>obtain⟨s0,a7⟩:=V A (by simp);rw [dM,a7] at C;obtain⟨b0,a2,_⟩:=D6 C;rw [(RA Z a2).1];rfl
 rcases hr with⟨rfl,rfl⟩ | ⟨p,rfl,rfl⟩;obtain rfl:r'=none:=by cases r'<;>simp at q2 ⊢
 refine⟨{w with heap:=w.heap.setIfInBounds (ι id).b (.map (L ++ [(⟨o8 ι (.str u),o8 ι x,I⟩:MapEntry)]).toArray (I+1))},?_,_,aP.2 rfl,ι,Step.set hm O Y rfl rfl (o:=.map (L ++ [(⟨o8 ι (.str u),o8 ι x,I⟩:MapEntry)]).toArray (I+1)) ⟨rfl,rfl,rfl,rfl⟩ ?_ (by intro _ _ _ h;cases h),trivial,rfl⟩;simp only [Instr.mapUpdate,Xl,run_underlying hu,s,K9,N,D,nA,ahf,z];simp;refine⟨_,_,gW d,⟨?_,λe c=>?_,?_⟩,λe c=>?_⟩;simp only [abN,Z6,ahm];exact hp.append_right _;rcases aaD.1 c with c | c;exact V e c;rw [aP.1 c];exact⟨u,rfl⟩;simp only [abN,Z6,ahm];rw [List.nodup_append];refine⟨E,by simp,?_⟩;intro a ha b hb M;rw [aP.1 hb] at M;subst M;obtain⟨A,a3,a4⟩:=adh.1 ha;have Q:(d9.str u,A.2)∈es:=by rw [← a4];exact a3
 obtain⟨j,J,_⟩:=qd es 0 V E Q;rw [S (List.ne_nil_of_mem Q),J] at C;cases C;rcases aaD.1 c with c | c;exact⟨d9.O0 (f _ rfl) _ (q e c).1,d9.O0 (f _ rfl) _ (q e c).2⟩;rw [aP.1 c];exact⟨trivial,d9.O0 (f _ rfl) _ W⟩;obtain⟨p',rfl⟩:∃p',r'=some p':=by cases r' with
  | none=>simp at q2
  | some p'=>exact⟨p',rfl⟩
 have F:es≠[]:=by rintro rfl;rw [dL] at C;cases C
 have c:=S F;have k:∃v,es[p.1]?=some (.str u,v):=by
  obtain⟨j,A,J,g2,_,K⟩:=lD C;rw [c] at K;obtain⟨a1,b1,g5,g6,g7⟩:=jq K;cases g5;have:u=b1:=by simpa using g7.symm
  subst this;exact⟨A.2,by rw [J,aaF,g2,← g6]⟩
 have n:∃v,g[p'.1]?=some (.str u,v):=by
  obtain⟨j,A,J,g2,_,K⟩:=lD q1;rw [c] at K;obtain⟨a1,b1,g5,g6,g7⟩:=jq K;cases g5;have:u=b1:=by simpa using g7.symm
  subst this;exact⟨A.2,by rw [J,aaF,g2,← g6]⟩
 obtain⟨v1,k⟩:=k;obtain⟨v2,n⟩:=n;have hL:∃X,L[p'.1]?=some X∧X.key=o8 ι (.str u):=by
  have:=congrArg (λl=>l[p'.1]?) p2;simp only [aaM,n,acu] at this;cases hl:L[p'.1]? with
  | none=>rw [hl] at this;cases this
  | some X=>rw [hl] at this;simp at this;exact⟨X,rfl,this.1⟩
 obtain⟨X,T,U⟩:=hL;have H:Instr.sameBits 10000 (o8 ι (.str u)) (o8 ι (.str u))=true:=by simp [o8,Instr.sameBits,lS]
 have a6:(g.map (·.1)).Nodup:=(p1.map _).nodup_iff.2 E;refine⟨{w with heap:=w.heap.setIfInBounds (ι id).b (.map (L.modify p'.1 λe=>{e with key:=o8 ι (.str u),val:=o8 ι x}).toArray I)},?_,_,aP.2 rfl,ι,Step.set hm O Y rfl rfl (o:=.map (L.modify p'.1 λe=>{e with key:=o8 ι (.str u),val:=o8 ι x}).toArray I) ⟨rfl,rfl,rfl,rfl⟩ ?_ (by intro _ _ _ h;cases h),trivial,rfl⟩;have R:((L.toArray[p'.1]?).map (·.key)).getD (o8 ι (.str u))=o8 ι (.str u):=by simp [T,U]
 simp only [Instr.mapUpdate,Xl,run_underlying hu,s,K9,N,D,nA,acu,R,Instr.keyThatStays,H,if_true,Z8,z];rw [List.modify_toArray];refine⟨_,_,gW d,⟨?_,λe c=>?_,?_⟩,λe c=>?_⟩;rw [show (L.modify p'.1 λe=>{e with key:=o8 ι (.str u),val:=o8 ι x}).map (λx=>(x.key,x.val))=(dw g (.str u) x p'.1).map (λe=>(o8 ι e.1,o8 ι e.2)) from Ir (.str u) x L g p'.1 p2,qh a6 n,qh E k];exact (p1.map _).map _;rcases sM c with c | c;rw [c];exact⟨u,rfl⟩;exact V e c;rw [qh E k,ahk];rw [show ((λx=>x.1)∘Ng u x:d9×d9->d9)=λe=>e.1 from funext λe=>Wu u x e];exact E;rcases sM c with c | c;rw [c];exact⟨trivial,d9.O0 (f _ rfl) _ W⟩;exact⟨d9.O0 (f _ rfl) _ (q e c).1,d9.O0 (f _ rfl) _ (q e c).2⟩
theorem Iu {id:Nat}{k:d9}{es a:List (d9×d9)}(h:m.get id=some (.map es)):ow m id k a=one .undef (m.set id (.map a)):=by unfold ow;rw [h]
theorem EJ {id:Nat}{k:d9}{es a:List (d9×d9)}(h:m.get id=some (.mapU es)):ow m id k a=pJ k λ_=>one .undef (m.set id (.mapU a)):=by unfold ow;rw [h]
theorem zw (s:St P ι (m.nm ι) slots done ls env a.tmps)(N:RM P G ι m w.heap){t S e:TypeId}{kk:Ah}(O:P.underlying t=some (.map S e))(M:tY P S=some kk)
  {x k y:Operand} {E d n:Q7} (Q:N7 P slots done x=some E) (B:N7 P slots done k=some d) (R:N7 P slots done y=some n)
  {cf:H8} {outs:List VM} (T:nT (.mapSet kk E d n) cf ls env m=some outs):
  ∀o:Oper,(o.op=.mapUpdate t x k y∨o.op=.insert t x k y)->Does P a.eval o w (aS P G ι m w outs):=by
 intro o f;rcases vU T with⟨_,h⟩ | ⟨id,v,h⟩;cases h;obtain⟨L,h⟩:=jW h;obtain⟨q,j | j,h⟩:=Du h
 case inr=>
  obtain⟨r,D,b⟩:=D6 h;have v:I4 E ls env=.map id:=v;obtain⟨F,_⟩:=D5 s Q;obtain⟨H,z⟩:=D5 s B;obtain⟨I,g⟩:=D5 s R;have K:∃u,I4 d ls env=.str u∧∃c,outs=[⟨.undef,m.set id (.mapU c)⟩]∧((r=none∧c=q ++ [(.str u,I4 n ls env)])∨∃p,r=some p∧c=dw q (.str u) (I4 n ls env) p.1):=by
   cases r with
   | none=>have b:ow m id (I4 d ls env) (aC q [(I4 d ls env,I4 n ls env)])=some outs:=b;rw [EJ j] at b;obtain⟨u,l,b⟩:=iH b;cases b;rw [l,R8];exact⟨u,rfl,_,rfl,.inl ⟨rfl,rfl⟩⟩
   | some p=>obtain⟨U,_,b⟩:=D6 b;obtain⟨_,b⟩:=G8 b;rw [EJ j] at b;obtain⟨u,l,b⟩:=iH b;cases b;rw [l];exact⟨u,rfl,_,rfl,.inr ⟨p,rfl,rfl⟩⟩
  obtain⟨u,C,c,rfl,i⟩:=K;rw [C] at D;obtain⟨w',A,J⟩:=AQ N O M (jI L) j D g i;refine AO (w':=w') ?_ J;rcases f with f | f<;>simp [execOp,f,F,H,I,v,C,o8,A]
  all_goals (simp only [o8] at A;simp [A])
 obtain⟨r,D,b⟩:=D6 h;have v:I4 E ls env=.map id:=v;obtain⟨F,_⟩:=D5 s Q;obtain⟨H,z⟩:=D5 s B;obtain⟨I,g⟩:=D5 s R;have b:Option.rec (one .undef (m.set id (.map (aC q [(I4 d ls env,I4 n ls env)])))) (λp=>ob (pI p.1 q) λe=>
   bi (Nat.beq (len' e.1.cells) (Ar kk)) (one .undef (m.set id (.map (dw q (I4 d ls env) (I4 n ls env) p.1)))) none) r=some outs:=by
  cases r with
  | none=>rw [← Iu (k:=I4 d ls env) j];exact b
  | some p=>simp only [← Iu (k:=I4 d ls env) j];exact b
 obtain⟨w',A,J⟩:=Dc N O M (jI L) j D z g b;refine AO (w':=w') ?_ J;rcases f with f | f<;>simp [execOp,f,F,H,I,v,o8,A]
theorem run_newObj (o:Obj)(w:World):(newObj o).run P w=.ok w.heap.size {w with heap:=w.heap.push o}:=by simp [newObj,Sem.run]
theorem Nh (d:RM P G ι m w.heap)(mp:Option Nat)(since:Nat)(a:∀x,mp=some x->m.has x):
  aS P G ι m w [⟨.ptr m.nx 0,m.new (.iter mp since [])⟩] (.pointer (some ⟨w.heap.size,0,none⟩)) {w with heap:=w.heap.push (.mapIter (mp.map λx=>(ι x).b) since #[] since)}:=by
 have c:=Laid.new d.ok d.limn (.iter mp since []) rfl;refine⟨_,aP.2 rfl,ι.upd m.nx ⟨w.heap.size,0,0,none⟩,Step.lay (w':={w with heap:=w.heap.push (.mapIter (mp.map λx=>(ι x).b) since #[] since)}) d c (o:=.mapIter (mp.map λx=>(ι x).b) since #[] since) ⟨rfl,rfl,rfl,rfl⟩ rfl rfl ?_ (by intro _ _ _ h;cases h),c.self,by simp [o8,J9.at]⟩;refine⟨rfl,λx f=>c.has x (a x f),#[],since,?_,rfl,λ_=>rfl⟩;show (w.heap.push _)[w.heap.size]?=_;rw [dF];cases mp with
 | none=>rfl
 | some x=>simp [ι.upd_ne ⟨w.heap.size,0,0,none⟩ (λe=>c.free (e▸a x rfl):x≠m.nx)]
theorem Ni (s:St P ι (m.nm ι) slots done ls env a.tmps)(d:RM P G ι m w.heap){t k e:TypeId}(l:P.underlying t=some (.map k e))
  {x:Operand} {c:Q7} (f:N7 P slots done x=some c) {cf:H8} {outs:List VM} (q:nT (.range c) cf ls env m=some outs):
  ∀o:Oper,o.op=.range t x->Does P a.eval o w (aS P G ι m w outs):=by
 intro o j;obtain⟨g,n⟩:=D5 s f;rcases vU q with⟨b,h⟩ | ⟨id,b,h⟩;cases h;have b:I4 c ls env=.nilMap:=b;refine O8 (v:=.pointer (some ⟨w.heap.size,0,none⟩)) ?_ (Nh d none 0 (by simp));simp [execOp,j,Instr.range,run_underlying l,g,b,o8];obtain⟨p,i,h⟩:=AJ h;cases h;have b:I4 c ls env=.map id:=b;obtain⟨r,u⟩:=Kr d i;rw [K4];refine O8 (v:=.pointer (some ⟨w.heap.size,0,none⟩)) ?_ (Nh d (some id) p.length (by intro x f;cases f;exact⟨_,i,rfl⟩));simp [execOp,j,Instr.range,run_underlying l,g,b,o8,r]
theorem Kv (n:Nat):∀l:List Nat,rX n l=l.contains n
 | []=>rfl
 | x::l=>by show bi (Nat.beq x n) true (rX n l)=_;rw [Kv n l,uQ,List.contains_cons];by_cases h:x=n;subst h;simp;rw [if_neg h,beq_eq_false_iff_ne.2 (λe=>h e.symm),ad6]
theorem xY (m:Mem)(id mp since:Nat)(a:List Nat)(e:d9×d9)(es:List (d9×d9))(i:Nat):
  nexts m id mp since a (e::es) i=bi (rX i a) (nexts m id mp since a es (i+1))
   (⟨.tuple [.bool true,e.1,e.2],m.set id (.iter (some mp) since (i::a))⟩::nexts m id mp since a es (i+1)):=rfl
theorem AR {m:Mem}{id mp since:Nat}{seen:List Nat}:∀{es:List (d9×d9)} {i j:Nat} {e:d9×d9},es[j]?=some e->seen.contains (i+j)=false->
  (⟨.tuple [.bool true,e.1,e.2],m.set id (.iter (some mp) since ((i+j)::seen))⟩:VM)∈nexts m id mp since seen es i
 | [],i,j,e,h,_=>by simp at h
 | x::es,i,0,e,h,hs=>by simp at h;subst h;rw [xY,Kv,show seen.contains i=false from hs];exact ady
 | x::es,i,j+1,e,h,hs=>by
  rw [xY];have:=AR (es:=es) (i:=i+1) (j:=j) (m:=m) (id:=id) (mp:=mp) (since:=since) (by simpa using h) (by rw [show i+1+j=i+(j+1) from by omega];exact hs);rw [show i+1+j=i+(j+1) from by omega] at this;cases rX i seen with
  | true=>exact this
  | false=>exact Z7 _ this
theorem EK {m:Mem}{id mp since:Nat}{seen:List Nat}:∀{es:List (d9×d9)} {i:Nat},(∀j,j<es.length->seen.contains (i+j)=true)->nexts m id mp since seen es i=[]
 | [],i,h=>rfl
 | e::es,i,h=>by rw [xY,Kv,show seen.contains i=true from h 0 (by simp)];exact EK λj hj=>by rw [show i+1+j=i+(j+1) from by omega];exact h (j+1) (by simpa using hj)
theorem EL (n:Nat)(a:0<n)(w:World):∃k w',(choose (.mapNext n)).run P w=.ok k w'∧k<n∧(w'=w∨w'={w with drawn:=w.drawn+1}):=by rw [run_choose];by_cases h:n<=1;exact⟨0,w,by simp [Question.forced,h],a,.inl rfl⟩;exact⟨_,_,by simp only [Question.forced,h,decide_false,abQ,if_false];rfl,aiL _ a,.inr rfl⟩
theorem Wv (u:RM P G ι m w.heap){id mp since:Nat}{seen:List Nat}{es:List (d9×d9)}(V:m.lim<=id)(q:m.get id=some (.iter (some mp) since seen))
  (D:m.get mp=some (.map es)) (J:es.length=since) (t:TypeId):
  ∃v w',(Instr.next (.pointer (some ⟨(ι id).b,0,none⟩)) false t).run P w=.ok v w'∧aS P G ι m w (JV m (nexts m id mp since seen es 0)) v w':=by
 obtain⟨b1,b2,A,st,S,b4,b5⟩:=u.blk id _ q;obtain⟨c1,c2⟩:=u.blk mp _ D;have a1:st=since:=b5 (by simp);subst a1;subst J;have T:=fJ (P:=P) S (by intro _ _ _ e;cases e);have U:=fJ (P:=P) c1 (by intro _ _ _ e;cases e);generalize hL:I9 ι es 0=L at *;have a:∀x∈L,x.born<es.length:=by
  intro x p;obtain⟨j,g⟩:=aaH p;rw [← hL,mo] at g;cases he:es[j]? with
  | none=>simp [he] at g
  | some e=>simp [he] at g;rw [← g];simpa using (J2.1 he).1
 have B:(!A.isEmpty && !L.toArray.isEmpty&&L.toArray.all (λe=>decide (e.born≥es.length)))=false:=by
  cases L with
  | nil=>simp
  | cons x L=>have:=a x (by simp);simp;intro _ h;omega
 have O:∀l:List MapEntry,(∀x∈l,x∈L)->l.filter (λe=>decide (e.born<es.length))=l:=λl Y=>ahr.2 λx p=>by simpa using a x (Y x p)
 have N:∀l:List MapEntry,(∀x∈l,x∈L)->l.filter (λe=>decide (e.born≥es.length))=[]:=λl Y=>ahJ.2 λx p=>by have:=a x (Y x p);simp;omega
 have n:=λx (p:x∈L.filter (λe=>!A.contains e.born))=>(aeK.1 p).1;simp only [Instr.next,Xl,T,K9,acu,U];rw [if_neg (by rw [B];simp)];simp only [List.filter_toArray,O _ n,N _ n];generalize hlf:L.filter (λe=>!A.contains e.born)=left at *;generalize hc:((if left.toArray.isEmpty=true then #[none] else #[])++Array.map some (left.toArray ++ [].toArray):Array (Option MapEntry))=cands;have c:cands=(if left=[] then #[none] else (left.map some).toArray):=by rw [← hc];cases left<;>simp
 have Q:0<cands.size:=by rw [c];split<;>simp_all;exact ahy (by simp;assumption)
 obtain⟨k,w1,X,r,s⟩:=EL (P:=P) cands.size Q w;simp only [Xl,X,K9];have f:w1.heap=w.heap:=by rcases s with rfl | rfl<;>rfl
 have z:w1.os=w.os∧w1.output=w.output∧w1.tape=w.tape:=by rcases s with rfl | rfl<;>exact⟨rfl,rfl,rfl⟩
 have F:∀x,x∈A.toList↔x∈seen:=λx=>by rw [← b4];simp
 by_cases hl0:left=[];rw [if_pos hl0] at c;have W:k=0:=by rw [c] at r;simpa using r
 rw [c,W];have y:nexts m id mp es.length seen es 0=[]:=EK λj g=>by
  have p:(I9 ι es 0)[j]?=some {key:=o8 ι es[j].1,val:=o8 ι es[j].2,born:=0+j}:=by rw [mo];simp [g]
  have d:({key:=o8 ι es[j].1,val:=o8 ι es[j].2,born:=0+j}:MapEntry)∈L:=by rw [← hL];exact Y2 p
  rw [hl0] at hlf;have:=ahJ.1 hlf _ d;simp at this ⊢;rw [← F];simpa using this
 refine⟨.tuple #[.bool false],w1,by simp,⟨.tuple [.bool false],m⟩,by rw [y];exact aP.2 rfl,ι,?_,by simp [d9.lt,aU],by simp [o8,u6]⟩;rcases s with rfl | rfl;exact Step.refl u;exact Step.drew u _;rw [if_neg hl0] at c;have H:k<left.length:=by rw [c] at r;simpa using r
 have E:cands[k]?=some (some left[k]):=by rw [c];simp [H]
 have d:left[k]∈L∧A.contains left[k].born=false:=by have:=aeK.1 (show left[k]∈L.filter (λe=>!A.contains e.born) from by rw [hlf];exact aaO H);simpa using this
 generalize left[k]=x at *;obtain⟨j,g⟩:=aaH d.1;rw [← hL,mo] at g;cases he:es[j]? with
 | none=>simp [he] at g
 | some e=>
  simp [he] at g;subst g;have M:seen.contains (0+j)=false:=by have h2:=d.2;rw [abP] at h2 ⊢;intro C;apply h2;simp at C ⊢;have:=(F j).2 C;simpa using this
  have Z:(nexts m id mp es.length seen es 0)≠[]:=List.ne_nil_of_mem (AR he M);have a0:JV m (nexts m id mp es.length seen es 0)=nexts m id mp es.length seen es 0:=by
   cases h:nexts m id mp es.length seen es 0 with
   | nil=>exact absurd h Z
   | cons=>rfl
  have R:=sK (P:=P) (w:=w1) (o:=.mapIter (some (ι mp).b) es.length (A.push j) es.length) (by rw [f];exact S) (by intro _ _ _ e;cases e);refine⟨.tuple #[.bool true,o8 ι e.1,o8 ι e.2],{w1 with heap:=w1.heap.setIfInBounds (ι id).b (.mapIter (some (ι mp).b) es.length (A.push j) es.length)},?_,_,by rw [a0];exact AR he M,ι,Step.set (w':={w1 with heap:=w1.heap.setIfInBounds (ι id).b (.mapIter (some (ι mp).b) es.length (A.push j) es.length)}) u V q rfl rfl (o:=.mapIter (some (ι mp).b) es.length (A.push j) es.length) ⟨by rw [f],z.1,z.2.1,z.2.2⟩ ?_ (by intro _ _ _ h;cases h),?_,?_⟩;rw [E];simp [R];refine⟨b1,λx p=>?_,A.push j,es.length,?_,?_,λ_=>rfl⟩;cases p;exact Mem.nH u.ok q rfl mp ⟨_,D,rfl⟩;simpa using gW S;simp [b4];have K:=c2 e (Y2 he);have I:=Mem.aB (ι:=ι) (ι':=ι) (λi hi=>Mem.nH (b':=.iter (some mp) es.length ((0+j)::seen)) u.ok q rfl i hi) λ_ _=>rfl;exact⟨trivial,d9.O0 I _ K.1,d9.O0 I _ K.2,trivial⟩;simp [o8,u6]
theorem PX (s:St P ι (m.nm ι) slots done ls env a.tmps)(d:RM P G ι m w.heap)
  {x:Operand} {n:Q7} (C:N7 P slots done x=some n) {cf:H8} {outs:List VM} (B:nT (.next n) cf ls env m=some outs):
  ∀o:Oper,o.op=.next x false->Does P a.eval o w (aS P G ι m w outs):=by
 intro o q;obtain⟨p,t⟩:=D5 s C;obtain⟨id,off,f,h⟩:=eu B;have f:I4 n ls env=.ptr id off:=f;obtain⟨A,h⟩:=G8 h;obtain rfl:off=0:=gI A;obtain⟨l,h⟩:=jW h;rcases EB h with⟨sn',l',hit,h⟩ | ⟨mp,since,seen,hit,h⟩;cases h;obtain⟨g,D,H,I,r,E,F⟩:=d.blk id _ hit;have k:=fJ (P:=P) r (by intro _ _ _ e;cases e);have c:a.eval x=.pointer (some ⟨(ι id).b,0,none⟩):=by rw [p,f];simp [o8,J9.at,g,d.spot _ _ hit rfl]
 refine O8 (v:=.tuple #[.bool false]) (w':=w) ?_ ⟨_,aP.2 rfl,ι,Step.refl d,by simp [d9.lt,aU],by simp [o8,u6]⟩;simp [execOp,q,c,Instr.next,k];obtain⟨u,j,h⟩:=AJ h;obtain⟨i,h⟩:=G8 h;have i:u.length=since:=by rw [← K4];exact gI i
 cases h;obtain⟨g,_⟩:=d.blk id _ hit;have c:a.eval x=.pointer (some ⟨(ι id).b,0,none⟩):=by rw [p,f];simp [o8,J9.at,g,d.spot _ _ hit rfl]
 obtain⟨v,w',y,z⟩:=Wv d (jI l) hit j i o.type;refine O8 (v:=v) (w':=w') ?_ z;simp [execOp,q,c,y]
end
section
variable {P:Program}{G:Mem}{ι:J9}{m:Mem}{w:World}{slots:List Nat}{done:List (Option Nat)}{ls:List d9}{env:T d9}{a:Act}
theorem oP (l:List UInt8):bytesOf l=l.map λb=>d9.int .u8 b.toNat:=by
 induction l with
 | nil=>rfl
 | cons b l ih=>simp [bytesOf,ih]
theorem uX {v:d9}{n:Nat}(h:lenOf v=some n)(w:World):(Builtin.lenOf (o8 ι v)).run P w=.ok n w:=by cases v<;>simp only [lenOf,J4,reduceCtorEq] at h<;>subst h<;>simp [o8,Builtin.lenOf,oK]
theorem iZ (e:RM P G ι m w.heap){es n:Nat}{v:d9}{l:List d9}(h:dG m es n v=some l):
  (Builtin.firstCells es n (o8 ι v)).run P w=.ok (u6 ι l).toArray w∧aU (m.nm ι) l:=by
 cases v<;>simp only [dG,J4,reduceCtorEq] at h
 subst h;refine⟨?_,by rw [oP,cB];intro v f;obtain⟨b,_,rfl⟩:=adh.1 f;simp [d9.lt]⟩;simp only [o8,Builtin.firstCells,Z8];congr 1;simp [oP,bA,o8,Function.comp_def,ByteArray.data_extract,ahv];subst h;exact⟨by simp [o8,Builtin.firstCells,u6],trivial⟩;obtain⟨a,c,d⟩:=jY e h;exact⟨iD a d,c⟩;obtain⟨a,c,d⟩:=jY e h;exact⟨iD a d,c⟩
theorem PY (s:St P ι (m.nm ι) slots done ls env a.tmps)(z:RM P G ι m w.heap){c:Call}{t u e:TypeId}{x y:Operand}{l p:Q7}{es:Nat}(I:c.callee=.builtin .copy)
  (j:c.argTypes.toList=[t,u]) (g:c.args.toList=[x,y]) (L:P.underlying t=some (.slice e)) (q:aM P e=some es)
  (U:N7 P slots done x=some l) (V:N7 P slots done y=some p) {cf:H8} {outs:List VM} (D:nT (.copy es l p) cf ls env m=some outs):
  ∀o:Oper,o.op=.call c->Does P a.eval o w (aS P G ι m w outs):=by
 intro o K;have j:c.argTypes=#[t,u]:=by rw [← j,aaG]
 have g:c.args=#[x,y]:=by rw [← g,aaG]
 obtain⟨E,_⟩:=D5 s U;obtain⟨F,_⟩:=D5 s V;obtain⟨n,B,D⟩:=D6 D;have J:=uX (P:=P) (ι:=ι) B w;have H:∀id b d cap,o8 ι (I4 l ls env)=.slice (some (ι.at id b)) d cap->VN.go es m n id b d (I4 p ls env)=some outs->Does P a.eval o w (aS P G ι m w outs):=by intro id b d cap f h;obtain⟨A,Q,h⟩:=D6 h;obtain⟨M,N⟩:=iZ z Q;obtain⟨X,w',T,r,k⟩:=mY z h N;cases T;refine O8 (v:=.int .i64 (Nat.min n d)) (w':=w') ?_ ⟨_,aP.2 rfl,ι,k,trivial,rfl⟩;simp [execOp,K,resolve,I,g,j,invoke,builtin,Builtin.copy_,run_underlying L,E,F,f,J,run_sizeOf q,M,r,goInt]
 rcases rZ D with⟨f,h⟩ | ⟨id,b,d,cap,f,h⟩ | ⟨id,b,d,cap,f,h⟩;cases h;have f:I4 l ls env=.nilSlice:=f;have S:∃C,(Builtin.firstCells es 0 (o8 ι (I4 p ls env))).run P w=.ok C w:=by
  have W:dG m es 0 (I4 p ls env)=some []:=by generalize I4 p ls env=v at B;have O:∀i b,S9 m i b 0=some []:=λi b=>rfl;cases v<;>simp only [lenOf,reduceCtorEq] at B<;>simp [dG,bytesOf,O]
  exact⟨_,(iZ z W).1⟩
 obtain⟨C,R⟩:=S;refine O8 (v:=.int .i64 0) (w':=w) ?_ ⟨_,aP.2 rfl,ι,Step.refl z,trivial,rfl⟩;simp [execOp,K,resolve,I,g,j,invoke,builtin,Builtin.copy_,run_underlying L,E,F,f,J,run_sizeOf q,o8,goInt,R];have f:I4 l ls env=.slice id b d cap:=f;exact H id b d cap (by rw [f];rfl) h;have f:I4 l ls env=.sliceU id b d cap:=f;exact H id b d (((ι id).cap-b) / cap) (by rw [f];simp only [o8]) h
theorem zx (z:List d9)(k:Nat):Builtin.zeroCells (u6 ι z).toArray k=(u6 ι (U3 z k)).toArray:=by have:=EG (ι:=ι) z k;rw [← this];simp [Builtin.zeroCells]
theorem Nj (s:St P ι (m.nm ι) slots done ls env a.tmps)(C:RM P G ι m w.heap){c:Call}{t e:TypeId}{x:Operand}{l:Q7}{z:List d9}(p:c.callee=.builtin .clear)
  (j:c.argTypes.toList=[t]) (i:c.args.toList=[x]) (r:P.underlying t=some (.slice e)) (I:qN P e=some z)
  (H:N7 P slots done x=some l) {cf:H8} {outs:List VM} (F:nT (.clear z l) cf ls env m=some outs):
  ∀o:Oper,o.op=.call c->Does P a.eval o w (aS P G ι m w outs):=by
 intro o q;have j:c.argTypes=#[t]:=by rw [← j,aaG]
 have i:c.args=#[x]:=by rw [← i,aaG]
 obtain⟨n,_⟩:=D5 s H;obtain⟨J,u,y,A⟩:=dB (P:=P) (w:=w) I ι;have B:∀id d b cap,o8 ι (I4 l ls env)=.slice (some (ι.at id d)) b cap->jD m id d (U3 z b) (λD=>one (.tuple []) D)=some outs->Does P a.eval o w (aS P G ι m w outs):=by
  intro id d b cap f h;obtain⟨D,w',E,g,k⟩:=mY C h (sI (A _) b);cases E;refine O8 (v:=.tuple #[]) (w':=w') ?_ ⟨_,aP.2 rfl,ι,k,by simp [d9.lt,aU],by simp [o8,u6]⟩;cases b with
  | zero=>
   rw [zn] at g;have:w'=w:=by simp [u6,storeCells] at g;exact g.symm
   subst this;simp [execOp,q,resolve,p,i,j,invoke,builtin,Builtin.clear_,run_underlying r,n,f]
  | succ b=>simp [execOp,q,resolve,p,i,j,invoke,builtin,Builtin.clear_,run_underlying r,n,f,u,y,zx,g]
 rcases rZ F with⟨f,h⟩ | ⟨id,d,b,cap,f,h⟩ | ⟨id,d,b,cap,f,h⟩;cases h;have f:I4 l ls env=.nilSlice:=f;refine O8 (v:=.tuple #[]) (w':=w) ?_ ⟨_,aP.2 rfl,ι,Step.refl C,by simp [d9.lt,aU],by simp [o8,u6]⟩;simp [execOp,q,resolve,p,i,j,invoke,builtin,Builtin.clear_,run_underlying r,n,f,o8];have f:I4 l ls env=.slice id d b cap:=f;exact B id d b cap (by rw [f];rfl) h;have f:I4 l ls env=.sliceU id d b cap:=f;exact B id d b (((ι id).cap-d) / cap) (by rw [f];simp only [o8]) h
end
section
variable {P:Program}{G:Mem}{ι:J9}{m:Mem}{w:World}
theorem Step.acC {G:Mem}(h:RM P G ι m w.heap){id:Nat}{b b':P8}(A:m.lim<=id)(E:m.get id=some b)(H:U7 b=true)(V:cO b'=false){o:Obj}{w':World}
  (C:Put w w' (ι id).b o) {l:Loc} (B:l.b=(ι id).b) (Q:l.spot=none)
  (I:dK P (ι.upd m.nx l) ((((m.set id .dead).new b')).nm (ι.upd m.nx l)) (w.heap.setIfInBounds (ι id).b o) l b')
  (W:∀c e fz,o=.cells c e fz->∀k,k<c.size->¬ (fz.1<=k∧k<fz.2)):
  Step P G ι m w (ι.upd m.nx l) ((m.set id .dead).new b') w':=by
 have L:=Mem.J5 h.ok E;have s:=Mem.V9 h.ok L .dead;have r:T.Ok (m.set id .dead).t (m.set id .dead).nx:=h.ok.put id .dead L;have g:∀i,((m.set id .dead).new b').get i=if i=m.nx then some b' else if i=id then some .dead else m.get i:=λi=>by rw [Mem.L9 r,s];rfl
 have F:∀i x,m.get i=some x->i≠m.nx:=λi x d e=>by have:=Mem.J5 h.ok d;omega
 have q:∀j,m.has j->ι.upd m.nx l j=ι j:=λj ⟨x,d,_⟩=>ι.upd_ne l (F j x d);have u:∀i,m.has i->((m.set id .dead).new b').has i:=λi ⟨x,d,hv⟩=>by by_cases he:i=id;exact⟨.dead,by rw [g,if_neg (F i x d),if_pos he],rfl⟩;exact⟨x,by rw [g,if_neg (F i x d),if_neg he];exact d,hv⟩
 have z:=h.own id b A E H;have J:(ι id).b<w.heap.size:=eO (h.blk id b E) H;have f:∀i x,((m.set id .dead).new b').get i=some x->U7 x=true->(i=m.nx∧x=b')∨(i≠m.nx∧i≠id∧m.get i=some x):=λi x d a=>by rw [g] at d;split at d;cases d;exact .inl ⟨by assumption,rfl⟩;split at d;cases d;cases a;exact .inr ⟨by assumption,by assumption,d⟩
 refine⟨⟨r.push b',?_,?_,h.glim,aiZ h.limn,h.gle,λi p=>by rw [g,if_neg (by have:=h.glim;have:=h.limn;omega),if_neg (by have:=h.glim;omega)];exact h.base i p,λi p=>u i (h.ghas i p),λi p=>by rw [q i (h.ghas i p)];exact h.glob i p,λi x d a=>by
   rcases f i x d a with⟨rfl,_⟩ | ⟨h1,_,h3⟩;rw [ι.Z0];exact Q;rw [ι.upd_ne l h1];exact h.spot i x h3 a,h.MO λD N R=>by
   rw [C.heap,getElem?_set_ne];intro e;exact R ⟨id,b,A,E,H,e⟩⟩,q,u,amc _,rfl,?_,by rw [C.heap];simp,?_,?_,C.os,C.out,C.tape⟩
 intro i x d;rw [g] at d;rw [C.heap];split at d;rename_i e;subst e;cases d;simpa using I;rename_i e;split at d;cases d;trivial;rename_i U;rw [ι.upd_ne l e];exact (h.blk i x d).mono (n:=m.nm ι) q (Mem.aB u q) (λa=>getElem?_set_ne _ _ _ _ (λM=>z.alone i x U d a M.symm));intro i x p d a;have p:m.lim<=i:=p;rcases f i x d a with⟨rfl,rfl⟩ | ⟨h1,h2,h3⟩;refine⟨λj y O S v=>?_,λc e fz K=>?_⟩;rcases f j y S v with⟨h4,_⟩ | ⟨h4,h5,h6⟩;exact absurd h4 O;rw [ι.upd_ne l h4,ι.Z0,B];exact z.alone j y h5 h6 v;rw [ι.Z0,B,C.heap,Y7 J] at K;exact W c e fz (Y5 K);refine⟨λj y O S v=>?_,λc e fz K=>?_⟩;rw [ι.upd_ne l h1];rcases f j y S v with⟨rfl,_⟩ | ⟨h4,h5,h6⟩;rw [ι.Z0,B];exact (h.own i x p h3 a).alone id b (λe=>h2 e.symm) E H;rw [ι.upd_ne l h4];exact (h.own i x p h3 a).alone j y O h6 v;rw [ι.upd_ne l h1,C.heap,getElem?_set_ne _ _ _ _ (λM=>z.alone i x h2 h3 a M.symm)] at K;exact (h.own i x p h3 a).free c e fz K;intro i p;rw [g,if_neg (by have:=h.limn;omega),if_neg (by omega)];intro D _ R;rw [C.heap,getElem?_set_ne];intro e;exact R ⟨id,b,A,E,H,e⟩;rintro D ⟨i,x,p,d,a,rfl⟩;rcases f i x d a with⟨rfl,rfl⟩ | ⟨h1,h2,h3⟩;rw [ι.Z0,B];exact .inl ⟨id,b,A,E,H,rfl⟩;rw [ι.upd_ne l h1];exact .inl ⟨i,x,p,h3,a,rfl⟩
def Fits (P:Program)(ι:J9)(m:Mem)(es need:Nat)(cells:List d9)(b':P8):Prop:=
 cO b'=false∧∀(ι':J9) (n':Nm) (h':Array Obj) (l':Loc) (c':Array Value) (e:TypeId) (fz:Nat×Nat),(m.nm ι).le n'->(∀i,m.has i->ι' i=ι i)->
  h'[l'.b]?=some (.cells c' e fz)->l'.base+l'.cap<=c'.size->need*es<=l'.cap->(∀(j:Nat) (v:d9),cells[j]?=some v->c'[l'.base+j]?=some (o8 ι v))->dK P ι' n' h' l' b'
theorem vW {es need:Nat}{cells:List d9}{h:List (List d9)}(C:rowsOf es need cells=some h)(f:aU (m.nm ι) cells):Fits P ι m es need cells (.cells es need (T.ofList h)):=by
 refine⟨rfl,λD G E F t e u o c B b a k=>?_⟩;obtain⟨x,y,z⟩:=iE _ _ _ _ C;refine⟨t,e,u,B,b,⟨a,h.length,by omega,T.gG h,by rw [← y];exact uM (T.gG h)⟩,λi s=>?_⟩;obtain⟨p,w,q,r⟩:=z i s;refine⟨p,by rw [T.aD];exact w,q,cB.2 λv g=>?_,λj d=>?_⟩;obtain⟨j,d⟩:=aaH g;have l:j<es:=ahc (J2.1 d).1 q;rw [r j l] at d;exact d9.O0 o _ (P5 f (Y2 d));rw [r j d];have A:i*es+j<cells.length:=by
  rw [x]
  calc i*es+j<i*es+es:=by omega
   _=(i+1)*es:=by rw [adf]
   _<=need*es:=aaC _ s
 have g:=J3 A;rw [k _ _ g,g,acu,R4 (n:=m.nm ι) c _ (P5 f (Y2 g))]
theorem TK (o:RM P G ι m w.heap){id es k:Nat}{rows:T (List d9)}(n:m.get id=some (.cells es k rows)):∀len,len<=k->
  ∃l:List d9,l.length=len*es∧aU (m.nm ι) l∧oM ι w id 0 l∧∀i,i<len->∃row,rows.get i=some row∧row.length=es∧∀j,j<es->l[i*es+j]?=row[j]?:=by
 intro len;induction len with
 | zero=>intro _;exact⟨[],by simp,trivial,λj v a=>by simp at a,λi u=>by omega⟩
 | succ len ih=>
  intro y;obtain⟨l,h,q,r,s⟩:=ih (by omega);obtain⟨c,e,C,_,_,_,t⟩:=o.blk id _ n;obtain⟨row,f,g,p,_⟩:=t len (by omega);refine⟨l++row,by simp [h,g,adf],cB.2 λv a=>?_,λj v a=>?_,λi u=>?_⟩;rcases aaD.1 a with a | a;exact P5 q a;exact P5 p a;by_cases d:j<l.length;rw [Z9 d] at a;exact r j v a;rw [aaL (by omega)] at a;have x:=(J2.1 a).1;have:=(Ko o n (i:=len) (by omega) (by omega:j-l.length<es) f a).1
  rwa [show len*es+(j-l.length)=0+j from by omega] at this
  by_cases hil:i<len;obtain⟨b,z,A,B⟩:=s i hil;refine⟨b,z,A,λj d=>?_⟩;have:i*es+j<l.length:=by
   rw [h]
   calc i*es+j<i*es+es:=by omega
    _=(i+1)*es:=by rw [adf]
    _<=len*es:=aaC _ hil
  rw [Z9 this];exact B j d;obtain rfl:i=len:=by omega
  refine⟨row,f,g,λj d=>?_⟩;rw [aaL (by omega)];congr 1;omega
theorem Ww (K:RM P G ι m w.heap){id es k len:Nat}{rows:T (List d9)}(I:m.get id=some (.cells es k rows))(y:len<=k)(z:0<len){l new:List d9}(J:l.length=len*es)
  (p:∀i,i<len->∃row,rows.get i=some row∧row.length=es∧∀j,j<es->l[i*es+j]?=row[j]?) (x:new.length=es) (t:aU (m.nm ι) l) (g:aU (m.nm ι) new):
  Fits P ι m es (len+1) (l++new) (.cells es (len+1) (rows.put len new)):=by
 obtain⟨_,_,_,_,_,⟨_,N,R,c,_⟩,_⟩:=K.blk id _ I;refine⟨rfl,λO V Q U C e D s f H r o q=>⟨C,e,D,H,r,⟨o,?_⟩,λi S=>?_⟩⟩;rcases afq len N with h | h;exact⟨N,by omega,c.put _ _ h,λM E=>by omega⟩;obtain rfl:len=N:=by omega
 exact⟨len+1,q9 _,c.push _,λM E=>by omega⟩;by_cases hil:i=len;subst hil;refine⟨new,T.aY c _ _ (by omega),x,dJ s _ g,λj a=>?_⟩;have d:new[j]?=some new[j]:=J3 (by omega);have:(l++new)[i*es+j]?=some new[j]:=by rw [aaL (by omega),← d];congr 1;omega
 rw [q _ _ this,d,acu,R4 (n:=m.nm ι) f _ (P5 g (Y2 d))];obtain⟨row,L,A,B⟩:=p i (by omega);have b:∀j,j<es->i*es+j<l.length:=λj a=>by
  rw [J]
  calc i*es+j<i*es+es:=by omega
   _=(i+1)*es:=by rw [adf]
   _<=len*es:=aaC _ (by omega)
 refine⟨row,by rw [T.bH c _ _ _ (by omega) (λe=>hil e.symm)];exact L,A,cB.2 λv d=>?_,λj a=>?_⟩;obtain⟨j,a⟩:=aaH d;have u:j<es:=ahc (J2.1 a).1 A;rw [← B j u] at a;exact d9.O0 s _ (P5 t (Y2 a));have d:l[i*es+j]?=some (l[i*es+j]'(b j a)):=J3 (b j a);have F:(l++new)[i*es+j]?=some (l[i*es+j]'(b j a)):=by rw [Z9 (b j a)];exact d
 rw [q _ _ F,← B j a,d,acu,R4 (n:=m.nm ι) f _ (P5 t (Y2 d))]
end
section
variable {P:Program}{G:Mem}{ι:J9}{m:Mem}{w:World}{a:Act}
theorem Iw (need:Nat):∀(r c:Nat),Builtin.growBy need r c<=max c (need+(need+768) / 4)
 | 0,c=>by simp only [Builtin.growBy];omega
 | r+1,c=>by simp only [Builtin.growBy];split;omega;have:=Iw need r (c+(c+768) / 4);omega
theorem nextslicecap_le (need old:Nat)(h:old<need):Builtin.nextslicecap need old<=2*need+2048:=by unfold Builtin.nextslicecap;split;omega;split;omega;have:=Iw need 4 old;omega
def EN:TypeDesc->Bool
 | .int _=>true
 | _=>false
def adW (P:Program)(w:World)(zs:Bool)(by' n:Nat)(x:Value):Prop:=
 (zs=false∧(Builtin.lenOf x).run P w=.ok n w)∨(zs=true∧(∃k,x=.int k n)∧n<9223372036854775808∧n*by'<=281474976710656)
def kg (zs:Bool)(e:TypeId)(es sLen sCap:Nat)(base:Option Addr)(x:Value)(n:Nat):Sem Value:=do
 let appended:Sem (Array Value):=
  if !zs then Builtin.firstCells es n x
  else if n*es=0 then pure #[]
  else do pure (Builtin.zeroCells (← zeroValue e).cells n)
 let need:=sLen+n
 if need<=sCap then
  let new ← appended
  if let some a:=base then storeCells (a.add (sLen*es)) new.toList
  pure (.slice base need sCap)
 else
  if (need:Int)>IntKind.i64.max∧(zs∨(← typeInfo e).bytes=0) then runtimePanic (.error "growslice: len out of range")
  if Builtin.nextslicecap need sCap*(← typeInfo e).bytes>2^48 then (if zs then runtimePanic (.error "growslice: len out of range") else do
   if !(← Builtin.mayShare es sLen n base x) then mark .noRoom
   unsupported (.resourceLimit "append: a slice or a string whose bytes no memory bears"))
  let newCap ← choose (.appendCap need sCap e)
  askRoom (newCap*(← typeInfo e).bytes)
  let old ← Builtin.firstCells es sLen (.slice base sLen sCap)
  let new ← appended
  let rest:=Builtin.zeroCells (← zeroValue e).cells (newCap-need)
  pure (.slice (some (← newRow e (old++new++rest))) need newCap)
theorem Cb {t u e T:TypeId}{d:TypeDesc}{es a n sLen sCap:Nat}{base:Option Addr}{x:Value}(o:P.underlying t=some (.slice e))(c:aM P e=some es)(m:P.underlying u=some d)
  (i:fZ P e=some a) (p:adW P w (EN d) a n x):
  (Builtin.append_ #[t,u] T #[.slice base sLen sCap,x]).run P w=(kg (EN d) e es sLen sCap base x n).run P w:=by
 obtain⟨g,j,l⟩:=vT (w:=w) i;rcases p with⟨hz,h1⟩ | ⟨hz,⟨k,rfl⟩,h2,h3⟩;cases d with
 | int=>cases hz
 | _=>simp only [Builtin.append_,ad1,akz,adz,Xl,run_underlying o,K9,run_sizeOf c,run_underlying m,Z8,abQ,if_false,h1,kg,EN];rfl
 cases d with
 | int k'=>
  have q:IntKind.i64.wrap (n:Int)=n:=yY _ ⟨by omega,by omega⟩;have b:¬ ((n:Int)*(g.bytes:Int)>2^48):=by
   rw [l];have:((n*a:Nat):Int)=(n:Int)*(a:Int):=by simp
   rw [← this];have h:(2:Int)^48=281474976710656:=rfl;rw [h];omega
  have f:¬ ((n:Int)<0):=by omega
  simp only [Builtin.append_,ad1,akz,adz,Xl,run_underlying o,K9,run_sizeOf c,run_underlying m,Z8,if_true,asInt,asIntOf,q,f,if_false,j,b,aja,kg,EN];rfl
 | _=>cases hz
theorem ko {zs:Bool}{e:TypeId}{es sLen sCap n:Nat}{base:Option Addr}{x:Value}{new:List Value}{w':World}(b:sLen+n<=sCap)
  (c:(if (!zs)=true then Builtin.firstCells es n x else if n*es=0 then pure #[] else do pure (Builtin.zeroCells (← zeroValue e).cells n):Sem (Array Value)).run P w=.ok new.toArray w)
  (a:match base with | some ad=>(storeCells (ad.add (sLen*es)) new 0).run P w=.ok () w' | none=>w'=w):
  (kg zs e es sLen sCap base x n).run P w=.ok (.slice base (sLen+n) sCap) w':=by
 unfold kg;simp only [b,if_true];rw [Xl,c,K9];cases base with
 | none=>subst a;simp
 | some ad=>simp only [] at a;simp [a]
theorem ku {zs:Bool}{e:TypeId}{es by' sLen sCap n:Nat}{base:Option Addr}{x:Value}{z:List d9}{old new:List Value}(i:fZ P e=some by')(G:qN P e=some z)
  (f:¬ sLen+n<=sCap) (A:(2*(sLen+n)+2048)*by'<=281474976710656) (j:1<=by')
  (m:∀w':World,w'.heap=w.heap->(Builtin.firstCells es sLen (.slice base sLen sCap)).run P w'=.ok old.toArray w')
  (l:∀w':World,w'.heap=w.heap->(if (!zs)=true then Builtin.firstCells es n x else if n*es=0 then pure #[] else do pure (Builtin.zeroCells (← zeroValue e).cells n):Sem (Array Value)).run P w'=.ok new.toArray w'):
  ∃(capN:Nat) (rest:List Value),sLen+n<=capN∧rest.length=(capN-(sLen+n))*z.length∧
   (kg zs e es sLen sCap base x n).run P w=.ok (.slice (some ⟨w.heap.size,0,none⟩) (sLen+n) capN)
    {w with heap:=w.heap.push (.cells (old++new++rest).toArray e),drawn:=w.drawn+1}:=by
 obtain⟨g,s,t⟩:=vT (w:=w) i;have F:(2*(sLen+n)+2048)*1<=(2*(sLen+n)+2048)*by':=Nat.mul_le_mul_left _ j;have h:=nextslicecap_le (sLen+n) sCap (by omega);have B:Builtin.nextslicecap (sLen+n) sCap*by'<=(2*(sLen+n)+2048)*by':=aaC _ h;have C:¬ (((sLen+n:Nat):Int)>IntKind.i64.max):=by have:IntKind.i64.max=9223372036854775807:=rfl;rw [this];omega
 have D:¬ (Builtin.nextslicecap (sLen+n) sCap*g.bytes>2^48):=by rw [t];have o:(2:Nat)^48=281474976710656:=rfl;rw [o];omega
 obtain⟨H,u,v,_⟩:=dB (P:=P) (w:={w with drawn:=w.drawn+1}) G (λ_=>⟨0,0,0,none⟩);refine⟨sLen+n+w.tape w.drawn (.appendCap (sLen+n) sCap e)%(2^63-(sLen+n)),(Builtin.zeroCells H.cells (sLen+n+w.tape w.drawn (.appendCap (sLen+n) sCap e)%(2^63-(sLen+n))-(sLen+n))).toList,by omega,?_,?_⟩;simp [Builtin.zeroCells,v];unfold kg;simp only [f,if_false];have k:∀w',(typeInfo e).run P w'=.ok g w':=by
  intro w';obtain⟨I,y,_⟩:=vT (w:=w') i;have E:∀c d:World,∀a b,(typeInfo e).run P c=.ok a c->(typeInfo e).run P d=.ok b d->a=b:=by intro c d a b p q;unfold typeInfo at p q;simp only [Xl,run_program,K9] at p q;split at p<;>split at q<;>simp_all
  rw [y,E w' w _ _ y s]
 have r:∀w':World,(choose (.appendCap (sLen+n) sCap e)).run P w'=.ok (sLen+n+w'.tape w'.drawn (.appendCap (sLen+n) sCap e)%(2^63-(sLen+n))) {w' with drawn:=w'.drawn+1}:=by intro w';rw [run_choose];simp [Question.forced,Question.cut]
 simp only [Xl,k,K9,C,D,false_and,if_false,Z8,r,run_askRoom,m {w with drawn:=w.drawn+1} rfl,l {w with drawn:=w.drawn+1} rfl,u,dR];simp only [akC,← List.append_toArray,aaG]
theorem EO (l:RM P G ι m w.heap){es need capN:Nat}{cells:List d9}{b':P8}(f:Fits P ι m es need cells b'){c:Array Value}{e:TypeId}{w':World}
  (p:Wm w w' (.cells c e)) (n:c.size=capN*es) (d:need<=capN) (g:∀(j:Nat) (v:d9),cells[j]?=some v->c[j]?=some (o8 ι v)):
  Step P G ι m w (ι.upd m.nx ⟨w.heap.size,0,capN*es,none⟩) (m.new b') w':=by
 obtain⟨o,f⟩:=f;have a:=Laid.new l.ok l.limn b' o;have b:∀j,m.has j->(ι.upd m.nx ⟨w.heap.size,0,capN*es,none⟩) j=ι j:=λj i=>ι.upd_ne _ λh=>a.free (h▸i);refine Step.lay l a p rfl rfl ?_ ?_;refine f _ _ _ _ c e _ (Mem.aB a.has b) b dF ?_ ?_ λj v i=>?_;show 0+capN*es<=c.size;omega;exact aaC _ d;rw [aaF];exact g j v i;intro q r s h k t;cases h;simp
theorem Fits.kill (o:RM P G ι m w.heap){es need q:Nat}{cells:List d9}{b' g:P8}(d:Fits P ι m es need cells b')(p:m.lim<=q)(l:m.get q=some g):Fits P ι (m.set q .dead) es need cells b':=by have f:=Step.kill o p l;refine⟨d.1,λc s k r h e j b a=>d.2 c s k r h e j (Nm.le_trans (Mem.aB f.has λ_ _=>rfl) b) λi n=>a i (f.has i n)⟩
theorem TL (f:RM P G ι m w.heap){es need capN q:Nat}{cells:List d9}{b' i:P8}(k:Fits P ι m es need cells b')(g:m.lim<=q)(d:m.get q=some i){c:Array Value}{e:TypeId}{w':World}
  (l:Wm w w' (.cells c e)) (h:c.size=capN*es) (a:need<=capN) (b:∀(j:Nat) (v:d9),cells[j]?=some v->c[j]?=some (o8 ι v)):
  Step P G ι m w (ι.upd m.nx ⟨w.heap.size,0,capN*es,none⟩) ((m.set q .dead).new b') w':=
 (Step.kill f g d).trans (EO (Step.kill f g d).rm (Fits.kill f k g d) l h a b)
theorem ZP (A:RM P G ι m w.heap){q rs k:Nat}{rows:T (List d9)}(K:m.lim<=q)(H:m.get q=some (.cells rs k rows)){c:Array Value}{e:TypeId}{f:Nat×Nat}(F:w.heap[(ι q).b]?=some (.cells c e f))
  {B C len n es:Nat} {old new:List d9} {b':P8} (D:B+C<=c.size) (g:(len+n)*es<=C) (Q:old.length=len*es) (O:new.length=n*es) (s:J8 new=true)
  (r:∀(j:Nat) (v:d9),old[j]?=some v->c[B+j]?=some (o8 ι v)) (E:Fits P ι m es (len+n) (old++new) b'):
  ∃w',(storeCells ⟨(ι q).b,B+len*es,none⟩ (u6 ι new) 0).run P w=.ok () w'∧
   Step P G ι m w (ι.upd m.nx ⟨(ι q).b,B,C,none⟩) ((m.set q .dead).new b') w':=by
 have t:=A.own q _ K H rfl;have l:=t.free c e f F;have L:(len+n)*es=len*es+n*es:=ad8 _ _ _;have x:=oO (P:=P) (u6 ι new) c (B+len*es) 0 w F (by simp;omega) l (λv z=>by
  rw [bA] at z;obtain⟨u,R,rfl⟩:=adh.1 z;exact AP (qg s u R))
 refine⟨_,x,?_⟩;obtain⟨z,E⟩:=E;have I:=Step.kill A K H;have d:=Laid.new I.rm.ok I.rm.limn b' z;have a:∀j,m.has j->(ι.upd m.nx ⟨(ι q).b,B,C,none⟩) j=ι j:=λj ⟨y,hy,_⟩=>ι.upd_ne _ λh=>by have:=Mem.J5 A.ok hy;omega
 refine Step.acC (o:=.cells (over c (B+len*es+0) (u6 ι new)) e f) (w':={w with heap:=w.heap.setIfInBounds (ι q).b (.cells (over c (B+len*es+0) (u6 ι new)) e f)}) A K H rfl z ⟨rfl,rfl,rfl,rfl⟩ rfl rfl ?_ ?_;refine E _ _ _ _ _ e f (Mem.aB (λi N=>d.has i (I.has i N)) a) a (gW F) ?_ g λj v p=>?_;simpa using D;show (over c (B+len*es+0) (u6 ι new))[B+j]?=some (o8 ι v);rw [zq _ _ _ (by simp;omega)];by_cases h1:j<old.length;rw [Z9 h1] at p;rw [if_pos (by omega)];exact r j v p;rw [aaL (by omega)] at p;have W:=(J2.1 p).1;rw [if_neg (by omega),if_pos (by simp;omega),aL,show B+j-(B+len*es+0)=j-old.length from by omega,p];rfl;intro U V M h S J;cases h;exact l S (by simpa using J)
theorem nX {w':World}{l:Loc}{m':Mem}(d:l.spot=none)(f:Step P G ι m w (ι.upd m.nx l) m' w')(g:m'.has m.nx){es need:Nat}(c:1<=es)(e:need*es<=l.cap){cap:Nat}(a:cap=l.cap / es):
  aS P G ι m w [⟨.sliceU m.nx 0 need es,m'⟩] (.slice (some ⟨l.b,l.base,none⟩) need cap) w':=by
 refine⟨_,aP.2 rfl,_,f,⟨g,c,?_⟩,?_⟩;show 0+need*es<=((ι.upd m.nx l) m.nx).cap;rw [J9.Z0];omega;simp [o8,J9.at,a,d]
theorem Kw (h:T.Ok m.t m.nx){b:P8}(hb:cO b=false):(m.new b).has m.nx:=⟨b,by rw [Mem.L9 h,if_pos rfl],hb⟩
theorem uY {n bytes es:Nat}(h:big n bytes es=true):(2*n+2048)*bytes<=281474976710656∧1<=es∧1<=bytes:=by
 unfold big at h;cases h1:Nat.ble (Nat.mul (Nat.add (Nat.mul 2 n) 2048) bytes) 281474976710656 with
 | false=>rw [h1] at h;cases h
 | true=>
  rw [h1] at h;cases h2:Nat.ble 1 es with
  | false=>rw [h2] at h;cases h
  | true=>rw [h2] at h;exact⟨X8 h1,X8 h2,X8 h⟩
theorem Wx {β:Type}{b:Option P8}{c:Nat->Nat->T (List d9)->Option β}{k:Nat->Option β}{r:β}(h:Ea b c k=some r):
  (∃rs n rows,b=some (.cells rs n rows)∧c rs n rows=some r)∨∃p,b=some (.tail p)∧k p=some r:=by
 unfold Ea at h;split at h;exact .inl ⟨_,_,_,rfl,h⟩;exact .inr ⟨_,rfl,h⟩;cases h
theorem zy {es n:Nat}{cells:List d9}{outs:List VM}(h:grown m es n cells=some outs):∃rl,rowsOf es n cells=some rl∧outs=[⟨.sliceU m.nx 0 n es,m.new (.cells es n (T.ofList rl))⟩]:=by obtain⟨rl,a,h⟩:=D6 h;cases h;exact⟨rl,a,rfl⟩
theorem Nk {α:Type}{b:Bool}{x y:Option α}{r:α}(h:bi b x y=some r):(b=true∧x=some r)∨(b=false∧y=some r):=by
 cases b with
 | true=>exact .inl ⟨rfl,h⟩
 | false=>exact .inr ⟨rfl,h⟩
theorem Iy {a b:Nat}(h:Nat.ble a b=false):¬ a<=b:=λc=>by rw [Z4 c] at h;cases h
end
section
variable {P:Program}{G:Mem}{ι:J9}{m:Mem}{w:World}{slots:List Nat}{done:List (Option Nat)}{ls:List d9}{env:T d9}{a:Act}
theorem RG (f:RM P G ι m w.heap){id rs k:Nat}{rows:T (List d9)}(d:m.get id=some (.cells rs k rows)):∃c e fz,w.heap[(ι id).b]?=some (.cells c e fz)∧(ι id).base+(ι id).cap<=c.size∧
  ∀j v,w.cell? (ι.at id j)=some v->c[(ι id).base+j]?=some v:=by
 obtain⟨c,e,fz,a,g,_⟩:=f.blk id _ d;refine⟨c,e,fz,a,g,λj v h=>?_⟩;simpa [World.cell?,J9.at,a,f.spot id _ d rfl] using h
theorem Nl (o:RM P G ι m w.heap){e:TypeId}{es E n:Nat}{z:List d9}(hz:CY P e=some z)(ad:aM P e=some es)(U:fZ P e=some E)
  {zs:Bool} {x:Value} {new:List d9} (i:aU (m.nm ι) new) (a2:n=0->new=[])
  (g:∀w':World,w'.heap=w.heap->(if (!zs)=true then Builtin.firstCells es n x else if n*es=0 then pure #[] else do pure (Builtin.zeroCells (← zeroValue e).cells n):Sem (Array Value)).run P w'=.ok (u6 ι new).toArray w')
  {sv:d9} (a9:sv.lt (m.nm ι)) {outs:List VM} (h:wR m es E n new sv=some outs):
  ∃base sLen sCap v w',o8 ι sv=.slice base sLen sCap∧(kg zs e es sLen sCap base x n).run P w=.ok v w'∧aS P G ι m w outs v w':=by
 obtain⟨Z,aa⟩:=nW hz;obtain rfl:es=z.length:=by rw [ad] at aa;exact Y5 aa
 rcases rZ h with⟨rfl,h⟩ | ⟨id,off,len,cap,rfl,h⟩ | ⟨id,off,len,es',rfl,h⟩
 ·
  refine⟨none,0,0,?_⟩;cases n with
  | zero=>have h:one .nilSlice m=some outs:=h;cases h;obtain rfl:=a2 rfl;exact⟨.slice none 0 0,w,rfl,ko (q9 0) (g w rfl) rfl,_,aP.2 rfl,ι,Step.refl o,trivial,rfl⟩
  | succ n=>
   have h:bi (big (n+1) E z.length) (grown m z.length (n+1) new) none=some outs:=h;obtain⟨L,h⟩:=G8 h;obtain⟨b1,D,b3⟩:=uY L;obtain⟨rl,I,rfl⟩:=zy h;obtain⟨capN,f,r1,r2,r3⟩:=ku (P:=P) (w:=w) (zs:=zs) (e:=e) (es:=z.length) (sLen:=0) (sCap:=0) (base:=none) (x:=x) (n:=n+1) (old:=[]) U Z (by omega) (by simpa using b1) b3
    (λw' _=>by simp [Builtin.firstCells]) g
   have d:=(iE _ _ _ _ I).1;have s:=EO o (vW I i) (c:=([]++u6 ι new++f).toArray) (e:=e) (w':={w with heap:=w.heap.push (.cells ([]++u6 ι new++f).toArray e),drawn:=w.drawn+1}) ⟨rfl,rfl,rfl,rfl⟩ (capN:=capN)
    (by simp only [aeM,aar,ahd,V5,d,r2,aaF];rw [← ad8];congr 1;omega) (by omega)
    (λj v t=>by
     have y:=(J2.1 t).1;simp only [afs,ad1];rw [Z9 (by simpa using y),aL,t];rfl)
   refine⟨_,_,rfl,r3,?_⟩;have:=nX rfl s (Kw o.ok rfl) D (need:=n+1) (aaC _ (by omega)) (cap:=capN) (by show capN=capN*z.length / z.length;rw [ahz _ D]);simpa using this
 ·
  refine⟨some (ι.at id off),len,cap,?_⟩;have h:bi (Nat.ble (len+n) cap) (jD m id (off+len*z.length) new λm'=>one (.slice id off (len+n) cap) m')
   (bi (big (len+n) E z.length) (ob (S9 m id off (len*z.length)) λold=>grown m z.length (len+n) (aC old new)) none)=some outs:=h
  rcases Nk h with⟨hf,h⟩ | ⟨hf,h⟩;obtain⟨m',w',hk,a6,s⟩:=mY o h i;cases hk;exact⟨_,w',rfl,ko (X8 hf) (g w rfl) (by simp only [J9.oJ];exact a6),_,aP.2 rfl,ι,s,s.has id a9,by simp [o8]⟩;obtain⟨L,h⟩:=G8 h;obtain⟨b1,D,b3⟩:=uY L;obtain⟨old,ho,h⟩:=D6 h;rw [R8] at h;obtain⟨rl,I,rfl⟩:=zy h;obtain⟨o1,o2,o3⟩:=jY o ho;obtain⟨capN,f,r1,r2,r3⟩:=ku (P:=P) (w:=w) (zs:=zs) (e:=e) (es:=z.length) (sLen:=len) (sCap:=cap) (base:=some (ι.at id off)) (x:=x) (n:=n) (old:=u6 ι old) U Z (Iy hf) b1 b3
   (λw' hw=>iD o1 (λj v t=>by have:=o3 j v t;simpa [World.cell?,hw] using this)) g
  have W:aU (m.nm ι) (old++new):=cB.2 λv hv=>(aaD.1 hv).elim (P5 o2) (P5 i);have d:=(iE _ _ _ _ I).1;have s:=EO o (vW I W) (c:=(u6 ι old++u6 ι new++f).toArray) (e:=e) (w':={w with heap:=w.heap.push (.cells (u6 ι old++u6 ι new++f).toArray e),drawn:=w.drawn+1}) ⟨rfl,rfl,rfl,rfl⟩ (capN:=capN)
   (by
    rw [aar] at d;simp only [aeM,aar,V5,d,r2];rw [← ad8];congr 1;omega) (by omega)
   (λj v t=>by
    have y:=(J2.1 t).1;rw [aar] at y;rw [ad1,Z9 (by simpa using y),bA,bA,← abN,aaM,t];rfl)
  refine⟨_,_,rfl,r3,?_⟩;exact nX rfl s (Kw o.ok rfl) D (need:=len+n) (aaC _ (by omega)) (cap:=capN) (by show capN=capN*z.length / z.length;rw [ahz _ D])
 ·
  obtain⟨ah,a7,Y⟩:=a9;have Y:off+len*es'<=(ι id).cap:=Y;have M:len<=((ι id).cap-off) / es':=(aeF a7).2 (by omega);refine⟨some (ι.at id off),len,((ι id).cap-off) / es',?_⟩;cases n with
  | zero=>have h:one (.sliceU id off len es') m=some outs:=h;cases h;obtain rfl:=a2 rfl;refine⟨_,w,rfl,ko (w':=w) M (g w rfl) (by simp [u6,storeCells]),_,aP.2 rfl,ι,Step.refl o,⟨ah,a7,Y⟩,by simp [o8]⟩
  | succ n=>
   have h:bi (Nat.beq z.length es') (bi (big (len+(n+1)) E z.length) (bi (Nat.ble m.lim id) (bi (J8 new)
    (Ea (m.get id)
     (λJ k a=>
      bi (bi (Nat.beq J z.length) (bi (Nat.beq off 0) (bi (Nat.ble len k) (bi (Nat.beq (n+1) 1) (bi (Nat.beq (len' new) z.length) (Nat.blt 0 len) false) false) false) false) false)
       (one (.sliceU m.nx 0 (Nat.succ len) z.length) ((m.set id .dead).new (.cells z.length (Nat.succ len) (a.put len new))))
       (ob (M0 J k a (len*z.length) off) λold=>grown (m.set id .dead) z.length (len+(n+1)) (aC old new)))
     (λp=>U1 (m.get p) λ_ _ _=>bi (Nat.ble m.lim p) (bi (Nat.beq len 0) (grown (m.set p .dead) z.length (n+1) new) none) none)) none) none) none) none=some outs:=h
   obtain⟨q1,k1⟩:=G8 h;clear h;obtain rfl:=gI q1;obtain⟨q2,k2⟩:=G8 k1;obtain⟨b1,D,b3⟩:=uY q2;obtain⟨q3,k3⟩:=G8 k2;have Q:m.lim<=id:=X8 q3;obtain⟨a5,h⟩:=G8 k3;clear k1 k2 k3;have F:∀(q J k:Nat) (a:T (List d9)),m.lim<=q->m.get q=some (.cells J k a)->∀(B C:Nat) (old:List d9) (b':P8),C=(ι id).cap-off->
     ((ι id).b=(ι q).b∨C=0)->B=(ι id).base+off->(C≠0->B+C<=(ι q).base+(ι q).cap)->(C≠0->(ι id).spot=none)->old.length=len*z.length->new.length=(n+1)*z.length->aU (m.nm ι) old->oM ι w id off old->
     Fits P ι m z.length (len+(n+1)) (old++new) b'->outs=[⟨.sliceU m.nx 0 (len+(n+1)) z.length,(m.set q .dead).new b'⟩]->
     ∃v w',o8 ι (.sliceU id off len z.length)=.slice (some (ι.at id off)) len (((ι id).cap-off) / z.length)∧
      (kg zs e z.length len (((ι id).cap-off) / z.length) (some (ι.at id off)) x (n+1)).run P w=.ok v w'∧aS P G ι m w outs v w':=by
    intro q J k a hq u B C old b' hC L hB ac a8 X N ai a3 hF r;subst r;have a4:=(Step.kill o hq u).rm;have O:((m.set q .dead).new b').has m.nx:=Kw (m:=m.set q .dead) a4.ok hF.1;by_cases hfit:len+(n+1)<=((ι id).cap-off) / z.length;have H:(len+(n+1))*z.length<=C:=(by rw [hC];exact (aeF D).1 hfit);have R:C≠0:=by have:1*1<=(len+(n+1))*z.length:=amd (by omega) D;omega
    have L:=L.resolve_right R;have A:=a8 R;obtain⟨c,a0,fz,c1,c2,c3⟩:=RG o u;obtain⟨w',g1,g2⟩:=ZP o hq u c1 (B:=B) (C:=C) (len:=len) (n:=n+1) (es:=z.length) (old:=old) (new:=new) (b':=b') (by have:=ac R;omega) H X N a5
     (λj v t=>by
      have:=a3 j v t;simp only [World.cell?,J9.at,L,c1,A] at this;rw [hB,agk];simpa using this) hF
    refine⟨_,w',by simp [o8],ko hfit (g w rfl) (by
     have:(ι.at id off).add (len*z.length)=⟨(ι q).b,B+len*z.length,none⟩:=(by simp [J9.at,Addr.add,L,hB,A]);simp only [this];exact g1),?_⟩
    have:=nX rfl g2 O D (need:=len+(n+1)) H (cap:=((ι id).cap-off) / z.length) (by show _=C / z.length;rw [hC]);have S:ι.at id off=⟨(ι q).b,B,none⟩:=(by simp [J9.at,L,hB,A]);rw [S];exact this;obtain⟨capN,f,r1,r2,r3⟩:=ku (P:=P) (w:=w) (zs:=zs) (e:=e) (es:=z.length) (sLen:=len) (sCap:=((ι id).cap-off) / z.length) (base:=some (ι.at id off)) (x:=x) (n:=n+1) (old:=u6 ι old) U Z hfit b1 b3
     (λw' hw=>iD X (λj v t=>by have:=a3 j v t;simpa [World.cell?,hw] using this)) g
    have s:=TL o hF hq u (c:=(u6 ι old++u6 ι new++f).toArray) (e:=e) (w':={w with heap:=w.heap.push (.cells (u6 ι old++u6 ι new++f).toArray e),drawn:=w.drawn+1}) ⟨rfl,rfl,rfl,rfl⟩ (capN:=capN)
     (by
      simp only [aeM,aar,V5,X,N,r2];rw [← ad8,← ad8];congr 1;omega) (by omega)
     (λj v t=>by
      have y:=(J2.1 t).1;rw [aar] at y;rw [ad1,Z9 (by simpa using y),bA,bA,← abN,aaM,t];rfl)
    refine⟨_,_,by simp [o8],r3,?_⟩;exact nX rfl s O D (need:=len+(n+1)) (aaC _ (by omega)) (cap:=capN) (by show capN=capN*z.length / z.length;rw [ahz _ D])
   rcases Wx h with⟨J,k,a,u,h⟩ | ⟨p,u,h⟩
   ·obtain⟨cc,a0,ab,c1,c2,c3⟩:=RG o u;rcases Nk h with⟨hf,h9⟩ | ⟨_,h⟩
    ·
     clear h;have ae:J=z.length∧off=0∧len<=k∧n=0∧new.length=z.length∧0<len:=by
      cases p1:Nat.beq J z.length<;>rw [p1] at hf<;>simp only [U4,P9] at hf<;>try (cases hf;done)
      cases p2:Nat.beq off 0<;>rw [p2] at hf<;>simp only [U4,P9] at hf<;>try (cases hf;done)
      cases p3:Nat.ble len k<;>rw [p3] at hf<;>simp only [U4,P9] at hf<;>try (cases hf;done)
      cases p4:Nat.beq (n+1) 1<;>rw [p4] at hf<;>simp only [U4,P9] at hf<;>try (cases hf;done)
      cases p5:Nat.beq (len' new) z.length<;>rw [p5] at hf<;>simp only [U4,P9] at hf<;>try (cases hf;done)
      have p4:=gI p4;have p5:=gI p5;rw [K4] at p5;exact⟨gI p1,gI p2,X8 p3,by omega,p5,Eq.mp Y4 hf⟩
     obtain⟨rfl,rfl,hk,rfl,N,af⟩:=ae;cases h9;obtain⟨l,l1,l2,l3,l4⟩:=TK o u len hk;exact F id z.length k a Q u _ _ l _ rfl (.inl rfl) rfl (λ_=>by omega) (λ_=>o.spot id _ u rfl) l1 (by omega) l2 l3 (Ww o u hk af l1 l4 N l2 i) rfl
    obtain⟨old,ho,h⟩:=D6 h;rw [R8] at h;obtain⟨rl,I,r⟩:=zy h;obtain⟨o1,o2,o3⟩:=uR o u _ _ _ ho;have W:aU (m.nm ι) (old++new):=cB.2 λv hv=>(aaD.1 hv).elim (P5 o2) (P5 i);have d:=(iE _ _ _ _ I).1;rw [aar,o1,ad8] at d;exact F id J k a Q u _ _ old _ rfl (.inl rfl) rfl (λ_=>by omega) (λ_=>o.spot id _ u rfl) o1 (by omega) o2 o3 (vW I W) r
   obtain⟨J,k,a,a1,h⟩:=dD h;obtain⟨q4,h⟩:=G8 h;have V:=X8 q4;obtain⟨q5,h⟩:=G8 h;obtain rfl:=gI q5;obtain⟨rl,I,r⟩:=zy h;obtain⟨t1,K⟩:=o.blk id _ u;have d:=(iE _ _ _ _ I).1;refine F p J k a V a1 _ _ [] (.cells z.length (n+1) (T.ofList rl)) rfl ?_ rfl ?_ ?_ (by simp) d trivial (λj v t=>by simp at t) ?_ ?_;rcases K with K | K;exact .inr (by omega);exact .inl K.1;intro ag;rcases K with K | K;omega;omega;intro ag;rcases K with K | K;omega;exact K.2.2 (o.spot p _ a1 rfl);rw [afs,aaF];exact vW I i;rw [r,aaF];rfl
def amX (d:TypeDesc):Bool:=match d with | .int _=>true | _=>false
theorem ZQ (d:TypeDesc):amX d=EN d:=by cases d<;>rfl
theorem Iz (s:St P ι (m.nm ι) slots done ls env a.tmps)(N:RM P G ι m w.heap){c:Call}{t u e:TypeId}{d:TypeDesc}{x y:Operand}{S A:Q7}{es g:Nat}{z:List d9}(hc:c.callee=.builtin .append)
  (q:c.argTypes.toList=[t,u]) (l:c.args.toList=[x,y]) (hu:P.underlying t=some (.slice e)) (hd:P.underlying u=some d) (p:aM P e=some es) (V:CY P e=some z) (D:fZ P e=some g)
  (hx:N7 P slots done x=some S) (hy:N7 P slots done y=some A) {cf:H8} {outs:List VM} (f:nT (.app es (EN d) z g S A) cf ls env m=some outs):
  ∀o:Oper,o.op=.call c->Does P a.eval o w (aS P G ι m w outs):=by
 intro o ho;have q:c.argTypes=#[t,u]:=by rw [← q,aaG]
 have l:c.args=#[x,y]:=by rw [← l,aaG]
 obtain⟨Z,g1⟩:=D5 s hx;obtain⟨e2,g2⟩:=D5 s hy;obtain⟨I,H⟩:=nW V;have E:es=z.length:=by rw [p] at H;exact Y5 H
 have B:∀(n:Nat) (b:List d9),adW P w (EN d) g n (o8 ι (I4 A ls env))->aU (m.nm ι) b->(n=0->b=[])->
   (∀w':World,w'.heap=w.heap->(if (!EN d)=true then Builtin.firstCells es n (o8 ι (I4 A ls env)) else if n*es=0 then pure #[] else do pure (Builtin.zeroCells (← zeroValue e).cells n):Sem (Array Value)).run P w'=.ok (u6 ι b).toArray w')->
   wR m es g n b (I4 S ls env)=some outs->Does P a.eval o w (aS P G ι m w outs):=by
  intro n b hn M O F h;obtain⟨U,Y,X,v,w',q1,W,q3⟩:=Nl N V p D M O F g1 h;refine O8 (v:=v) (w':=w') ?_ q3;rw [← Cb (T:=o.type) hu p hd D hn] at W;simp [execOp,ho,resolve,hc,l,q,invoke,builtin,Z,e2,q1,W]
 cases hi:EN d with
 | true=>rw [hi] at f;obtain⟨k,n,C,f⟩:=fI f;obtain⟨j,f⟩:=G8 f;obtain⟨L,f⟩:=G8 f;have j:n*g<=281474976710656:=X8 j;have L:n<9223372036854775808:=Eq.mp Y4 L;have C:I4 A ls env=.int k n:=C;refine B n (U3 z n) (.inr ⟨hi,⟨k,by rw [C];rfl⟩,L,j⟩) (by obtain⟨_,_,_,J⟩:=dB (P:=P) (w:=w) I ι;exact sI (J _) n) (λr=>by rw [r];rfl) (λw' _=>?_) f;obtain⟨zv,Q,R,J⟩:=dB (P:=P) (w:=w') I ι;simp only [hi,aiX,abQ,if_false];split;rename_i r;have:U3 z n=[]:=aaB.1 (by rw [eP,← E];exact r);simp [this,u6];simp [Q,R,zx]
 | false=>
  rw [hi] at f;obtain⟨n,C,f⟩:=D6 f;obtain⟨b,j,f⟩:=D6 f;refine B n b (.inl ⟨hi,uX C w⟩) (iZ N j).2 (λr=>?_) (λw' hw=>?_) f;subst r;have r:∀i K,S9 m i K 0=some []:=λi K=>rfl;generalize I4 A ls env=v at j;cases v<;>simp only [dG,reduceCtorEq] at j<;>simp_all [bytesOf]
  simp only [hi,Bool.not_false,if_true];exact (iZ (w:=w') (by rw [hw];exact N) j).1
end
section
variable {P:Program}{G:Mem}{ι:J9}{m:Mem}{w:World}{slots:List Nat}{done:List (Option Nat)}{ls:List d9}{env:T d9}{a:Act}
theorem Ky (s:St P ι (m.nm ι) slots done ls env a.tmps)(c:RM P G ι m w.heap){t:TypeId}(i:P.underlying t=some .string)
  {x:Operand} {d:Q7} (k:N7 P slots done x=some d) {cf:H8} {outs:List VM} (j:nT (.rangeS d) cf ls env m=some outs):
  ∀o:Oper,o.op=.range t x->Does P a.eval o w (aS P G ι m w outs):=by
 intro o g;obtain⟨f,_⟩:=D5 s k;obtain⟨str,b,h⟩:=iH j;cases h;have b:I4 d ls env=.str str:=b;have e:=Laid.new c.ok c.limn (.siter str 0) rfl;refine O8 (v:=.pointer (some ⟨w.heap.size,0,none⟩)) (w':={w with heap:=w.heap.push (.stringIter ⟨str.toArray⟩ 0)}) ?_
  ⟨_,aP.2 rfl,ι.upd m.nx ⟨w.heap.size,0,0,none⟩,Step.lay (w':={w with heap:=w.heap.push (.stringIter ⟨str.toArray⟩ 0)}) c e (o:=.stringIter ⟨str.toArray⟩ 0) (l:=⟨w.heap.size,0,0,none⟩) ⟨rfl,rfl,rfl,rfl⟩ rfl rfl ⟨rfl,dF⟩ (by intro _ _ _ h;cases h),e.self,by simp [o8,J9.at]⟩
 simp [execOp,g,Instr.range,run_underlying i,f,b,o8,run_newObj]
theorem TM {β:Type}{b:Option P8}{k:List UInt8->Nat->Option β}{r:β}(h:JW b k=some r):∃s p,b=some (.siter s p)∧k s p=some r:=by
 match b,h with
 | some (.siter s p),h=>exact⟨s,p,rfl,h⟩
theorem Nn (s:St P ι (m.nm ι) slots done ls env a.tmps)(k:RM P G ι m w.heap)
  {x:Operand} {u:Q7} (E:N7 P slots done x=some u) {cf:H8} {outs:List VM} (D:nT (.nextS u) cf ls env m=some outs):
  ∀o:Oper,o.op=.next x true->Does P a.eval o w (aS P G ι m w outs):=by
 intro o z;obtain⟨A,_⟩:=D5 s E;obtain⟨id,off,n,h⟩:=eu D;have n:I4 u ls env=.ptr id off:=n;obtain⟨B,h⟩:=G8 h;obtain rfl:off=0:=gI B;obtain⟨C,h⟩:=jW h;have r:=jI C;obtain⟨c,p,q,h⟩:=TM h;obtain⟨y,l⟩:=k.blk id _ q;have t:=k.spot id _ q rfl;have g:=fJ (P:=P) l (by intro _ _ _ e;cases e);have i:=λo=>sK (P:=P) (o:=o) l (by intro _ _ _ e;cases e);have j:ByteArray.size ⟨c.toArray⟩=c.length:=oK c;have f:a.eval x=.pointer (some ⟨(ι id).b,0,none⟩):=by rw [A,n];simp [o8,J9.at,y,t]
 rw [K4] at h;cases d:Nat.blt p c.length with
 | false=>
  rw [d] at h;cases h;have d:¬ p<c.length:=by have:=jI d;omega
  refine O8 (v:=.tuple #[.bool false]) (w':=w) ?_ ⟨_,aP.2 rfl,ι,Step.refl k,by simp [d9.lt,aU],by simp [o8,u6]⟩;simp [execOp,z,f,Instr.next,g,j,d]
 | true=>
  rw [d] at h;cases h;have d:p<c.length:=Eq.mp Y4 d;refine O8 (v:=.tuple #[.bool true,.int .i64 p,.int .i32 (Utf8.decode ⟨c.toArray⟩ p).1]) (w':={w with heap:=w.heap.setIfInBounds (ι id).b (.stringIter ⟨c.toArray⟩ (p+(Utf8.decode ⟨c.toArray⟩ p).2))}) ?_
   ⟨_,aP.2 rfl,ι,Step.set k r q rfl rfl (o:=.stringIter ⟨c.toArray⟩ (p+(Utf8.decode ⟨c.toArray⟩ p).2)) ⟨rfl,rfl,rfl,rfl⟩ ⟨y,gW l⟩ (by intro _ _ _ h;cases h),by simp [d9.lt,aU],by simp [o8,u6]⟩
  simp [execOp,z,f,Instr.next,g,j,d,i,goInt]
theorem EP {e:TypeId}(h:BQ P e=true):P.underlying e=some (.int .u8)∧aM P e=some 1∧fZ P e=some 1∧∃z,CY P e=some z∧z.length=1:=by unfold BQ at h;simp only [Hl,beq_iff_eq] at h;obtain⟨⟨⟨a,b⟩,d⟩,f⟩:=h;obtain⟨z,c⟩:=aj2.1 f;refine⟨?_,b,d,z,c,?_⟩;split at a;assumption;cases a;have:=(nW c).2;rw [b] at this;exact (Y5 this).symm
theorem TN (t:List UInt8):J8 (bytesOf t)=true:=by
 induction t with
 | nil=>rfl
 | cons b t ih=>show bi true (J8 (bytesOf t)) false=true;rw [ih];rfl
theorem AU (ι:J9)(t:List UInt8)(j:Nat):(u6 ι (bytesOf t))[j]?=(t[j]?).map λb=>Value.int .u8 (b.toNat:Int):=by rw [aL,oP,aaM];cases t[j]? <;> simp [o8]
theorem iI (t:List UInt8):(bytesOf t).length=t.length:=by rw [oP,aaN]
theorem PZ (s:St P ι (m.nm ι) slots done ls env a.tmps)(E:RM P G ι m w.heap){c:Call}{t u e:TypeId}{x y:Operand}{H R:Q7}(hc:c.callee=.builtin .append)
  (a2:c.argTypes.toList=[t,u]) (U:c.args.toList=[x,y]) (hu:P.underlying t=some (.slice e)) (hd:P.underlying u=some .string) (ab:BQ P e=true)
  (hx:N7 P slots done x=some H) (hy:N7 P slots done y=some R) {cf:H8} {outs:List VM} (g:nT (.appB e H R) cf ls env m=some outs):
  ∀o:Oper,o.op=.call c->Does P a.eval o w (aS P G ι m w outs):=by
 obtain⟨_,Z,F,z,hz,af⟩:=EP ab;have old:nT (.app 1 false z 1 H R) cf ls env m=some outs->∀o:Oper,o.op=.call c->Does P a.eval o w (aS P G ι m w outs):=
  λh=>Iz s E hc a2 U hu hd Z hz F hx hy h
 obtain⟨e1,g1⟩:=D5 s hx;obtain⟨e2,g2⟩:=D5 s hy;have a3:c.argTypes=#[t,u]:=by rw [← a2,aaG]
 have V:c.args=#[x,y]:=by rw [← U,aaG]
 obtain⟨a9,_⟩:=nW hz;have I:∀{d:List UInt8} {base:Option Addr} {sLen sCap:Nat} {v:Value} {w':World},I4 R ls env=.str d->o8 ι (I4 H ls env)=.slice base sLen sCap->
   (kg false e 1 sLen sCap base (o8 ι (.str d)) d.length).run P w=.ok v w'->aS P G ι m w outs v w'->∀o:Oper,o.op=.call c->Does P a.eval o w (aS P G ι m w outs):=by
  intro d base sLen sCap v w' S q2 q3 q4 o ho;refine O8 (v:=v) (w':=w') ?_ q4;have hn:adW P w (EN .string) 1 d.length (o8 ι (.str d)):=.inl ⟨rfl,uX (v:=.str d) (by simp [lenOf]) w⟩;have h3:(kg (EN .string) e 1 sLen sCap base (o8 ι (.str d)) d.length).run P w=.ok v w':=q3;rw [← Cb (T:=o.type) hu Z hd F hn] at h3;simp [execOp,ho,resolve,hc,V,a3,invoke,builtin,e1,e2,S,q2,h3]
 have C:∀(d:List UInt8) (w':World),w'.heap=w.heap->(if (!false)=true then Builtin.firstCells 1 d.length (o8 ι (.str d)) else if d.length*1=0 then pure #[] else do pure (Builtin.zeroCells (← zeroValue e).cells d.length):Sem (Array Value)).run P w'=.ok (u6 ι (bytesOf d)).toArray w':=by
  intro d w' hw;have:dG m 1 d.length (.str d)=some (bytesOf d):=by simp [dG]
  exact (iZ (w:=w') (by rw [hw];exact E) this).1
 have aa:∀{m0:Mem} (st:Step P G ι m w ι m0 w) (f d:List UInt8) (capN:Nat) (i:List Value),m0.nx=m.nx->f.length+d.length<=capN->i.length=(capN-(f.length+d.length))*z.length->
   outs=[⟨.sliceU m.nx 0 (f.length+d.length) 1,m0.new (.buf e (f++d))⟩]->
   aS P G ι m w outs (.slice (some ⟨w.heap.size,0,none⟩) (f.length+d.length) capN) {w with heap:=w.heap.push (.cells (u6 ι (bytesOf f)++u6 ι (bytesOf d)++i).toArray e),drawn:=w.drawn+1}:=by
  intro m0 st f d capN i ac X N p;subst p;have hl:=Laid.new st.rm.ok st.rm.limn (.buf e (f++d)) rfl;rw [ac] at hl;have ad:(u6 ι (bytesOf f)++u6 ι (bytesOf d)++i).toArray.size=capN:=by simp only [aeM,aar,V5,iI,N,af];omega
  have Q:=st.trans (Step.lay (w':={w with heap:=w.heap.push (.cells (u6 ι (bytesOf f)++u6 ι (bytesOf d)++i).toArray e),drawn:=w.drawn+1}) st.rm hl (o:=.cells (u6 ι (bytesOf f)++u6 ι (bytesOf d)++i).toArray e) ⟨rfl,rfl,rfl,rfl⟩ (l:=⟨w.heap.size,0,capN,none⟩) rfl rfl
   ⟨rfl,_,_,dF,by simp;omega,by rw [ad];exact q9 _,λj b q=>?_⟩ (by intro c' e' fz h k hk;cases h;simp))
  exact nX rfl Q hl.self (by omega) (need:=f.length+d.length) (by simpa using X) (by simp);have L:=(J2.1 q).1;rw [ad1,Z9 (by simpa [iI] using L)];by_cases h1:j<f.length;rw [Z9 h1] at q;rw [Z9 (by simpa [iI] using h1),AU,q];rfl;rw [aaL (by omega)] at q;rw [aaL (by simp [iI];omega),AU];simp only [V5,iI];rw [q];rfl
 change Rt e (I4 H) (I4 R) cf ls env m=some outs at g
 unfold Rt at g;split at g;rename_i D;obtain⟨d,A,g⟩:=iH g;cases d with
 | nil=>refine old ?_;show mO 1 1 (I4 H) (I4 R) cf ls env m=some outs;unfold mO;rw [A,D];exact g
 | cons b0 t0=>
  generalize hstr:b0::t0=d at *;have g:bi (big (len' d) 1 1) (one (.sliceU m.nx 0 (len' d) 1) (m.new (.buf e d))) none=some outs:=by rw [← hstr] at g ⊢;exact g
  obtain⟨W,g⟩:=G8 g;rw [K4] at W g;obtain⟨b1,_,b3⟩:=uY W;have p:outs=[⟨.sliceU m.nx 0 (([]:List UInt8).length+d.length) 1,m.new (.buf e ([]++d))⟩]:=by cases g;simp
  have a0:0<d.length:=by rw [← hstr];simp
  obtain⟨capN,i,r1,r2,r3⟩:=ku (P:=P) (w:=w) (zs:=false) (e:=e) (es:=1) (sLen:=0) (sCap:=0) (base:=none) (x:=o8 ι (.str d)) (n:=d.length) (old:=[]) F a9 (by omega) (by simpa using b1) b3
   (λw' _=>by simp [Builtin.firstCells]) (C d)
  refine I A (by rw [D];rfl) r3 ?_;have:=aa (Step.refl E) [] d capN i rfl (by simpa using r1) (by simpa using r2) p;simpa [bytesOf,u6] using this
 rename_i id off len es D;split at g;rename_i ty' f K;obtain⟨d,A,g⟩:=iH g;obtain⟨k1,a4⟩:=G8 g;obtain⟨k2,a5⟩:=G8 a4;obtain⟨k3,a6⟩:=G8 a5;obtain⟨k4,a7⟩:=G8 a6;obtain⟨k5,a8⟩:=G8 a7;clear g a4 a5 a6 a7;rw [K4] at k4;have r:m.lim<=id:=X8 k5;obtain rfl:e=ty':=gI k1;obtain rfl:off=0:=gI k2;obtain rfl:es=1:=gI k3;obtain rfl:len=f.length:=gI k4;have g:=a8;clear a8;cases d with
 | nil=>refine old ?_;show mO 1 1 (I4 H) (I4 R) cf ls env m=some outs;unfold mO;rw [A,D];exact g
 | cons b0 t0=>
  generalize hstr:b0::t0=d at *;have g:bi (big (Nat.add f.length (len' d)) 1 1) (one (.sliceU m.nx 0 (Nat.add f.length (len' d)) 1) ((m.set id .dead).new (.buf e (aC f d)))) none=some outs:=by rw [← hstr] at g ⊢;exact g
  obtain⟨W,g⟩:=G8 g;rw [K4] at W g;rw [R8] at g;obtain⟨b1,_,b3⟩:=uY W;have p:outs=[⟨.sliceU m.nx 0 (f.length+d.length) 1,(m.set id .dead).new (.buf e (f++d))⟩]:=by cases g;rfl
  have a0:0<d.length:=by rw [← hstr];simp
  obtain⟨q0,cs,fz,S,q2,q3,q4⟩:=E.blk id _ K;have O:=E.spot id _ K rfl;have Y:o8 ι (I4 H ls env)=.slice (some ⟨(ι id).b,0,none⟩) f.length (ι id).cap:=by rw [D];simp [o8,J9.at,q0,O]
  have B:=(E.own id _ r K rfl).free cs e fz S;have J:∀w':World,w'.heap=w.heap->∀(j:Nat) (v:d9),(bytesOf f)[j]?=some v->w'.cell? (ι.at id (0+j))=some (o8 ι v):=by
   intro w' hw j v q;rw [oP,aaM] at q;cases hb':f[j]? with
   | none=>rw [hb'] at q;cases q
   | some b'=>rw [hb'] at q;cases q;have:=q4 j b' hb';simp [World.cell?,hw,J9.at,q0,O,S,o8,this]
  by_cases hfit:f.length+d.length<=(ι id).cap
  ·
   have a1:=oO (P:=P) (u6 ι (bytesOf d)) cs (f.length*1) 0 w S (by simp [iI];omega) B (λv g=>by
    rw [bA] at g;obtain⟨u',ae,rfl⟩:=adh.1 g;exact AP (qg (TN d) u' ae))
   refine I A Y (ko hfit (C d w rfl) (by
    have:(⟨(ι id).b,0,none⟩:Addr).add (f.length*1)=⟨(ι id).b,f.length*1,none⟩:=(by simp [Addr.add];intro h;simp [h]);simp only [this];exact a1)) ?_
   subst p;have M:=Laid.new (Step.kill E r K).rm.ok (Step.kill E r K).rm.limn (.buf e (f++d)) rfl;have Q:=Step.acC (l:=⟨(ι id).b,0,(ι id).cap,none⟩) (o:=.cells (over cs (f.length*1+0) (u6 ι (bytesOf d))) e fz) (w':={w with heap:=w.heap.setIfInBounds (ι id).b (.cells (over cs (f.length*1+0) (u6 ι (bytesOf d))) e fz)})
    (b':=.buf e (f++d)) E r K rfl rfl ⟨rfl,rfl,rfl,rfl⟩ rfl rfl ⟨rfl,_,_,gW S,by simpa using hfit,by simpa using q3,λj b q=>?_⟩ (by intro c' e' ag h k hk;cases h;exact B k (by simpa using hk))
   have:=nX rfl Q M.self (q9 1) (need:=f.length+d.length) (by simpa using hfit) (cap:=(ι id).cap) (by simp);simpa using this;have L:=(J2.1 q).1;rw [aar] at L;rw [zq _ _ _ (by simp [iI];omega)];by_cases h1:j<f.length;rw [Z9 h1] at q;rw [if_pos (by omega)];exact q4 j b q;rw [aaL (by omega)] at q;rw [if_neg (by omega),if_pos (by simp [iI];omega),AU,show j-(f.length*1+0)=j-f.length from by omega,q];rfl
  obtain⟨capN,i,r1,r2,r3⟩:=ku (P:=P) (w:=w) (zs:=false) (e:=e) (es:=1) (sLen:=f.length) (sCap:=(ι id).cap) (base:=some ⟨(ι id).b,0,none⟩) (x:=o8 ι (.str d)) (n:=d.length) (old:=u6 ι (bytesOf f)) F a9 hfit b1 b3
   (λw' hw=>by
    have:=iD (P:=P) (ι:=ι) (w:=w') (id:=id) (off:=0) (len:=f.length) (cap:=(ι id).cap) (es:=1) (n:=f.length) (l:=bytesOf f) (by rw [iI,aeG]) (J w' hw);simpa [J9.at,q0,O] using this) (C d)
  exact I A Y r3 (aa (Step.kill E r K) f d capN i rfl r1 r2 p)
 exact old g;exact old g
theorem Qa {w:World}{b:Nat}{c:Array Value}{e:TypeId}{fz:Nat×Nat}(h:w.heap[b]?=some (.cells c e fz))(n:Nat):∃fz',w.freeze ⟨b,0,none⟩ n={w with heap:=w.heap.setIfInBounds b (.cells c e fz')}:=by
 have g:=(U9.1 h).1;have i:w.heap[b]=.cells c e fz:=(U9.1 h).2;have a:∀(f:Obj->Obj) fz',f (.cells c e fz)=.cells c e fz'->w.heap.modify b f=w.heap.setIfInBounds b (.cells c e fz'):=by intro f fz' k;apply ad5;intro j;rw [aiK,Array.getElem?_setIfInBounds];by_cases hj:b=j;subst hj;simp [h,k,g,i];simp [hj]
 unfold World.freeze;split;refine⟨fz,?_⟩;have d:w.heap.modify b id=w.heap:=by apply ad5;intro j;rw [aiK];split<;>simp
 rw [← a id fz rfl,d];obtain⟨m,l⟩:=fz;exact⟨_,by congr 1;exact a _ _ rfl⟩
theorem ZR {β:Type}{v:d9}{k:Nat->Option β}{r:β}(h:adN v k=some r):∃n:Nat,v=.int .i64 (n:Int)∧k n=some r:=by unfold adN at h;split at h;exact⟨_,rfl,h⟩;cases h
theorem Qb (s:St P ι (m.nm ι) slots done ls env a.tmps)(C:RM P G ι m w.heap){c:Call}{t u e:TypeId}{x y:Operand}{U V:Q7}(L:c.callee=.builtin .unsafeString)
  (g:c.argTypes.toList=[t,u]) (f:c.args.toList=[x,y]) (hu:P.underlying t=some (.pointer e)) (K:BQ P e=true)
  (hx:N7 P slots done x=some U) (hy:N7 P slots done y=some V) {cf:H8} {outs:List VM} (i:nT (.ustr e U V) cf ls env m=some outs):
  ∀o:Oper,o.op=.call c->Does P a.eval o w (aS P G ι m w outs):=by
 intro o Q;obtain⟨_,M,_⟩:=EP K;obtain⟨X,_⟩:=D5 s hx;obtain⟨E,_⟩:=D5 s hy;have g:c.argTypes=#[t,u]:=by rw [← g,aaG]
 have f:c.args=#[x,y]:=by rw [← f,aaG]
 obtain⟨n,q,i⟩:=ZR i;have q:I4 V ls env=.int .i64 (n:Int):=q
 change (match I4 U ls env with
  | .nilPtr=>bi (Nat.beq n 0) (one (.str []) m) none
  | .ptr id p=>bi (Nat.beq p 0) (bi (Nat.ble m.lim id) (match m.get id with
   | some (.buf ty' s)=>bi (Nat.beq e ty') (bi (Nat.beq n (len' s)) (bi (Nat.ble n 9223372036854775807) (one (.str s) (m.set id .dead)) none) none) none
   | _=>none) none) none
  | _=>none)=some outs at i
 split at i;rename_i H;obtain⟨I,k⟩:=G8 i;clear i;cases k;obtain rfl:n=0:=gI I;refine O8 (v:=.string .empty) (w':=w) ?_ ⟨_,aP.2 rfl,ι,Step.refl C,trivial,rfl⟩;have:=Lib.run_unsafeString_none (P:=P) w t u o.type none;simp [execOp,Q,resolve,L,f,g,invoke,builtin,X,E,q,H,o8,this];rename_i id p H;obtain⟨I,k⟩:=G8 i;obtain⟨Z,l⟩:=G8 k;clear i k;obtain rfl:p=0:=gI I;have z:m.lim<=id:=X8 Z;split at l;rename_i ty' d O;obtain⟨h5,A⟩:=G8 l;obtain⟨Y,B⟩:=G8 A;obtain⟨h7,T⟩:=G8 B;clear l A B;rw [K4] at Y;cases T;obtain rfl:e=ty':=gI h5;obtain rfl:n=d.length:=gI Y;have J:d.length<=9223372036854775807:=X8 h7;obtain⟨q0,W,fz,D,q2,q3,q4⟩:=C.blk id _ O;have R:=C.spot id _ O rfl;obtain⟨F,N⟩:=Qa D d.length;have S:Step P G ι m w ι (m.set id .dead) (w.freeze ⟨(ι id).b,0,none⟩ d.length):=by rw [N];exact Step.set' C z O rfl rfl (o:=.cells W e F) ⟨rfl,rfl,rfl,rfl⟩ trivial (λh=>by cases h)
 refine O8 (v:=.string ⟨d.toArray⟩) (w':=w.freeze ⟨(ι id).b,0,none⟩ d.length) ?_ ⟨_,aP.2 rfl,ι,S,trivial,rfl⟩;have r:a.eval x=.pointer (some ⟨(ι id).b,0,none⟩):=by rw [X,H];simp [o8,J9.at,q0,R]
 by_cases h0:d=[];subst h0;have:=Lib.run_unsafeString_none (P:=P) w t u o.type (some ⟨(ι id).b,0,none⟩);simp [execOp,Q,resolve,L,f,g,invoke,builtin,r,E,q,o8,this,World.freeze];rfl;have:=Lib.run_unsafeString_row (P:=P) w t u o.type e hu (xX M) (ι id).b W.size (by simp [World.shape?,D]) d h0 (by omega) J (λj b hj=>by
  have:=q4 j b hj;by_cases h0:j=0;subst h0;simpa [World.cell?,Addr.add,D] using this;simpa [World.cell?,Addr.add,D,h0] using this)
 simp [execOp,Q,resolve,L,f,g,invoke,builtin,r,E,q,o8,this];cases l;cases i
end
section
variable {P:Program}{G:Mem}{ι:J9}{m:Mem}{w:World}{slots:List Nat}{done:List (Option Nat)}{ls:List d9}{env:T d9}{a:Act}
def AV (P:Program)(f:FuncId):Prop:=∃fn,P.funcs[f]?=some fn∧fn.body.isSome=true∧fn.name≠ "runtime.NumGoroutine"
def Q8 (P:Program)(G:Mem)(ι:J9)(m:Mem)(w:World)(outs:List VM)(e:Ending)(w':World):Prop:=
 (∃v,e=.returned v∧aS P G ι m w outs v w')∨
  ∃r∈outs,∃x ι',r.v=.kP x∧Step P G ι m w ι' r.m w'∧x.lt (r.m.nm ι')∧e=.panicked [{v:=o8 ι' x,recovered:=false}]
def kS (P:Program)(ρ:Operand->Value)(o:Oper)(w:World)(R:Ending->World->Prop):Prop:=
 match (execOp ρ o).run P w with
 | .ok (.value v) w'=>R (.returned v) w'
 | .ok .skip w'=>R (.returned undef) w'
 | .ok (.enter f args) w'=>CallsIn Fence.wide 0 P f args w' R
 | .ok (.round l f tmps assign body) w'=>RoundIn Fence.wide 0 P l f tmps assign body w' R
 | .halt (.panic v) w'=>R (.panicked [{v,recovered:=false}]) w'
 | _=>False
theorem aF {c:Operand->Value}{o:Oper}{outs:List VM}(h:Does P c o w (aS P G ι m w outs)):kS P c o w (Q8 P G ι m w outs):=by
 unfold Does at h;unfold kS;generalize (execOp c o).run P w=res at h;cases res with
 | halt=>exact h.elim
 | ok x w'=>
  cases x with
  | value v=>exact .inl ⟨_,rfl,h⟩
  | skip=>exact .inl ⟨_,rfl,h⟩
  | enter f args=>exact aj1 h λe b a=>.inl a
  | round l f tmps assign body=>exact RoundIn.mono h λe b a=>.inl a
  | _=>exact h.elim
theorem Qc {a:Operand->Value}{o:Oper}{R:Value->World->Prop}(h:Does P a o w R):kS P a o w (λe w'=>∃v,e=.returned v∧R v w'):=by
 unfold Does at h;unfold kS;generalize (execOp a o).run P w=res at h;cases res with
 | halt=>exact h.elim
 | ok x w'=>
  cases x with
  | value v=>exact⟨_,rfl,h⟩
  | skip=>exact⟨_,rfl,h⟩
  | enter f args=>exact h
  | round l f tmps assign body=>exact h
  | _=>exact h.elim
structure nI (P:Program)(G:Mem)(cf:H8):Prop where
 func:∀{f:FuncId} {args:List d9} {m:Mem} {outs:List VM},cf (.func f) args m=some outs->AV P f∧∀{ι:J9} {w:World},RM P G ι m w.heap->aU (m.nm ι) args->
  CallsIn Fence.wide 0 P f (u6 ι args).toArray w (Q8 P G ι m w outs)
 yield:∀{l:Nat} {args:List d9} {m:Mem} {outs:List VM},cf (.yield l) args m=some outs->∀{ι:J9} {w:World},RM P G ι m w.heap->aU (m.nm ι) args->
  ∃L:Loop,w.heap[(ι l).b]?=some (.loop L)∧args.length=L.params.size∧
   RoundIn Fence.wide 0 P (ι l).b L.fn ((L.params.zip (u6 ι args).toArray).foldl (λt (p,v)=>t.setIfInBounds p v) L.tmps) L.assign L.body w (Q8 P G ι m w outs)
 other:∀{fn:Fn} {args:List d9} {m:Mem} {outs:List VM},cf fn args m=some outs->(∃f,fn=.func f)∨∃l,fn=.yield l
theorem nJ {f:FuncId}(h:AV P f)(args:Array Value)(w:World):(callFunc f args).run P w=.ok (.enter f args) w:=by
 obtain⟨b,d,a,e⟩:=h;cases hb:b.body with
 | none=>rw [hb] at a;cases a
 | some c=>simp [callFunc,d,e,hb]
theorem kC (ι:J9)(l r:List d9):u6 ι (l++r)=u6 ι l++u6 ι r:=by simp [bA]
theorem jr {n:Nm}{l r:List d9}(h:aU n l)(h':aU n r):aU n (l++r):=cB.2 λv a=>(aaD.1 a).elim (P5 h) (P5 h')
theorem Kz (s:St P ι (m.nm ι) slots done ls env a.tmps){c:Array Operand}{b:List Q7}(h:jE P slots done c.toList=some b):
  c.map a.eval=(u6 ι (evs (fV b) ls env)).toArray∧aU (m.nm ι) (evs (fV b) ls env):=by
 obtain⟨d,e⟩:=kZ s h;refine⟨?_,e⟩;rw [← d,← akx,aaG]
theorem Qd {cf:H8}(h:nI P G cf)(s:St P ι (m.nm ι) slots done ls env a.tmps)(p:RM P G ι m w.heap){c:Call}{f:FuncId}{e:List Q7}(l:c.callee=.value (.func f))
  (g:jE P slots done c.args.toList=some e) {outs:List VM} (i:nT (.call f e) cf ls env m=some outs):
  ∀o:Oper,o.op=.call c->kS P a.eval o w (Q8 P G ι m w outs):=by
 intro o q;obtain⟨j,k⟩:=Kz s g;have i:cf (.func f) (evs (fV e) ls env) m=some outs:=i;obtain⟨n,b⟩:=h.func i;have d:(execOp a.eval o).run P w=.ok (.enter f (u6 ι (evs (fV e) ls env)).toArray) w:=by simp [execOp,q,resolve,l,Act.eval,Deferred.ofValue,invoke,j,nJ n]
 unfold kS;rw [d];exact b p k
theorem Np {cf:H8}(j:nI P G cf)(s:St P ι (m.nm ι) slots done ls env a.tmps)(F:RM P G ι m w.heap){c:Call}{f:Operand}{q:Q7}{e:List Q7}(E:c.callee=.value f)
  (z:N7 P slots done f=some q) (u:jE P slots done c.args.toList=some e) {outs:List VM} (O:nT (.callv q e) cf ls env m=some outs):
  ∀o:Oper,o.op=.call c->kS P a.eval o w (Q8 P G ι m w outs):=by
 intro o H;obtain⟨A,B⟩:=Kz s u;obtain⟨n,C⟩:=D5 s z;obtain⟨D,x,y,r,h⟩:=Kh O;have r:I4 q ls env=.func D x y:=r;rw [r] at n C;obtain⟨_,I,k⟩:=C;cases D with
 | func g=>
  have h:cf (.func g) (aC x (aC (evs (fV e) ls env) y)) m=some outs:=h;rw [R8,R8] at h;obtain⟨N,i⟩:=j.func h;have d:(execOp a.eval o).run P w=.ok (.enter g (u6 ι (x++(evs (fV e) ls env++y))).toArray) w:=by simp [execOp,H,resolve,E,n,o8,jo,Deferred.ofValue,invoke,A,nJ N,kC]
  unfold kS;rw [d];exact i F (jr I (jr B k))
 | yield l=>
  have h:cf (.yield l) (aC x (evs (fV e) ls env)) m=some outs:=h;rw [R8] at h;obtain⟨L,J,K,M⟩:=j.yield h F (jr I B);have d:(execOp a.eval o).run P w=.ok (.round (ι l).b L.fn ((L.params.zip (u6 ι (x++evs (fV e) ls env)).toArray).foldl (λt (p,v)=>t.setIfInBounds p v) L.tmps) L.assign L.body) w:=by have k:=run_yield (P:=P) (args:=(u6 ι (x++evs (fV e) ls env)).toArray) J (by simpa using K);rw [kC,← List.append_toArray] at k ⊢;simp only [execOp,H,resolve,E,n,o8,jo,Deferred.ofValue,invoke,A,Xl,Z8,K9,k]
  unfold kS;rw [d];exact M
 | method=>cases h
 | methodOf=>cases h
 | via=>cases h
theorem Nq (s:St P ι (m.nm ι) slots done ls env a.tmps)(g:RM P G ι m w.heap){x:Operand}{d:Q7}(i:N7 P slots done x=some d){cf:H8}{outs:List VM}(b:nT (.panic d) cf ls env m=some outs):
  ∀o:Oper,o.op=.panic x->kS P a.eval o w (Q8 P G ι m w outs):=by
 intro o h;obtain⟨e,f⟩:=D5 s i;have b:ZG (I4 d ls env) m=some outs:=b;generalize I4 d ls env=v at *;cases v with
 | iface t y=>
  have b:some [(⟨.kP (.iface t y),m⟩:VM)]=some outs:=b;cases b;have c:(execOp a.eval o).run P w=.halt (.panic (o8 ι (.iface t y))) w:=by simp [execOp,h,e,o8,Instr.panic,goPanic]
  unfold kS;rw [c];exact .inr ⟨_,aP.2 rfl,_,ι,rfl,Step.refl g,f,rfl⟩
 | _=>cases b
theorem AX {cf:H8}(f:nI P G cf)(s:St P ι (m.nm ι) slots done ls env a.tmps)(d:RM P G ι m w.heap){i:Op}{g:Vv}(h:gF P slots done i=some (.e g)){outs:List VM}(c:nT g cf ls env m=some outs):
  ∀o:Oper,o.op=i->kS P a.eval o w (Q8 P G ι m w outs):=by
 cases zh h with
 | store h1 h2 h3=>exact λo b=>aF (Nf s d h1 h2 h3 c o b)
 | mapUpdate h1 h2 h3 h4 h5=>exact λo b=>aF (zw s d h1 h2 h3 h4 h5 c o (.inl b))
 | insert h1 h2 h3 h4 h5=>exact λo b=>aF (zw s d h1 h2 h3 h4 h5 c o (.inr b))
 | range h1 h2=>exact λo b=>aF (Ni s d h1 h2 c o b)
 | next h1=>exact λo b=>aF (PX s d h1 c o b)
 | app h1 h2 h3 h4 h5 h6 h7 h8 h9 h10=>exact λo b=>aF (Iz s d h2 h3 h4 h5 h1 h6 h7 h8 h9 h10 (by rw [← ZQ];exact c) o b)
 | copy h1 h2 h3 h4 h5 h6 h7=>exact λo b=>aF (PY s d h1 h2 h3 h4 h5 h6 h7 c o b)
 | clear h1 h2 h3 h4 h5 h6=>exact λo b=>aF (Nj s d h1 h2 h3 h4 h5 h6 c o b)
 | call h1 h2 h3 h4 h5=>exact Qd f s d h1 h5 c
 | callv h1 h2 h3=>exact Np f s d h1 h2 h3 c
 | panic h1=>exact Nq s d h1 c
 | rangeS h1 h2=>exact λo b=>aF (Ky s d h1 h2 c o b)
 | nextS h1=>exact λo b=>aF (Nn s d h1 c o b)
 | appB h1 h2 h3 h4 h5 h6 h7 h8=>exact λo b=>aF (PZ s d h2 h3 h4 h5 h1 h6 h7 h8 c o b)
 | ustr h1 h2 h3 h4 h5 h6 h7=>exact λo b=>aF (Qb s d h1 h2 h3 h4 h5 h6 h7 c o b)
 | defer=>cases c
 | recover=>cases c
end
end Go.AM
