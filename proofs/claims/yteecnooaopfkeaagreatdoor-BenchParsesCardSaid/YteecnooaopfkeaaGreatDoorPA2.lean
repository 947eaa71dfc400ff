/- A part of an evaluator for the model, proved sound: what it answers holds of the model; it speaks of every program, no condition. -/
import Derived.Test.YteecnooaopfkeaaGreatDoorPA1
import Derived.Lib.Builder
import Derived.Laws.NewFold
import Derived.CallsIn
import Derived.Lib.UnsafeStr
set_option linter.all false
namespace Go.AM
open Go
section
variable {P:Program}{G:Mem}{ι:K4}{m:Mem}{w:World}
theorem cZ {β:Type}{b:Option O9}{k:Nat->Nat->T (List j3)->Option β}{r:β}(h:Q9 b k=some r):∃rs n rows,b=some (.cells rs n rows)∧k rs n rows=some r:=by
 match b,h with
 | some (.cells rs n rows),h=>exact⟨rs,n,rows,rfl,h⟩
theorem Ac {β:Type}{b:Option O9}{k:List (j3×j3)->Option β}{r:β}(h:Od b k=some r):∃es,b=some (.map es)∧k es=some r:=by
 match b,h with
 | some (.map es),h=>exact⟨es,rfl,h⟩
theorem Jt (hm:RM P G ι m w.heap){id rs k:Nat}{rows:T (List j3)}(hg:m.get id=some (.cells rs k rows)){i j:Nat}(hi:i<k)(hj:j<rs){row:List j3}
  (hr:rows.get i=some row) {v:j3} (hv:row[j]?=some v):w.cell? (ι.at id (i*rs+j))=some (o8 ι v)∧v.lt (m.nm ι):=by
 obtain⟨c,e,fz,h1,h2,h3,h4⟩:=hm.blk id _ hg;obtain⟨row',g1,g2,g3,g4⟩:=h4 i hi;rw [hr] at g1;cases g1;have:=g4 j hj;rw [hv] at this;refine⟨?_,O8 g3 (Y5 hv)⟩;simp only [World.cell?,K4.at,h1,hm.spot id _ hg rfl];simpa using this
theorem Ox {rs n off:Nat}{rows:T (List j3)}{v:j3}(h:cell1 rs n rows off=some v):
  off / rs<n∧∃row,rows.get (off / rs)=some row∧row[off%rs]?=some v:=by
 obtain⟨h1,h2⟩:=D7 h;obtain⟨row,h3,h4⟩:=C8 h2;rw [iY] at h4;exact⟨Eq.mp Y8 h1,row,h3,h4⟩
theorem Bg (hm:RM P G ι m w.heap){id rs k off:Nat}{rows:T (List j3)}(hg:m.get id=some (.cells rs k rows)){v:j3}(h:cell1 rs k rows off=some v):
  w.cell? (ι.at id off)=some (o8 ι v)∧v.lt (m.nm ι):=by
 obtain⟨h1,row,h2,h3⟩:=Ox h;obtain⟨c,e,fz,_,_,_,h4⟩:=hm.blk id _ hg;obtain⟨row',g1,g2,_,_⟩:=h4 _ h1;rw [h2] at g1;cases g1;have hlt:off%rs<rs:=afE (J5.1 h3).1 g2;have:=Jt hm hg h1 hlt h2 h3
 rwa [show off / rs*rs+off%rs=off from by rw [ae4];exact aiX off rs] at this
def nT (ι:K4)(w:World)(id off:Nat)(l:List j3):Prop:=∀j v,l[j]?=some v->w.cell? (ι.at id (off+j))=some (o8 ι v)
theorem Ju (hm:RM P G ι m w.heap){id rs n off k:Nat}{rows:T (List j3)}(hg:m.get id=some (.cells rs n rows)){l:List j3}(h:eU rs n rows off k=some l):
  l.length=k∧aS (m.nm ι) l∧nT ι w id off l:=by
 obtain⟨h1,h2⟩:=D7 h;obtain⟨row,h3,h4⟩:=C8 h2;have h1:off / rs<n:=Eq.mp Y8 h1;obtain⟨c,e,fz,_,_,_,hb⟩:=hm.blk id _ hg;obtain⟨row',g1,g2,g3,_⟩:=hb _ h1;have h3:rows.get (off / rs)=some row:=h3;rw [h3] at g1;cases g1;have key:l=(row.drop (off%rs)).take k∧(off%rs+k<=rs∨k=0):=by have hmod:Nat.mod off rs=off%rs:=rfl;rw [hmod] at h4;rw [uz] at h4;split at h4;rename_i hz;rw [uz] at h4;split at h4;rename_i hk;have e:row=l:=Y7 h4;rw [hz,hk,← e];refine⟨?_,by omega⟩;rw [Y3,← g2,List.take_length];obtain⟨e,hl⟩:=kJ _ _ _ h4;rw [hz];exact⟨by rw [Y3];exact e,by omega⟩;obtain⟨e,hl⟩:=kJ _ _ _ h4;simp only [gN,abR] at hl e;exact⟨e,by omega⟩
 obtain⟨rfl,hk⟩:=key;refine⟨by simp;omega,bT.2 λv hv=>O8 g3 (aa0 (afx hv)),λj v hv=>?_⟩;have hj:j<k:=by have:=(J5.1 hv).1;simp at this;omega
 rw [aft,if_pos hj,afF] at hv;have:=(Jt hm hg h1 (show off%rs+j<rs by omega) h3 hv).1
 rwa [show off / rs*rs+(off%rs+j)=off+j from by have:=aiX off rs;rw [ae4] at this;omega] at this
theorem FW (rs n:Nat)(rows:T (List j3))(off:Nat):U4 rs n rows 0 off=some []:=rfl
theorem FX (rs n:Nat)(rows:T (List j3))(k off:Nat):U4 rs n rows (k+1) off=ob (cell1 rs n rows off) λv=>ob (U4 rs n rows k (off+1)) λl=>some (v::l):=rfl
theorem uD (hm:RM P G ι m w.heap){id rs n:Nat}{rows:T (List j3)}(hg:m.get id=some (.cells rs n rows)):
  ∀(k off:Nat) (l:List j3),U4 rs n rows k off=some l->l.length=k∧aS (m.nm ι) l∧nT ι w id off l:=by
 intro k;induction k with
 | zero=>intro off l h;rw [FW] at h;cases h;exact⟨rfl,trivial,λj v hv=>by simp at hv⟩
 | succ k ih=>
  intro off l h;rw [FX] at h;obtain⟨v,h1,h⟩:=C8 h;obtain⟨r,h2,h⟩:=C8 h;cases h;obtain⟨g1,g2⟩:=Bg hm hg h1;obtain⟨g3,g4,g5⟩:=ih _ _ h2;refine⟨by simp [g3],⟨g2,g4⟩,λj u hu=>?_⟩;cases j with
  | zero=>simp at hu;subst hu;exact g1
  | succ j=>rw [show off+(j+1)=off+1+j from by omega];exact g5 j u (by simpa using hu)
theorem jK (hm:RM P G ι m w.heap){id off k:Nat}{l:List j3}(h:X0 m id off k=some l):
  l.length=k∧aS (m.nm ι) l∧nT ι w id off l:=by
 cases k with
 | zero=>cases h;exact⟨rfl,trivial,λj v hv=>by simp at hv⟩
 | succ k=>have h:Q9 (m.get id) (λrs n rows=>U4 rs n rows (k+1) off)=some l:=h;obtain⟨rs,n,rows,h1,h2⟩:=cZ h;exact uD hm h1 _ _ _ h2
theorem LB {ad:Addr}{v:Value}(h:w.cell? ad=some v):(load ad).run P w=.ok v w:=by simp [h]
theorem yI {id off:Nat}:∀(l:List j3) (i:Nat) (acc:Array Value),(∀j v,l[j]?=some v->w.cell? (ι.at id (off+(i+j)))=some (o8 ι v))->
  (loadCellsFrom (ι.at id off) i l.length acc).run P w=.ok (acc++(y7 ι l).toArray) w:=by
 intro l;induction l with
 | nil=>intro i acc _;simp [loadCellsFrom,y7]
 | cons v l ih=>intro i acc h;have h0:w.cell? (ι.at id (off+i))=some (o8 ι v):=h 0 v rfl;simp only [abW,loadCellsFrom,Y1,K4.nP];rw [LB h0,J8,ih (i+1) _ (λj u hu=>by rw [show i+1+j=i+(j+1) from by omega];exact h (j+1) u (by simpa using hu))];simp [y7]
theorem qj {id off:Nat}{l:List j3}(h:nT ι w id off l):(loadCells (ι.at id off) l.length).run P w=.ok (y7 ι l).toArray w:=by have:=yI (P:=P) (ι:=ι) (w:=w) (id:=id) (off:=off) l 0 #[] (λj v hv=>by simpa using h j v hv);simpa [loadCells] using this
theorem gV {id off len cap es n:Nat}{l:List j3}(hl:l.length=n*es)(h:nT ι w id off l):
  (Builtin.firstCells es n (.slice (some (ι.at id off)) len cap)).run P w=.ok (y7 ι l).toArray w:=by
 simp only [Builtin.firstCells];rw [← hl];exact qj h
end
section
variable {P:Program}{G:Mem}{ι:K4}{m:Mem}{w:World}{slots:List Nat}{done:List (Option Nat)}{ls:List j3}{env:T j3}{a:Act}
theorem wN {t:TypeId}{sz:Option Nat}(ht:partT P t=some sz)(hm:RM P G ι m w.heap){id off:Nat}{v:j3}
  (hv:Q9 (m.get id) (λrs n rows=>match sz with | none=>cell1 rs n rows off | some k=>ob (eU rs n rows off k) λl=>some (.agg l))=some v):
  (loadVar t (ι.at id off)).run P w=.ok (o8 ι v) w∧v.lt (m.nm ι):=by
 obtain⟨rs,n,rows,hg,h⟩:=cZ hv;rcases Dw ht with⟨rfl,ha,k,hk⟩ | ⟨k,rfl,ha,hk⟩;obtain⟨h1,h2⟩:=Bg hm hg h;exact⟨by simp [loadVar,qC ha,h1],h2⟩;obtain⟨l,h1,h2⟩:=C8 h;cases h2;obtain⟨h3,h4,h5⟩:=Ju hm hg h1;refine⟨?_,h4⟩;have:=qj (P:=P) h5;rw [h3] at this;simp [loadVar,qC ha,run_sizeOf hk,this,o8]
theorem fQ {t:TypeId}(h:P.underlying t=some .bool∨(∃k,P.underlying t=some (.int k))∨P.underlying t=some .string)(e:Bool)(d:Nat)(v:Value)(w:World):
  (Instr.checkKey e (d+1) t v).run P w=.ok () w:=by
 rcases h with h | ⟨k,h⟩ | h<;>simp [Instr.checkKey,run_underlying h]
def pG (e:Bool)(d:Nat)(X:Array Value):List Field->Sem Unit
 | []=>pure ()
 | f::l=>do
  if f.name≠ "_" then Instr.checkKey e d f.type (← part f.type X f.offset)
  pG e d X l
theorem Oy (e:Bool)(d:Nat)(X:Array Value)(l:List Field):
  (forIn l PUnit.unit λf _=>do
    if f.name≠ "_" then Instr.checkKey e d f.type (← part f.type X f.offset)
    pure (ForInStep.yield PUnit.unit):Sem PUnit)=pG e d X l:=by
 induction l with
 | nil=>simp [pG]
 | cons f l ih=>rw [aiv];simp only [pG];rw [← ih];by_cases hf:f.name= "_";simp [hf];simp [hf]
theorem BX {t:TypeId}{fs:Array Field}(h:P.underlying t=some (.struct fs))(e:Bool)(d:Nat)(X:Array Value)(w:World):
  (Instr.checkKey e (d+1) t (.agg X)).run P w=(pG e d X fs.toList).run P w:=by
 simp only [Instr.checkKey,Y1,run_underlying h,J8];rw [← aiE,← Oy];generalize (forIn fs.toList PUnit.unit _:Sem PUnit)=r;simp;cases r.run P w<;>rfl
theorem Oz:∀(d:Nat) (t:TypeId) (ks:List PK),eY P d t=some ks->∃agg,wo P t=some agg∧aK P t=some ks.length∧(agg=false->ks.length=1)∧
  ∀D,d<=D->∀(l:List j3),ks.length<=l.length->∀(e:Bool) w,(Instr.checkKey e D t (mkV ι agg l)).run P w=.ok () w:=by
 intro d;induction d with
 | zero=>intro t ks h;simp [eY] at h
 | succ d ih=>
  intro t ks h;obtain⟨agg,ha,hsz,h1,_⟩:=Gz (P:=P) (ι:=ι) (d+1) t ks h;refine⟨agg,ha,hsz,h1,λD hD l hl e w=>?_⟩;obtain⟨D,rfl⟩:∃D',D=D'+1:=⟨D-1,by omega⟩;simp only [eY] at h;cases hu:P.underlying t with
  | none=>simp [hu] at h
  | some u=>
   rw [hu] at h;cases u<;>try (simp at h;done)
   exact fQ (.inl hu) e D _ w;exact fQ (.inr (.inl ⟨_,hu⟩)) e D _ w;exact fQ (.inr (.inr hu)) e D _ w;rename_i fs;rw [pE hu] at ha;cases ha;simp only at h;cases hf:nO (eY P d) fs.toList 0 with
   | none=>simp [hf] at h
   | some ks'=>
    simp only [hf] at h;split at h;rename_i hz;cases h;simp only [mkV,if_true];rw [BX hu];have key:∀(fl:List Field) (off:Nat) (ks₁:List PK),off+ks₁.length<=l.length->nO (eY P d) fl off=some ks₁->
      (pG e D (y7 ι l).toArray fl).run P w=.ok () w:=by
     intro fl;induction fl with
     | nil=>intro off ks₁ _ _;simp [pG]
     | cons f fl ihl=>
      intro off ks₁ hlen hfl;simp only [nO] at hfl;split at hfl;rename_i hn;cases hk:eY P d f.type with
      | none=>simp [hk] at hfl
      | some kf=>
       simp only [hk] at hfl;cases hrest:nO (eY P d) fl (off+kf.length) with
       | none=>simp [hrest] at hfl
       | some kr=>
        simp only [hrest,J6] at hfl;subst hfl;simp only [ac5] at hlen;obtain⟨agg,ha,hsz,h1,hE⟩:=ih f.type kf hk;simp only [pG,if_pos hn.1,Y1];rw [hn.2,uw ha hsz _ _ (λhagg=>⟨by have:=h1 hagg;omega,h1 hagg⟩),J8,
         hE D (by omega) _ (by simp;omega) e w,J8]
        exact ihl (off+kf.length) kr (by omega) hrest
      cases hfl
    exact key fs.toList 0 _ (by omega) hf;cases h
end
section
variable {P:Program}{G:Mem}{ι:K4}
theorem GD {t:TypeId}{k:zM}(h:sV P t=some k):Rn P false t=some k∧((∃j,k=.prim j)∨∃ks,k=.flat ks):=by simp only [sV] at h;split at h;cases h;exact⟨by assumption,.inl ⟨_,rfl⟩⟩;cases h;exact⟨by assumption,.inr ⟨_,rfl⟩⟩;cases h
theorem dF (f:Ja)(k:j3)(i:Nat):findKey f k [] i=some none:=rfl
theorem dG (f:Ja)(k:j3)(e:j3×j3)(es:List (j3×j3))(i:Nat):
  findKey f k (e::es) i=ob (f k e.1) λb=>bi b (some (some (i,e.2))) (findKey f k es (i+1)):=rfl
def mD (ι:K4)(r:Option (Nat×j3)):Option (Nat×Value):=r.map λp=>(p.1,o8 ι p.2)
theorem wO {f:Ja}{d:TypeDesc}(hs:∀x y r,f x y=some r->Instr.sameNow d (o8 ι x) (o8 ι y)=some r)(k:j3):
  ∀(es:List (j3×j3)) (i j:Nat) (r:Option (Nat×j3)),findKey f k es i=some r->Instr.findNow d (o8 ι k) (I5 ι es j) i=some (mD ι r)
 | [],i,j,r,h=>by rw [dF] at h;cases h;rfl
 | e::es,i,j,r,h=>by
  rw [dG] at h;obtain⟨b,h1,h2⟩:=C8 h;simp only [I5,Instr.findNow,hs _ _ _ h1];cases b with
  | true=>cases h2;rfl
  | false=>exact wO hs k es (i+1) (j+1) r h2
theorem qF {f:Ja}{t:TypeId}(hs:∀x y r,f x y=some r->∀w,(Op.equal t (o8 ι x) (o8 ι y)).run P w=.ok r w)(k:j3)(w:World):
  ∀(es:List (j3×j3)) (i j:Nat) (r:Option (Nat×j3)),findKey f k es i=some r->(Instr.findAsking t (o8 ι k) (I5 ι es j) i).run P w=.ok (mD ι r) w
 | [],i,j,r,h=>by rw [dF] at h;cases h;simp [I5,Instr.findAsking,mD]
 | e::es,i,j,r,h=>by
  rw [dG] at h;obtain⟨b,h1,h2⟩:=C8 h;simp only [I5,Instr.findAsking,Y1,hs _ _ _ h1 w,J8];cases b with
  | true=>cases h2;simp [mD]
  | false=>simpa using qF hs k w es (i+1) (j+1) r h2
theorem jL {f:Ja}{n:Nat}{k:j3}{es:List (j3×j3)}{r:Option (Nat×j3)}(h:W9 f n k es=some r):
  k.cells.length=n∧(∃y b,f k y=some b)∧findKey f k es 0=some r:=by
 obtain⟨h0,h⟩:=D7 h;have h0:=J4 h0;rw [I9] at h0;refine⟨h0,?_⟩;cases es with
 | nil=>obtain⟨b,h1,h2⟩:=C8 (show ob (f k k) (λ_=>some none)=some r from h);exact⟨⟨_,_,h1⟩,by rw [dF];exact h2⟩
 | cons e es=>have h:findKey f k (e::es) 0=some r:=h;refine⟨?_,h⟩;rw [dG] at h;obtain⟨b,h1,_⟩:=C8 h;exact⟨_,_,h1⟩
theorem vO {kk:zM}{t:TypeId}(hk:sV P t=some kk):
  (kk=.prim .b∧P.underlying t=some .bool)∨(∃k,kk=.prim .i∧P.underlying t=some (.int k))∨(kk=.prim .s∧P.underlying t=some .string)∨
  ∃fs ks,kk=.flat ks∧P.underlying t=some (.struct fs)∧eY P 10 t=some ks:=by
 obtain⟨h1,h2⟩:=GD hk;simp only [Rn] at h1;cases hu:P.underlying t with
 | none=>simp [hu] at h1
 | some u=>
  rw [hu] at h1;cases u<;>try (simp at h1;done)
  simp only [J6] at h1;subst h1;simp;simp only [J6] at h1;subst h1;simp;simp only [J6] at h1;subst h1;simp;simp only at h1;split at h1;cases h1;rcases h2 with⟨_,h2⟩ | ⟨_,h2⟩<;>cases h2
  cases h1;simp only [J6] at h1;subst h1;rcases h2 with⟨_,h2⟩ | ⟨_,h2⟩<;>cases h2
  simp only [J6] at h1;subst h1;rcases h2 with⟨_,h2⟩ | ⟨_,h2⟩<;>cases h2
  rename_i fs;simp only at h1;cases hf:eY P 10 t with
  | none=>simp [hf] at h1
  | some ks=>simp only [hf] at h1;split at h1;cases h1;exact .inr (.inr (.inr ⟨fs,ks,rfl,rfl,rfl⟩));cases h1
  simp only [J6] at h1;subst h1;rcases h2 with⟨_,h2⟩ | ⟨_,h2⟩<;>cases h2
theorem Cm {kk:zM}{t:TypeId}(hk:sV P t=some kk){k y:j3}{b:Bool}(hn:k.cells.length=zV kk)(h:lY kk k y=some b)(e:Bool)(w:World):
  (Instr.checkKey e 10000 t (o8 ι k)).run P w=.ok () w:=by
 rcases vO hk with⟨rfl,hu⟩ | ⟨_,rfl,hu⟩ | ⟨rfl,hu⟩ | ⟨fs,ks,rfl,hu,hf⟩;exact fQ (.inl hu) e _ _ w;exact fQ (.inr (.inl ⟨_,hu⟩)) e _ _ w;exact fQ (.inr (.inr hu)) e _ _ w;obtain⟨l,rfl,_⟩:=dW h;obtain⟨agg,ha,_,_,hc⟩:=Oz (P:=P) (ι:=ι) 10 t ks hf;rw [pE hu] at ha;cases ha;have:=hc 10000 (by decide) l (Nat.le_of_eq hn.symm) e w;simpa [mkV,o8] using this
theorem Rx {kk:zM}{d:TypeDesc}(h:(kk=.prim .b∧d=.bool)∨(∃k,kk=.prim .i∧d=.int k)∨(kk=.prim .s∧d=.string))(x y:j3)(r:Bool)(he:lY kk x y=some r):
  Instr.sameNow d (o8 ι x) (o8 ι y)=some r:=by
 rcases h with⟨rfl,rfl⟩ | ⟨k,rfl,rfl⟩ | ⟨rfl,rfl⟩;obtain⟨a,b,rfl,rfl,rfl⟩:=gU he;simp [o8,Instr.sameNow];obtain⟨k,a,b,rfl,rfl,rfl⟩:=nR he;simp [o8,Instr.sameNow];obtain⟨a,b,rfl,rfl,rfl⟩:=jf he;simp [o8,Instr.sameNow,kZ]
theorem lg {kk:zM}{t:TypeId}(hk:sV P t=some kk){k:j3}{es:List (j3×j3)}{r:Option (Nat×j3)}(h:findKey (lY kk) k es 0=some r)(w:World):
  (Instr.findKey t (o8 ι k) (I5 ι es 0)).run P w=.ok (mD ι r) w:=by
 have prim:∀d,P.underlying t=some d->((kk=.prim .b∧d=.bool)∨(∃k,kk=.prim .i∧d=.int k)∨(kk=.prim .s∧d=.string))->
   (Instr.findKey t (o8 ι k) (I5 ι es 0)).run P w=.ok (mD ι r) w:=by
  intro d hu hd;simp [Instr.findKey,run_underlying hu,wO (Rx hd) k es 0 0 r h]
 rcases vO hk with⟨rfl,hu⟩ | ⟨_,rfl,hu⟩ | ⟨rfl,hu⟩ | ⟨fs,ks,rfl,hu,hf⟩;exact prim _ hu (.inl ⟨rfl,rfl⟩);exact prim _ hu (.inr (.inl ⟨_,rfl,rfl⟩));exact prim _ hu (.inr (.inr ⟨rfl,rfl⟩));have ha:=qF (P:=P) (ι:=ι) (t:=t) (λx y r he w=>Bf (GD hk).1 he w) k w es 0 0 r h;cases es with
 | nil=>rw [dF] at h;cases h;simp [Instr.findKey,run_underlying hu,I5,Instr.findNow,mD]
 | cons e es=>simp only [Instr.findKey,Y1,run_underlying hu,J8];simp only [I5,Instr.findNow,Instr.sameNow];exact ha
theorem kN {f:Ja}{k:j3}:∀{es:List (j3×j3)} {i:Nat} {p:Nat×j3},findKey f k es i=some (some p)->
  ∃j e,p.1=i+j∧es[j]?=some e∧e.2=p.2∧f k e.1=some true
 | [],i,p,h=>by rw [dF] at h;cases h
 | e::es,i,p,h=>by
  rw [dG] at h;obtain⟨b,h1,h2⟩:=C8 h;cases b with
  | true=>cases h2;exact⟨0,e,rfl,rfl,rfl,h1⟩
  | false=>obtain⟨j,e',h3,h4,h5⟩:=kN h2;exact⟨j+1,e',by omega,by simpa using h4,h5⟩
end
section
variable {P:Program}{G:Mem}{slots:List Nat}{done:List (Option Nat)}
inductive ql (P:Program)(slots:List Nat)(done:List (Option Nat)):Op->Oc->Prop
 | load {t x sz x'}:partT P t=some sz->N9 P slots done x=some x'->ql P slots done (.load t x) (.load sz x')
 | look {t kt e kk z ok x k x' k'}:P.underlying t=some (.map kt e)->sV P kt=some kk->zeroV P e=some z->N9 P slots done x=some x'->N9 P slots done k=some k'->
   ql P slots done (.lookup t x k ok) (.look kk z ok x' k')
 | lenM {c t kt e x x'}:c.callee=.builtin .len->c.argTypes.toList=[t]->c.args.toList=[x]->P.underlying t=some (.map kt e)->N9 P slots done x=some x'->
   ql P slots done (.call c) (.lenM x')
 | slData {c t e x x'}:c.callee=.builtin .unsafeSliceData->c.argTypes.toList=[t]->c.args.toList=[x]->P.underlying t=some (.slice e)->N9 P slots done x=some x'->ql P slots done (.call c) (.slData x')
 | toUns {a b t x x' k}:P.underlying a=some (.pointer t)->P.underlying b=some .unsafePointer->aK P t=some k->k≠0->N9 P slots done x=some x'->ql P slots done (.convert a b x) (.toUns x')
 | fromUns {a b u x x' k}:P.underlying a=some .unsafePointer->P.underlying b=some (.pointer u)->aK P u=some k->k≠0->N9 P slots done x=some x'->ql P slots done (.convert a b x) (.fromUns (Lf P u) x')
 | bytesStr {a b e x x'}:P.underlying a=some (.slice e)->P.underlying b=some .string->P.underlying e=some (.int .u8)->N9 P slots done x=some x'->
   ql P slots done (.convert a b x) (.bytesStr x')
 | entry {x x'}:N9 P slots done x=some x'->ql P slots done (.entry x) (.entry x')
set_option maxHeartbeats 1000000 in
theorem uE {op:Op}{ro:Oc}(h:fO P slots done op=some (.r ro)):ql P slots done op ro:=by
 cases op with
 | load t x=>obtain⟨sz,h1,h⟩:=bind_eq h;obtain⟨x',h2,h⟩:=bind_eq h;cases h;exact .load h1 h2
 | lookup t x k ok=>obtain⟨u,hu,h⟩:=bind_eq h;split at h;obtain⟨kk,h1,h⟩:=bind_eq h;obtain⟨z,h2,h⟩:=bind_eq h;obtain⟨x',h3,h⟩:=bind_eq h;obtain⟨k',h4,h⟩:=bind_eq h;cases h;exact .look hu h1 h2 h3 h4;cases h
 | entry x=>obtain⟨x',h2,h⟩:=bind_eq h;cases h;exact .entry h2
 | convert a b x=>obtain⟨u,hu,h⟩:=bind_eq h;obtain⟨v,hv,h⟩:=bind_eq h;split at h;obtain⟨_,_,h⟩:=bind_eq h;cases h;obtain⟨_,_,h⟩:=bind_eq h;split at h;obtain⟨_,_,h⟩:=bind_eq h;cases h;cases h;obtain⟨w,hw,h⟩:=bind_eq h;split at h;obtain⟨x',hx,h⟩:=bind_eq h;cases h;exact .bytesStr hu hv hw hx;cases h;obtain⟨k,hk,h⟩:=bind_eq h;split at h;cases h;obtain⟨x',hx,h⟩:=bind_eq h;cases h;exact .toUns hu hv hk (by assumption) hx;obtain⟨k,hk,h⟩:=bind_eq h;split at h;cases h;obtain⟨x',hx,h⟩:=bind_eq h;cases h;exact .fromUns hu hv hk (by assumption) hx;cases h
 | call c=>
  simp only [fO] at h;split at h
  ·rename_i b hb;simp only [uf] at h;split at h;rename_i h1 h2;obtain⟨u,hu,h⟩:=bind_eq h;split at h;obtain⟨_,_,h⟩:=bind_eq h;cases h;obtain⟨_,_,h⟩:=bind_eq h;cases h;cases h;obtain⟨x',hx,h⟩:=bind_eq h;cases h;exact .lenM hb h1 h2 hu hx;cases h
   case h_9 h1 h2=>obtain⟨u,hu,h⟩:=bind_eq h;split at h;obtain⟨x',hx,h⟩:=bind_eq h;cases h;exact .slData hb h1 h2 hu hx;cases h
   all_goals (repeat' (first | (cases h;done) | (obtain⟨_,_,h⟩:=bind_eq h) | split at h))
  ·obtain⟨_,_,h⟩:=bind_eq h;repeat' (first | (cases h;done) | (obtain⟨_,_,h⟩:=bind_eq h) | split at h)
  obtain⟨_,_,h⟩:=bind_eq h;obtain⟨_,_,h⟩:=bind_eq h;cases h;cases h
 | build t parts=>simp only [fO,xq] at h;repeat' (first | (cases h;done) | split at h)
 | slice t x lo hi mx=>
  cases mx with
  | some m=>simp only [fO] at h;cases h
  | none=>simp only [fO] at h;repeat' (first | (cases h;done) | (obtain⟨_,_,h⟩:=bind_eq h) | split at h)
 | next it str=>
  cases str with
  | true=>simp only [fO] at h;obtain⟨_,_,h⟩:=bind_eq h;cases h
  | false=>simp only [fO] at h;obtain⟨_,_,h⟩:=bind_eq h;cases h
 | _=>simp only [fO] at h;repeat' (first | (cases h;done) | (obtain⟨_,_,h⟩:=bind_eq h) | split at h)
inductive mo (P:Program)(slots:List Nat)(done:List (Option Nat)):Op->Rh->Prop
 | alloc {t z}:qA P t=some z->mo P slots done (.alloc t) (.alloc z)
 | box {t x x'}:N9 P slots done x=some x'->mo P slots done (.box t x) (.box x')
 | allocT {t z}:BS P t=some z->mo P slots done (.alloc t) (.allocT t z)
 | boxT {t k x x'}:aK P t=some k->N9 P slots done x=some x'->mo P slots done (.box t x) (.boxT t k x')
 | buildSlice {t len parts e es ps z}:P.underlying t=some (.slice e)->aK P e=some es->tZ P slots done (λi=>some (i*es,es)) parts.toList=some ps->len*es<=16777216->
   qA P e=some z->mo P slots done (.buildSlice t len parts) (.buildSlice es len z ps)
 | mkMap {t}:mo P slots done (.makeMap t none) .mkMap
 | mkMapN {t k n kt e}:P.underlying t=some (.map kt e)->mo P slots done (.makeMap t (some (.const (.int k n)))) .mkMap
 | mkSlice {t l c e es by' z l' c'}:P.underlying t=some (.slice e)->aK P e=some es->fE P e=some by'->BS P e=some z->N9 P slots done l=some l'->N9 P slots done c=some c'->
   mo P slots done (.makeSlice t l c) (.mkSlice es by' z l' c')
 | strBytes {a b e x x'}:P.underlying a=some .string->P.underlying b=some (.slice e)->P.underlying e=some (.int .u8)->N9 P slots done x=some x'->
   mo P slots done (.convert a b x) (.strBytes x')
 | sl {t x lo hi e es x' lo' hi'}:P.underlying t=some (.slice e)->aK P e=some es->N9 P slots done x=some x'->cOpt P slots done lo=some lo'->cOpt P slots done hi=some hi'->
   mo P slots done (.slice t x lo hi none) (.sl es x' lo' hi')
set_option maxHeartbeats 1000000 in
theorem yJ {op:Op}{lo:Rh}(h:fO P slots done op=some (.a lo)):mo P slots done op lo:=by
 cases op with
 | alloc t=>simp only [fO] at h;split at h;obtain⟨z,h1,h⟩:=bind_eq h;cases h;exact .allocT h1;obtain⟨z,h1,h⟩:=bind_eq h;cases h;exact .alloc h1
 | box t x=>simp only [fO] at h;split at h;obtain⟨k,h1,h⟩:=bind_eq h;obtain⟨z,h2,h⟩:=bind_eq h;cases h;exact .boxT h1 h2;obtain⟨z,h1,h⟩:=bind_eq h;cases h;exact .box h1
 | buildSlice t len parts=>obtain⟨u,hu,h⟩:=bind_eq h;split at h;obtain⟨es,h1,h⟩:=bind_eq h;obtain⟨ps,h2,h⟩:=bind_eq h;split at h;rename_i hle;obtain⟨z,h3,h⟩:=bind_eq h;cases h;exact .buildSlice hu h1 h2 hle h3;cases h;cases h
 | makeMap t r=>simp only [fO] at h;split at h;cases h;exact .mkMap;split at h;rename_i hu;cases h;exact .mkMapN hu;cases h;cases h
 | makeSlice t l c=>obtain⟨u,hu,h⟩:=bind_eq h;split at h;obtain⟨_,h1,h⟩:=bind_eq h;obtain⟨_,h2,h⟩:=bind_eq h;obtain⟨_,h3,h⟩:=bind_eq h;obtain⟨_,h4,h⟩:=bind_eq h;obtain⟨_,h5,h⟩:=bind_eq h;cases h;exact .mkSlice hu h1 h2 h3 h4 h5;cases h
 | convert a b x=>obtain⟨u,hu,h⟩:=bind_eq h;obtain⟨v,hv,h⟩:=bind_eq h;split at h;obtain⟨_,_,h⟩:=bind_eq h;cases h;obtain⟨w,hw,h⟩:=bind_eq h;split at h;obtain⟨_,hx,h⟩:=bind_eq h;cases h;exact .strBytes hu hv hw hx;cases h;obtain⟨w,hw,h⟩:=bind_eq h;split at h;obtain⟨x',hx,h⟩:=bind_eq h;cases h;cases h;all_goals (repeat' (first | (cases h;done) | (obtain⟨_,_,h⟩:=bind_eq h) | split at h))
 | slice t x lo hi mx=>
  cases mx with
  | some m=>simp only [fO] at h;cases h
  | none=>simp only [fO] at h;obtain⟨u,hu,h⟩:=bind_eq h;split at h;obtain⟨_,_,h⟩:=bind_eq h;obtain⟨_,_,h⟩:=bind_eq h;obtain⟨_,_,h⟩:=bind_eq h;cases h;obtain⟨_,h1,h⟩:=bind_eq h;obtain⟨_,h2,h⟩:=bind_eq h;obtain⟨_,h3,h⟩:=bind_eq h;obtain⟨_,h4,h⟩:=bind_eq h;cases h;exact .sl hu h1 h2 h3 h4;obtain⟨_,_,h⟩:=bind_eq h;obtain⟨_,_,h⟩:=bind_eq h;obtain⟨_,_,h⟩:=bind_eq h;obtain⟨_,_,h⟩:=bind_eq h;cases h;cases h
 | call c=>
  simp only [fO] at h;split at h
  ·simp only [uf] at h;split at h;all_goals (repeat' (first | (cases h;done) | (obtain⟨_,_,h⟩:=bind_eq h) | split at h))
  ·obtain⟨_,_,h⟩:=bind_eq h;repeat' (first | (cases h;done) | (obtain⟨_,_,h⟩:=bind_eq h) | split at h)
  obtain⟨_,_,h⟩:=bind_eq h;obtain⟨_,_,h⟩:=bind_eq h;cases h;cases h
 | build t parts=>simp only [fO,xq] at h;repeat' (first | (cases h;done) | split at h)
 | next it str=>
  cases str with
  | true=>simp only [fO] at h;obtain⟨_,_,h⟩:=bind_eq h;cases h
  | false=>simp only [fO] at h;obtain⟨_,_,h⟩:=bind_eq h;cases h
 | _=>simp only [fO] at h;repeat' (first | (cases h;done) | (obtain⟨_,_,h⟩:=bind_eq h) | split at h)
inductive ku (P:Program)(slots:List Nat)(done:List (Option Nat)):Op->TI->Prop
 | store {t a x k a' x'}:aK P t=some k->N9 P slots done a=some a'->N9 P slots done x=some x'->ku P slots done (.store t a x) (.store k a' x')
 | mapUpdate {t m k x kt e kk m' k' x'}:P.underlying t=some (.map kt e)->sV P kt=some kk->N9 P slots done m=some m'->N9 P slots done k=some k'->N9 P slots done x=some x'->
   ku P slots done (.mapUpdate t m k x) (.mapSet kk m' k' x')
 | insert {t m k x kt e kk m' k' x'}:P.underlying t=some (.map kt e)->sV P kt=some kk->N9 P slots done m=some m'->N9 P slots done k=some k'->N9 P slots done x=some x'->
   ku P slots done (.insert t m k x) (.mapSet kk m' k' x')
 | range {t x k e x'}:P.underlying t=some (.map k e)->N9 P slots done x=some x'->ku P slots done (.range t x) (.range x')
 | next {x x'}:N9 P slots done x=some x'->ku P slots done (.next x false) (.next x')
 | app {c t u s x e es z by' s' x' d}:P.underlying u=some d->c.callee=.builtin .append->c.argTypes.toList=[t,u]->c.args.toList=[s,x]->P.underlying t=some (.slice e)->
   aK P e=some es->BS P e=some z->fE P e=some by'->N9 P slots done s=some s'->N9 P slots done x=some x'->
   ku P slots done (.call c) (.app es (match d with | .int _=>true | _=>false) z by' s' x')
 | copy {c t u d s e es d' s'}:c.callee=.builtin .copy->c.argTypes.toList=[t,u]->c.args.toList=[d,s]->P.underlying t=some (.slice e)->
   aK P e=some es->N9 P slots done d=some d'->N9 P slots done s=some s'->ku P slots done (.call c) (.copy es d' s')
 | clear {c t x e z x'}:c.callee=.builtin .clear->c.argTypes.toList=[t]->c.args.toList=[x]->P.underlying t=some (.slice e)->
   qA P e=some z->N9 P slots done x=some x'->ku P slots done (.call c) (.clear z x')
 | call {c f fn as}:c.callee=.value (.func f)->P.funcs[f]?=some fn->fn.body.isSome=true->fn.name≠ "runtime.NumGoroutine"->jr P slots done c.args.toList=some as->
   ku P slots done (.call c) (.call f as)
 | rangeS {t x x'}:P.underlying t=some .string->N9 P slots done x=some x'->ku P slots done (.range t x) (.rangeS x')
 | nextS {x x'}:N9 P slots done x=some x'->ku P slots done (.next x true) (.nextS x')
 | appB {c t u s x e s' x'}:P.underlying u=some .string->c.callee=.builtin .append->c.argTypes.toList=[t,u]->c.args.toList=[s,x]->P.underlying t=some (.slice e)->Bb P e=true->
   N9 P slots done s=some s'->N9 P slots done x=some x'->ku P slots done (.call c) (.appB e s' x')
 | ustr {c t u p n e p' n'}:c.callee=.builtin .unsafeString->c.argTypes.toList=[t,u]->c.args.toList=[p,n]->P.underlying t=some (.pointer e)->Bb P e=true->
   N9 P slots done p=some p'->N9 P slots done n=some n'->ku P slots done (.call c) (.ustr e p' n')
 | panic {x x'}:N9 P slots done x=some x'->ku P slots done (.panic x) (.panic x')
 | defer {c f f' as}:c.callee=.value f->N9 P slots done f=some f'->jr P slots done c.args.toList=some as->ku P slots done (.defer c) (.defer f' as)
 | recover {c}:c.callee=.builtin .recover->ku P slots done (.call c) .recover
 | callv {c f f' as}:c.callee=.value f->N9 P slots done f=some f'->jr P slots done c.args.toList=some as->
   ku P slots done (.call c) (.callv f' as)
set_option maxHeartbeats 1000000 in
theorem yK {op:Op}{eo:TI}(h:fO P slots done op=some (.e eo)):ku P slots done op eo:=by
 cases op with
 | store t a x=>obtain⟨_,h1,h⟩:=bind_eq h;obtain⟨_,h2,h⟩:=bind_eq h;obtain⟨_,h3,h⟩:=bind_eq h;cases h;exact .store h1 h2 h3
 | mapUpdate t m k x=>obtain⟨u,hu,h⟩:=bind_eq h;split at h;obtain⟨_,h1,h⟩:=bind_eq h;obtain⟨_,h2,h⟩:=bind_eq h;obtain⟨_,h3,h⟩:=bind_eq h;obtain⟨_,h4,h⟩:=bind_eq h;cases h;exact .mapUpdate hu h1 h2 h3 h4;cases h
 | insert t m k x=>obtain⟨u,hu,h⟩:=bind_eq h;split at h;obtain⟨_,h1,h⟩:=bind_eq h;obtain⟨_,h2,h⟩:=bind_eq h;obtain⟨_,h3,h⟩:=bind_eq h;obtain⟨_,h4,h⟩:=bind_eq h;cases h;exact .insert hu h1 h2 h3 h4;cases h
 | range t x=>obtain⟨u,hu,h⟩:=bind_eq h;split at h;obtain⟨_,h1,h⟩:=bind_eq h;cases h;exact .range hu h1;obtain⟨_,h1,h⟩:=bind_eq h;cases h;exact .rangeS hu h1;cases h
 | next it str=>
  cases str with
  | true=>simp only [fO] at h;obtain⟨_,h1,h⟩:=bind_eq h;cases h;exact .nextS h1
  | false=>simp only [fO] at h;obtain⟨_,h1,h⟩:=bind_eq h;cases h;exact .next h1
 | panic x=>obtain⟨_,h1,h⟩:=bind_eq h;cases h;exact .panic h1
 | defer c=>simp only [fO] at h;split at h;obtain⟨_,h1,h⟩:=bind_eq h;obtain⟨_,h2,h⟩:=bind_eq h;cases h;exact .defer (by assumption) h1 h2;cases h
 | convert a b x=>obtain⟨u,hu,h⟩:=bind_eq h;obtain⟨v,hv,h⟩:=bind_eq h;repeat' (first | (cases h;done) | (obtain⟨_,_,h⟩:=bind_eq h) | split at h)
 | slice t x lo hi mx=>
  cases mx with
  | some m=>simp only [fO] at h;cases h
  | none=>simp only [fO] at h;repeat' (first | (cases h;done) | (obtain⟨_,_,h⟩:=bind_eq h) | split at h)
 | call c=>
  simp only [fO] at h;split at h
  ·rename_i b hb;simp only [uf] at h;split at h
   ·repeat' (first | (cases h;done) | (obtain⟨_,_,h⟩:=bind_eq h) | split at h)
   ·repeat' (first | (cases h;done) | (obtain⟨_,_,h⟩:=bind_eq h) | split at h)
   rename_i h1 h2;obtain⟨u,hu,h⟩:=bind_eq h;split at h;obtain⟨d,hd,h⟩:=bind_eq h;split at h;rename_i hbt;obtain⟨_,h6,h⟩:=bind_eq h;obtain⟨_,h7,h⟩:=bind_eq h;cases h;rw [U9] at hbt;have:d=.string:=by have:=hbt.1;cases d<;>first | rfl | cases this
   exact .appB (by rw [hd,this]) hb h1 h2 hu hbt.2 h6 h7;obtain⟨_,h3,h⟩:=bind_eq h;obtain⟨_,h4,h⟩:=bind_eq h;obtain⟨_,h5,h⟩:=bind_eq h;obtain⟨_,h6,h⟩:=bind_eq h;obtain⟨_,h7,h⟩:=bind_eq h;cases h;exact .app hd hb h1 h2 hu h3 h4 h5 h6 h7;cases h;rename_i h1 h2;obtain⟨u,hu,h⟩:=bind_eq h;split at h;obtain⟨_,h3,h⟩:=bind_eq h;obtain⟨_,h4,h⟩:=bind_eq h;obtain⟨_,h5,h⟩:=bind_eq h;cases h;exact .copy hb h1 h2 hu h3 h4 h5;cases h;rename_i h1 h2;obtain⟨u,hu,h⟩:=bind_eq h;split at h;obtain⟨_,h3,h⟩:=bind_eq h;obtain⟨_,h4,h⟩:=bind_eq h;cases h;exact .clear hb h1 h2 hu h3 h4;cases h
   case h_10 h1 h2=>obtain⟨u,hu,h⟩:=bind_eq h;split at h;split at h;rename_i hbt;obtain⟨_,h3,h⟩:=bind_eq h;obtain⟨_,h4,h⟩:=bind_eq h;cases h;exact .ustr hb h1 h2 hu hbt h3 h4;cases h;cases h
   all_goals (first | (cases h;exact .recover hb;done) | (repeat' (first | (cases h;done) | (obtain⟨_,_,h⟩:=bind_eq h) | split at h)))
  ·rename_i f hf;obtain⟨fn,h1,h⟩:=bind_eq h;split at h;rename_i hc;obtain⟨as,h2,h⟩:=bind_eq h;cases h;simp only [U9,bne_iff_ne,ne_eq] at hc;exact .call hf h1 hc.1 hc.2 h2
   ·repeat' (first | (cases h;done) | (obtain⟨_,_,h⟩:=bind_eq h) | split at h)
  rename_i f hf _;obtain⟨_,h1,h⟩:=bind_eq h;obtain⟨_,h2,h⟩:=bind_eq h;cases h;exact .callv (by assumption) h1 h2;cases h
 | build t parts=>simp only [fO,xq] at h;repeat' (first | (cases h;done) | split at h)
 | _=>simp only [fO] at h;repeat' (first | (cases h;done) | (obtain⟨_,_,h⟩:=bind_eq h) | split at h)
end
section
variable {P:Program}{G:Mem}{ι:K4}{m:Mem}{w:World}{slots:List Nat}{done:List (Option Nat)}{ls:List j3}{env:T j3}{a:Act}
def Qf (P:Program)(ρ:Operand->Value)(op:Op)(v:Value)(w:World):Prop:=
 ∀(o:Oper),o.op=op->(execOp ρ o).run P w=.ok (.value v) w
theorem fq {r:Nat}{o:Obj}(h:w.heap[r]?=some o)(ho:∀c e fz,o≠.cells c e fz):(getObj r).run P w=.ok o w:=by simp only [getObj,Sem.run,h]
theorem Jv (hm:RM P G ι m w.heap){id:Nat}{es:List (j3×j3)}(hg:m.get id=some (.map es)):
  (getObj (ι id).b).run P w=.ok (.map (I5 ι es 0).toArray es.length) w∧∀e∈es,e.1.lt (m.nm ι)∧e.2.lt (m.nm ι):=by
 obtain⟨h1,h2⟩:=hm.blk id _ hg;exact⟨fq h1 (by intro _ _ _ e;cases e),h2⟩
def uF (ι:K4)(ok:Bool)(z:j3)(r:Option (Nat×j3)):Value:=match r with
 | some p=>if ok then .tuple #[o8 ι p.2,.bool true] else o8 ι p.2
 | none=>if ok then .tuple #[o8 ι z,.bool false] else o8 ι z
theorem Bh {ok:Bool}{z v:j3}{r:Option (Nat×j3)}(h:found ok z r=some v){n:Nm}(hz:z.lt n)(hr:∀p,r=some p->p.2.lt n):
  v.lt n∧o8 ι v=uF ι ok z r:=by
 cases r with
 | none=>have h:some (bi ok (.tuple [z,.bool false]) z)=some v:=h;cases h;cases ok<;>simp [bi,j3.lt,aS,o8,y7,hz,uF]
 | some p=>have h:some (bi ok (.tuple [p.2,.bool true]) p.2)=some v:=h;cases h;have:=hr p rfl;cases ok<;>simp [bi,j3.lt,aS,o8,y7,this,uF]
theorem yL (w:World){t kt e:TypeId}{kk:zM}{z:j3}(hu:P.underlying t=some (.map kt e))(hk:sV P kt=some kk)(hz:zeroV P e=some z){ok:Bool}{k v:j3}
  {es:List (j3×j3)} {r:Option (Nat×j3)} {n:Nm} (hes:∀e∈es,e.1.lt n∧e.2.lt n) (hf:W9 (lY kk) (zV kk) k es=some r) (hv:found ok z r=some v):
  v.lt n∧∀x,(x=.map none∧es=[])∨(∃b,x=.map (some b)∧∀w',w'=w->(getObj b).run P w'=.ok (.map (I5 ι es 0).toArray es.length) w')->
   (Instr.lookup t x (o8 ι k) ok).run P w=.ok (o8 ι v) w:=by
 obtain⟨h1,⟨y,b,h2⟩,h3⟩:=jL hf;obtain⟨hz1,hz2⟩:=nC (w:=w) hz ι;obtain⟨g1,g2⟩:=Bh (ι:=ι) hv (hz2 n) (λp hp=>by
  subst hp;obtain⟨j,e',_,h5,h6,_⟩:=kN h3;rw [← h6];exact (hes e' (Y5 h5)).2)
 refine⟨g1,λx hx=>?_⟩;have hc:=λb'=>Cm (ι:=ι) hk h1 h2 b' w;have hfk:=lg (ι:=ι) hk h3 w;rcases hx with⟨rfl,rfl⟩ | ⟨b,rfl,hb⟩;simp only [Instr.lookup,Y1,run_underlying hu,J8,aat,hc];rw [show Instr.findKey kt (o8 ι k) []=Instr.findKey kt (o8 ι k) (I5 ι [] 0) from rfl,hfk];simp only [J8];rw [dF] at h3;cases h3;simp [mD,hz1,g2,uF];simp only [Instr.lookup,Y1,run_underlying hu,J8,hb w rfl,aat,hc];rw [hfk];simp only [J8];cases r with
 | none=>simp [mD,hz1,g2,uF]
 | some p=>simp [mD,g2,uF]
theorem Cn {β:Type}{b:Option O9}{k:List (j3×j3)->Option β}{r:β}(h:KQ b k=some r):∃es,(b=some (.map es)∨b=some (.mapU es))∧k es=some r:=by
 match b,h with
 | some (.map es),h=>exact⟨es,.inl rfl,h⟩
 | some (.mapU es),h=>exact⟨es,.inr rfl,h⟩
def sW (x:MapEntry):Value×Value:=(x.key,x.val)
theorem DI (d:TypeDesc)(k:Value):∀(L M:List MapEntry) (i:Nat),L.map sW=M.map sW->Instr.findNow d k L i=Instr.findNow d k M i
 | [],[],_,_=>rfl
 | [],_ :: _,_,h=>by cases h
 | _ :: _,[],_,h=>by cases h
 | x::L,y::M,i,h=>by simp only [aaZ,afn,sW,ain] at h;obtain⟨⟨h1,h2⟩,h3⟩:=h;simp only [Instr.findNow,h1,h2,DI d k L M (i+1) h3]
theorem wP (t:TypeId)(k:Value):∀(L M:List MapEntry) (i:Nat),L.map sW=M.map sW->Instr.findAsking t k L i=Instr.findAsking t k M i
 | [],[],_,_=>rfl
 | [],_ :: _,_,h=>by cases h
 | _ :: _,[],_,h=>by cases h
 | x::L,y::M,i,h=>by simp only [aaZ,afn,sW,ain] at h;obtain⟨⟨h1,h2⟩,h3⟩:=h;simp only [Instr.findAsking,h1,h2,wP t k L M (i+1) h3]
theorem DJ (t:TypeId)(k:Value){L M:List MapEntry}(h:L.map sW=M.map sW):Instr.findKey t k L=Instr.findKey t k M:=by unfold Instr.findKey;congr 1;funext d;rw [DI d k L M 0 h,wP t k L M 0 h]
theorem Bj {α β:Type}(f:α->β):∀{l:List β} {es:List α},l.Perm (es.map f)->∃es':List α,es'.Perm es∧l=es'.map f:=by
 intro l es h;generalize hm:es.map f=m at h;induction h generalizing es with
 | nil=>exact⟨[],by simp at hm;subst hm;exact .nil,rfl⟩
 | cons x h ih=>
  cases es with
  | nil=>cases hm
  | cons e es=>simp only [aaZ,afn] at hm;obtain⟨es',h1,h2⟩:=ih hm.2;exact⟨e::es',h1.cons e,by rw [h2,← hm.1];rfl⟩
 | swap x y l=>
  match es,hm with
  | a::b::es,hm=>simp only [aaZ,afn] at hm;exact⟨b::a::es,.swap _ _ _,by rw [← hm.1,← hm.2.1,← hm.2.2];rfl⟩
  | [],hm=>cases hm
  | [_],hm=>simp at hm
 | trans h1 h2 ih1 ih2=>obtain⟨es1,p1,q1⟩:=ih2 hm;obtain⟨es2,p2,q2⟩:=ih1 q1.symm;exact⟨es2,p2.trans p1,q2⟩
theorem xC (ι:K4):∀(es:List (j3×j3)) (i:Nat),(I5 ι es i).map sW=es.map λe=>(o8 ι e.1,o8 ι e.2)
 | [],_=>rfl
 | e::es,i=>by simp [I5,sW,xC ι es]
theorem xD {s:List UInt8}:∀(es:List (j3×j3)) (i:Nat),(∀e∈es,∃t,e.1=.str t)->(∀e∈es,e.1≠.str s)->findKey eqStr (.str s) es i=some none
 | [],_,_,_=>rfl
 | e::es,i,h1,h2=>by obtain⟨t,ht⟩:=h1 e (by simp);have hne:s≠t:=λh=>h2 e (by simp) (by rw [ht,h]);rw [dG,ht];show ob (some (strEq s t)) _=_;rw [gT,beq_eq_false_iff_ne.2 hne];exact xD es (i+1) (λx hx=>h1 x (by simp [hx])) (λx hx=>h2 x (by simp [hx]))
theorem pI {s:List UInt8}{v:j3}:∀(es:List (j3×j3)) (i:Nat),(∀e∈es,∃t,e.1=.str t)->(es.map (·.1)).Nodup->(.str s,v)∈es->∃j,findKey eqStr (.str s) es i=some (some (i+j,v))∧es[j]?=some (.str s,v)
 | [],_,_,_,h=>by cases h
 | e::es,i,h1,h2,h3=>by
  obtain⟨t,ht⟩:=h1 e (by simp);rw [dG,ht];have hq:∀k:Bool->Option (Option (Nat×j3)),ob (eqStr (.str s) (.str t)) k=k (s==t):=λk=>by show k (strEq s t)=_;rw [gT]
  rw [hq];simp only [aaZ,afp] at h2;rcases Z7.1 h3 with h3 | h3;have:s=t:=by rw [← h3] at ht;simpa using ht
  subst this;refine⟨0,?_,by rw [← h3];rfl⟩;rw [beq_self_eq_true,← h3];rfl;have hne:s≠t:=λh=>h2.1 (by rw [ht,← h];exact aeg.2 ⟨_,h3,rfl⟩);rw [beq_eq_false_iff_ne.2 hne];obtain⟨j,q1,q2⟩:=pI es (i+1) (λx hx=>h1 x (by simp [hx])) h2.2 h3;exact⟨j+1,by rw [show i+(j+1)=i+1+j from by omega];exact q1,q2⟩
theorem Qg {kk:zM}{t:TypeId}(hk:sV P t=some kk){k:j3}{s:List UInt8}{b:Bool}(h:lY kk k (.str s)=some b):kk=.prim .s∧∃u,k=.str u:=by rcases vO hk with⟨rfl,_⟩ | ⟨_,rfl,_⟩ | ⟨rfl,_⟩ | ⟨fs,ks,rfl,_,_⟩;obtain⟨_,_,_,h,_⟩:=gU h;cases h;obtain⟨_,_,_,_,h,_⟩:=nR h;cases h;obtain⟨a,_,h,_⟩:=jf h;exact⟨rfl,a,h⟩;obtain⟨_,_,h⟩:=dW h;obtain⟨_,h,_⟩:=dW h;cases h
theorem aa2 {kk:zM}{t:TypeId}(hk:sV P t=some kk){k:j3}{es es':List (j3×j3)}(hp:es'.Perm es)(h1:∀e∈es,∃s,e.1=.str s)(h2:(es.map (·.1)).Nodup){r:Option (Nat×j3)}(hf:W9 (lY kk) (zV kk) k es=some r):
  ∃r',findKey (lY kk) k es' 0=some r'∧r'.map (·.2)=r.map (·.2):=by
 obtain⟨_,_,h3⟩:=jL hf;cases es with
 | nil=>rw [List.Perm.eq_nil hp];rw [dF] at h3;cases h3;exact⟨none,dF ..,rfl⟩
 | cons e es=>
  obtain⟨s0,hs0⟩:=h1 e (by simp);have:∃b,lY kk k (.str s0)=some b:=by rw [dG,hs0] at h3;obtain⟨b,hb,_⟩:=C8 h3;exact⟨b,hb⟩
  obtain⟨b,hb⟩:=this;obtain⟨rfl,u,rfl⟩:=Qg hk hb;have h1':∀x∈es',∃s,x.1=.str s:=λx hx=>h1 x (hp.mem_iff.1 hx);have h2':(es'.map (·.1)).Nodup:=(hp.map _).nodup_iff.2 h2;have h3:findKey eqStr (.str u) (e::es) 0=some r:=h3;by_cases hin:∃v,(j3.str u,v)∈e::es;obtain⟨v,hv⟩:=hin;obtain⟨j,q1,_⟩:=pI (e::es) 0 h1 h2 hv;obtain⟨j',q2,_⟩:=pI es' 0 h1' h2' (hp.mem_iff.2 hv);rw [q1] at h3;cases h3;exact⟨_,q2,rfl⟩;have hno:∀(l:List (j3×j3)),(∀x∈l,x∈e::es)->∀x∈l,x.1≠.str u:=λl hl x hx h=>hin ⟨x.2,by rw [← h];exact hl x hx⟩;have q1:=xD (e::es) 0 h1 (hno _ λx hx=>hx);have q2:=xD es' 0 h1' (hno _ λx hx=>hp.mem_iff.1 hx);rw [q1] at h3;cases h3;exact⟨none,q2,rfl⟩
theorem Ry {ok:Bool}{z:j3}{r r':Option (Nat×j3)}(h:r'.map (·.2)=r.map (·.2)):found ok z r'=found ok z r:=by
 cases r<;>cases r'<;>simp at h
 rfl;rename_i p q;show some (bi ok (j3.tuple [q.2,.bool true]) q.2)=some (bi ok (j3.tuple [p.2,.bool true]) p.2);rw [h]
theorem FY (w:World){t kt e:TypeId}{kk:zM}{z:j3}(hu:P.underlying t=some (.map kt e))(hk:sV P kt=some kk)(hz:zeroV P e=some z){ok:Bool}{k v:j3}
  {es:List (j3×j3)} {r:Option (Nat×j3)} {n:Nm} (hes:∀e∈es,e.1.lt n∧e.2.lt n) (hf:W9 (lY kk) (zV kk) k es=some r) (hv:found ok z r=some v)
  {L:List MapEntry} {ck b:Nat} (hU:UOk ι es L) (hb:(getObj b).run P w=.ok (.map L.toArray ck) w):
  v.lt n∧(Instr.lookup t (.map (some b)) (o8 ι k) ok).run P w=.ok (o8 ι v) w:=by
 obtain⟨h1,⟨y,b',h2⟩,h3⟩:=jL hf;obtain⟨hp,hs,hn⟩:=hU;obtain⟨es',p1,p2⟩:=Bj _ hp;obtain⟨r',q1,q2⟩:=aa2 hk p1 hs hn hf;obtain⟨hz1,hz2⟩:=nC (w:=w) hz ι;rw [← Ry q2] at hv;obtain⟨g1,g2⟩:=Bh (ι:=ι) hv (hz2 n) (λp hp=>by
  subst hp;obtain⟨j,e',_,h5,h6,_⟩:=kN q1;rw [← h6];exact (hes e' (p1.mem_iff.1 (Y5 h5))).2)
 refine⟨g1,?_⟩;have hc:=λb'=>Cm (ι:=ι) hk h1 h2 b' w;have hfk:=lg (ι:=ι) hk q1 w;rw [DJ kt (o8 ι k) (show (I5 ι es' 0).map sW=L.map sW from by rw [xC];exact p2.symm)] at hfk;simp only [Instr.lookup,Y1,run_underlying hu,J8,hb,aat,hc];rw [hfk];simp only [J8];cases r' with
 | none=>simp [mD,hz1,g2,uF]
 | some p=>simp [mD,g2,uF]
theorem BZ (ts:Array TypeId)(ty:TypeId)(l c:Nat)(w:World):(Builtin.unsafeSliceData_ ts ty #[.slice none l c]).run P w=.ok (.pointer none) w:=rfl
theorem DK {ts:Array TypeId}{ty:TypeId}{a:Addr}{l c:Nat}(h:c≠0)(w:World):(Builtin.unsafeSliceData_ ts ty #[.slice (some a) l c]).run P w=.ok (.pointer (some a)) w:=by have e:Builtin.unsafeSliceData_ ts ty #[.slice (some a) l c]=(if c≠0 then pure (.pointer (some a)) else do if (← viewAt a.block).isSome then pure (.pointer (some a)) else pure (.pointer (some ⟨← newObj (.view a (← elemOf ty)),0,none⟩))):=rfl;rw [e,if_pos h];rfl
theorem yM:∀(l:List j3) (s:List UInt8),byteOf l=some s->∀(acc:ByteArray) (w:World),
  (forIn (y7 ι l) acc (λc (r:ByteArray)=>match c with
   | .int .u8 n=>pure (ForInStep.yield (r.push (UInt8.ofNat n.toNat)))
   | _=>do stuck "bytesToString: byte expected";pure (ForInStep.yield r)):Sem ByteArray).run P w=.ok ⟨acc.data++s.toArray⟩ w
 | [],s,h,acc,w=>by simp [byteOf] at h;subst h;simp [y7]
 | v::l,s,h,acc,w=>by
  cases v<;>try (simp [byteOf] at h;done)
  rename_i k n;cases k<;>try (simp [byteOf] at h;done)
  cases n with
  | negSucc n=>simp [byteOf] at h
  | ofNat n=>
   simp only [byteOf] at h;cases hb:byteOf l with
   | none=>simp [hb] at h
   | some s'=>simp only [hb,J6] at h;subst h;simp only [y7,o8,aiv,Y1,aat,J8];rw [yM l s' hb];congr 1;simp [ByteArray.push]
theorem mE {x:Value}{m:Mem}(hm:RM P G ι m w.heap){id off len c:Nat}(hx:x=.slice (some (ι.at id off)) len c){l:List j3}{s:List UInt8}
  (h1:X0 m id off len=some l) (h2:byteOf l=some s):(Conv.bytesToString x).run P w=.ok (o8 ι (.str s)) w:=by
 obtain⟨g1,_,g3⟩:=jK hm h1;have h:=qj (P:=P) g3;rw [g1] at h;subst hx;have:=yM (P:=P) (ι:=ι) l s h2 ByteArray.empty w;simp only [Conv.bytesToString,Y1,h,J8];rw [← aiE]
 erw [this]
 simp [o8,aat]
theorem yN (ι:K4):∀(es:List (j3×j3)) (i j:Nat),(I5 ι es j).find? (λe=>e.born==j+i)=(es[i]?).map λe=>{key:=o8 ι e.1,val:=o8 ι e.2,born:=j+i}
 | [],i,j=>by simp [I5]
 | e::es,0,j=>by simp [I5]
 | e::es,i+1,j=>by simp only [I5,List.find?_cons];rw [show (j==j+(i+1))=false from by simp];simp only [ad4];have:=yN ι es i (j+1);rw [show j+1+i=j+(i+1) from by omega] at this;exact this
theorem DN {β:Type}{b:Option O9}{nl:Option β}{k:Nat->Nat->List Nat->Option β}{r:β}(h:Gr b nl k=some r):
  (∃s l,b=some (.iter none s l)∧nl=some r)∨∃mp s l,b=some (.iter (some mp) s l)∧k mp s l=some r:=by
 match b,h with
 | some (.iter none s l),h=>exact .inl ⟨s,l,rfl,h⟩
 | some (.iter (some mp) s l),h=>exact .inr ⟨mp,s,l,rfl,h⟩
theorem DR {ty off:Nat}:∀{l:List (Nat×Nat)},Xr ty off l=true->(ty,off)∈l
 | [],h=>by cases h
 | p::l,h=>by
  have h:bi (Nat.beq p.1 ty) (bi (Nat.beq p.2 off) true (Xr ty off l)) (Xr ty off l)=true:=h;cases h1:Nat.beq p.1 ty with
  | false=>rw [h1] at h;exact Z9 _ (DR h)
  | true=>
   rw [h1] at h;cases h2:Nat.beq p.2 off with
   | false=>rw [h2] at h;exact Z9 _ (DR h)
   | true=>rw [← J4 h1,← J4 h2];exact ad3
theorem OA {u ty off:Nat}(h:(ty,off)∈Lf P u):P.cellsOf ty≠0∧liesAt P P.depth ty 1 off u 1=true:=by unfold Lf at h;obtain⟨t,_,h⟩:=List.mem_flatMap.1 h;split at h;rename_i hc;simp only [U9,bne_iff_ne,ne_eq] at hc;rcases aaF.1 h with h | h;split at h;rename_i hl;simp only [J3,ain] at h;obtain⟨rfl,rfl⟩:=h;exact⟨hc.2,hl⟩;simp at h;split at h;obtain⟨f,_,h⟩:=List.mem_flatMap.1 h;split at h;rename_i hl;simp only [J3,ain] at h;obtain⟨rfl,rfl⟩:=h;exact⟨hc.2,hl.2⟩;simp at h;simp at h;simp at h
theorem rJ (s:St P ι (m.nm ι) slots done ls env a.tmps)(hm:RM P G ι m w.heap){op:Op}{ro:Oc}(h:ql P slots done op ro){v:j3}(hv:ru ro ls env m=some v):
  v.lt (m.nm ι)∧Qf P a.eval op (o8 ι v) w:=by
 cases h with
 | @load t x sz x' h1 h2=>
  obtain⟨e1,_⟩:=A8 s h2;have key:∀id off,F9 x' ls env=.ptr id off->Q9 (m.get id) (λrs n rows=>match sz with | none=>cell1 rs n rows off | some k=>ob (eU rs n rows off k) λl=>some (.agg l))=some v->
    v.lt (m.nm ι)∧Qf P a.eval (.load t x) (o8 ι v) w:=by
   intro id off hx hc;obtain⟨g1,g2⟩:=wN h1 hm hc;refine⟨g2,λo ho=>?_⟩;simp [execOp,ho,e1,hx,o8,Instr.loadAt,Instr.sureAddr,g1]
  cases sz with
  | none=>obtain⟨id,off,hx,hc⟩:=dV hv;exact key id off hx hc
  | some k=>obtain⟨id,off,hx,hc⟩:=dV hv;exact key id off hx hc
 | @look t kt e kk z ok x k x' k' hu hk hz hx hkk=>
  obtain⟨e1,e1'⟩:=A8 s hx;obtain⟨e2,_⟩:=A8 s hkk;rcases vN hv with⟨hx,h⟩ | ⟨id,hx,h⟩;obtain⟨r,h3,h4⟩:=C8 h;obtain⟨g1,g2⟩:=yL (ι:=ι) w hu hk hz (n:=(m.nm ι)) (by simp) h3 h4;refine⟨g1,λo ho=>?_⟩;have:=g2 (.map none) (.inl ⟨rfl,rfl⟩);have hx:F9 x' ls env=.nilMap:=hx;simp [execOp,ho,e1,hx,o8,e2,this]
  ·obtain⟨es,h1 | h1,h2⟩:=Cn h
   case inr=>obtain⟨r,h3,h4⟩:=C8 h2;obtain⟨L,ck,c1,c2,c3⟩:=hm.blk id _ h1;obtain⟨g1,g2⟩:=FY (ι:=ι) w hu hk hz c3 h3 h4 c2 (fq c1 (by intro _ _ _ e;cases e));refine⟨g1,λo ho=>?_⟩;have hx:F9 x' ls env=.map id:=hx;simp [execOp,ho,e1,hx,o8,e2,g2]
   obtain⟨r,h3,h4⟩:=C8 h2;obtain⟨o1,o2⟩:=Jv hm h1;obtain⟨g1,g2⟩:=yL (ι:=ι) w hu hk hz o2 h3 h4;refine⟨g1,λo ho=>?_⟩;have:=g2 (.map (some (ι id).b)) (.inr ⟨_,rfl,λw' hw=>by subst hw;exact o1⟩);have hx:F9 x' ls env=.map id:=hx;simp [execOp,ho,e1,hx,o8,e2,this]
 | @lenM c t kt e x x' hc hts has hu hx=>
  obtain⟨e1,_⟩:=A8 s hx;have hts:c.argTypes=#[t]:=by rw [← hts,aaV]
  have has:c.args=#[x]:=by rw [← has,aaV]
  rcases vN hv with⟨hx,h⟩ | ⟨id,hx,h⟩;cases h;have hx:F9 x' ls env=.nilMap:=hx;exact⟨by simp [j3.lt],λo ho=>by simp [execOp,ho,resolve,hc,has,hts,invoke,builtin,Builtin.len_,run_underlying hu,e1,hx,o8,goInt]⟩;obtain⟨es,h1,h2⟩:=Ac h;obtain⟨o1,o2⟩:=Jv hm h1;cases h2;have hx:F9 x' ls env=.map id:=hx;exact⟨by simp [j3.lt],λo ho=>by simp [execOp,ho,resolve,hc,has,hts,invoke,builtin,Builtin.len_,run_underlying hu,e1,hx,o8,goInt,o1]⟩
 | @bytesStr t b e x x' h1 h2 h3 hx=>obtain⟨e1,_⟩:=A8 s hx;rcases rA hv with⟨hx,h⟩ | ⟨id,off,len,cap,hx,h⟩ | ⟨id,off,len,cap,hx,h⟩;cases h;have hx:F9 x' ls env=.nilSlice:=hx;refine⟨by simp [j3.lt],λo ho=>?_⟩;simp [execOp,ho,e1,hx,o8,convert,run_underlying h1,run_underlying h2,run_underlying h3,Conv.bytesToString];rfl;obtain⟨l,h4,h⟩:=C8 h;obtain⟨str,h5,h⟩:=C8 h;cases h;have hx:F9 x' ls env=.slice id off len cap:=hx;have:=mE hm (x:=a.eval x) (by rw [e1,hx];rfl) h4 h5;refine⟨by simp [j3.lt],λo ho=>?_⟩;rw [e1,hx] at this;simp only [o8] at this;simp [execOp,ho,e1,hx,o8,convert,run_underlying h1,run_underlying h2,run_underlying h3,this];obtain⟨l,h4,h⟩:=C8 h;obtain⟨str,h5,h⟩:=C8 h;cases h;have hx:F9 x' ls env=.sliceU id off len cap:=hx;have:=mE hm (x:=a.eval x) (by rw [e1,hx];rfl) h4 h5;refine⟨by simp [j3.lt],λo ho=>?_⟩;rw [e1,hx] at this;simp only [o8] at this;simp [execOp,ho,e1,hx,o8,convert,run_underlying h1,run_underlying h2,run_underlying h3,this]
 | @slData c t e x x' hc hts has hu hx=>
  obtain⟨e1,e2⟩:=A8 s hx;have hts:c.argTypes=#[t]:=by rw [← hts,aaV]
  have has:c.args=#[x]:=by rw [← has,aaV]
  rcases rA hv with⟨h1,h2⟩ | ⟨id,off,len,cap,h1,h2⟩ | ⟨id,off,len,es,h1,h2⟩;have h1:F9 x' ls env=.nilSlice:=h1;cases h2;exact⟨trivial,λo ho=>by simp [execOp,ho,resolve,hc,has,hts,invoke,builtin,BZ,e1,h1,o8]⟩;have h1:F9 x' ls env=.slice id off len cap:=h1;obtain⟨h3,h2⟩:=D7 h2;cases h2;have h3:0<cap:=Eq.mp Y8 h3;rw [h1] at e2;exact⟨e2,λo ho=>by simp [execOp,ho,resolve,hc,has,hts,invoke,builtin,DK (Nat.ne_of_gt h3),e1,h1,o8]⟩;have h1:F9 x' ls env=.sliceU id off len es:=h1;obtain⟨h3,h2⟩:=D7 h2;cases h2;have h3:0<len:=Eq.mp Y8 h3;rw [h1] at e2;obtain⟨q1,q2,q3⟩:=e2;have q3:off+len*es<=(ι id).cap:=q3;have hc0:((ι id).cap-off) / es≠0:=by
   have:1<=((ι id).cap-off) / es:=(ae8 q2).2 (by
    have:1*es<=len*es:=aaw _ h3;omega)
   omega
  refine⟨q1,λo ho=>?_⟩;simp [execOp,ho,resolve,hc,has,hts,invoke,builtin,DK hc0,e1,h1,o8]
 | @toUns a' b' t x x' k ha hb hs hk hx=>
  obtain⟨e1,e2⟩:=A8 s hx
  change wX (F9 x') ls env m=some v at hv
  unfold wX at hv;split at hv;rename_i h1;cases hv;exact⟨trivial,λo ho=>by simp [execOp,ho,e1,h1,o8,convert,run_underlying ha,run_underlying hb,Conv.unsafePointer]⟩;rename_i id off h1;obtain⟨rs,n,rows,hg,h⟩:=cZ hv;obtain⟨h2,h⟩:=D7 h;cases h;have h2:off<n*rs:=Eq.mp Y8 h2;obtain⟨c,e,fz,q1,q2,⟨q3,_⟩,_⟩:=hm.blk id _ hg;obtain⟨j,hj,hjs⟩:=ac4.1 hs;refine⟨⟨_,hg,rfl⟩,λo ho=>?_⟩;have:=Lib.run_to_unsafe (P:=P) w (ι.at id off) ha hb hj (by rw [hjs];exact hk) (e:=e) (cells:=c.size) (by simp [World.shape?,K4.at,q1]) (by show (ι id).base+off<c.size;omega);simp [execOp,ho,e1,h1,o8,this];cases hv
 | @fromUns a' b' u x x' k ha hb hs hk hx=>
  obtain⟨e1,e2⟩:=A8 s hx
  change nK (Lf P u) (F9 x') ls env m=some v at hv
  unfold nK at hv;split at hv;rename_i h1;cases hv;exact⟨trivial,λo ho=>by simp [execOp,ho,e1,h1,o8,convert,run_underlying ha,run_underlying hb,Conv.unsafePointer]⟩;rename_i id off h1;obtain⟨rs,n,rows,hg,h⟩:=cZ hv;obtain⟨h2,h⟩:=D7 h;obtain⟨ty,h3,h⟩:=C8 h;obtain⟨h4,h⟩:=D7 h;cases h;obtain rfl:n=1:=J4 h2;obtain⟨c,e,fz,q1,q2,⟨q3,N,_,_,htag⟩,_⟩:=hm.blk id _ hg;obtain⟨rfl,hb0,hsz⟩:=htag ty rfl h3;obtain⟨hpos,hlies⟩:=OA (DR h4);obtain⟨j,hj,hjs⟩:=ac4.1 hs;refine⟨⟨_,hg,rfl⟩,λo ho=>?_⟩;have:=Lib.run_from_unsafe (P:=P) w (ι.at id off) ha hb hj (e:=e) (cells:=c.size) (by simp [World.shape?,K4.at,q1]) (by
   rw [hsz,Nat.div_self (agx hpos)];show liesAt P P.depth e 1 ((ι id).base+off) u 1=true;rw [hb0,aav];exact hlies)
  simp [execOp,ho,e1,h1,o8,this];cases hv
 | @entry x x' hx=>
  obtain⟨e1,_⟩:=A8 s hx;obtain⟨id,off,hx,h⟩:=dV hv;have hx:F9 x' ls env=.ptr id off:=hx;obtain⟨h0,h⟩:=D7 h;obtain rfl:off=0:=J4 h0;rcases DN h with⟨_,_,_,h⟩ | ⟨mp,since,seen,hit,h⟩;cases h;cases seen with
  | nil=>cases h
  | cons i seen=>
   have h:Od (m.get mp) (λes=>bi (Nat.beq (len' es) since) (ob (mK i es) λe=>some (.tuple [e.1,e.2])) none)=some v:=h;obtain⟨es,hes,h⟩:=Ac h;obtain⟨h1,h⟩:=D7 h;have h1:=J4 h1;rw [I9] at h1;obtain⟨e,h2,h⟩:=C8 h;rw [iY] at h2;cases h;obtain⟨b1,b2,sn,st,b3,b4,b5⟩:=hm.blk id _ hit;have hsp:=hm.spot id _ hit rfl;obtain⟨c1,c2⟩:=Jv hm hes;have he:=c2 e (Y5 h2);refine⟨by simp [j3.lt,aS,he],λo ho=>?_⟩;have hst:st=since:=b5 (by simp);have hback:sn.back?=some i:=by have:=congrArg List.head? b4;simpa [List.head?_reverse] using this
   have hfind:(I5 ι es 0).toArray.find? (λe=>e.born==i)=some {key:=o8 ι e.1,val:=o8 ι e.2,born:=i}:=by have:=yN ι es i 0;rw [h2] at this;simpa using this
   have hit:=fq (P:=P) b3 (by intro _ _ _ e;cases e);have hev:a.eval x=.pointer (some ⟨(ι id).b,0,none⟩):=by rw [e1,hx];simp [o8,K4.at,b1,hsp]
   simp [execOp,ho,hev,Instr.entry,hit,hback,c1,hst,h1,hfind,o8,y7]
end
section
variable {P:Program}{G:Mem}{ι:K4}{n:Nm}{slots:List Nat}{done:List (Option Nat)}{ls:List j3}{env:T j3}{a:Act}
theorem LC (rs:Nat)(l:List j3)(r:List (List j3))(h:rowsOf rs 0 l=some r):l=[]∧r=[]:=by
 cases l with
 | nil=>cases h;exact⟨rfl,rfl⟩
 | cons=>cases h
theorem LD (rs k:Nat)(l:List j3):rowsOf rs (k+1) l=ob (takeN rs l) λr=>ob (rowsOf rs k (jo rs l)) λrest=>some (r::rest):=rfl
theorem gW (rs:Nat):∀(k:Nat) (l:List j3) (r:List (List j3)),rowsOf rs k l=some r->
  l.length=k*rs∧r.length=k∧∀i,i<k->∃row,r[i]?=some row∧row.length=rs∧∀j,j<rs->row[j]?=l[i*rs+j]?:=by
 intro k;induction k with
 | zero=>intro l r h;obtain⟨rfl,rfl⟩:=LC rs l r h;simp
 | succ k ih=>
  intro l r h;rw [LD] at h;obtain⟨x,h1,h⟩:=C8 h;obtain⟨y,h2,h⟩:=C8 h;cases h;obtain⟨rfl,hl⟩:=kJ _ _ _ h1;rw [gN] at h2;obtain⟨g1,g2,g3⟩:=ih _ _ h2;rw [abR] at g1;refine⟨by rw [adX];omega,by simp [g2],λi hi=>?_⟩;cases i with
  | zero=>exact⟨_,rfl,by simp;omega,λj hj=>by simp [hj]⟩
  | succ i=>obtain⟨row,e1,e2,e3⟩:=g3 i (by omega);refine⟨row,by simpa using e1,e2,λj hj=>?_⟩;rw [e3 j hj,afF];congr 1;rw [adX];omega
theorem LG {h:Array Obj}{l:Loc}{es k:Nat}{cells:List j3}{rl:List (List j3)}(hr:rowsOf es k cells=some rl){c:Array Value}{e:TypeId}{fz:Nat×Nat}
  (ho:h[l.b]?=some (Obj.cells c e fz)) (h0:l.base=0) (hc:l.cap=c.size) (hlt:aS n cells) (hat:∀(j:Nat) (v:j3),cells[j]?=some v->c[j]?=some (o8 ι v)) (hlen:cells.length<=c.size):
  bP P ι n h l (.cells es k (T.ofList rl)):=by
 obtain⟨h1,h2,h3⟩:=gW _ _ _ _ hr;refine⟨c,e,fz,ho,by omega,⟨by omega,rl.length,by omega,T.fP rl,by rw [← h2];exact uo (T.fP rl)⟩,λi hi=>?_⟩;obtain⟨row,g1,g2,g3⟩:=h3 i hi;refine⟨row,by rw [T.aG];exact g1,g2,bT.2 λv hv=>?_,λj hj=>?_⟩;obtain⟨j,hj⟩:=aaS hv;have hj':j<es:=afE (J5.1 hj).1 g2;rw [g3 j hj'] at hj;exact O8 hlt (Y5 hj);rw [g3 j hj,h0,aav];have hb:i*es+j<cells.length:=by
  rw [h1]
  calc i*es+j<i*es+es:=by omega
   _=(i+1)*es:=by rw [adX]
   _<=k*es:=aaw _ hi
 rw [J7 hb];exact hat _ _ (J7 hb)
theorem Uz {h:Array Obj}{l:Loc}{cs:List j3}{e:TypeId}{fz:Nat×Nat}
  (ho:h[l.b]?=some (.cells (y7 ι cs).toArray e fz)) (h0:l.base=0) (hc:l.cap=cs.length) (hlt:aS n cs):bP P ι n h l (j4 cs):=by
 refine⟨_,e,fz,ho,by simp;omega,⟨by simp;omega,1,J2 1,.nd .e .e,uo (.nd .e .e)⟩,λi hi=>?_⟩;obtain rfl:i=0:=by omega
 refine⟨cs,rfl,(I9 cs).symm,hlt,λj hj=>?_⟩;rw [h0];simp [aJ]
theorem Rz {h:Array Obj}{l:Loc}{cs:List j3}{e:TypeId}{fz:Nat×Nat}
  (ho:h[l.b]?=some (.cells (y7 ι cs).toArray e fz)) (h0:l.base=0) (hc:l.cap=cs.length) (hlt:aS n cs) (hsz:cs.length=P.cellsOf e):bP P ι n h l (PZ e cs):=by
 refine⟨_,e,fz,ho,by simp;omega,⟨by simp;omega,2,by omega,.nd (.nd .e .e) .e,λty _ ht=>?_⟩,λi hi=>?_⟩;have ht:some e=some ty:=ht;cases ht;exact⟨rfl,h0,by simpa using hsz⟩;obtain rfl:i=0:=by omega
 refine⟨cs,rfl,(I9 cs).symm,hlt,λj hj=>?_⟩;rw [h0];simp [aJ]
theorem Ad {nid:Nat}{l:Loc}{cs:List j3}(hn:¬ n nid)(h:aS n cs):y7 (ι.upd nid l) cs=y7 ι cs:=
 eT (n:=n) (λi hi=>ι.upd_ne l (λe=>hn (by subst e;exact hi))) cs h
theorem LH {nid:Nat}{l:Loc}{v:j3}(hn:¬ n nid)(h:v.lt n):o8 (ι.upd nid l) v=o8 ι v:=
 Q0 (n:=n) (λi hi=>ι.upd_ne l (λe=>hn (by subst e;exact hi))) v h
structure Makes (P:Program)(ι:K4)(n:Nm)(ρ:Operand->Value)(op:Op)(nid:Nat)(v:j3)(b:O9)(w:World)(l:Loc)(obj:Obj)(w':World):Prop where
 loc:l.b=w.heap.size
 spot:l.spot=none
 run:∀o:Oper,o.op=op->(execOp ρ o).run P w=.ok (.value (o8 (ι.upd nid l) v)) w'
 grew:Uu w w' obj
 live:bQ b=false
 free:∀c e fz,obj=.cells c e fz->∀k,k<c.size->¬ (fz.1<=k∧k<fz.2)
 blk:∀n':Nm,n.le n'->n' nid->n'.cap nid=l.cap->bP P (ι.upd nid l) n' (w.heap.push obj) l b∧v.lt n'
inductive nU (P:Program)(ι:K4)(n:Nm)(ρ:Operand->Value)(op:Op)(nid:Nat)(w:World):j3×Option O9->Prop
 | none {v}:v.lt n->Gives P ρ op (o8 ι v)->nU P ι n ρ op nid w (v,none)
 | made {v b} (l:Loc) (obj:Obj) (w':World):Makes P ι n ρ op nid v b w l obj w'->nU P ι n ρ op nid w (v,some b)
 | tail {v p} (l:Loc):n p->(l.cap=0∨(l.b=(ι p).b∧l.base+l.cap<=(ι p).base+(ι p).cap∧((ι p).spot=none->l.spot=none)))->Gives P ρ op (o8 (ι.upd nid l) v)->(∀n':Nm,n.le n'->n' nid->n'.cap nid=l.cap->v.lt n')->
   nU P ι n ρ op nid w (v,some (.tail p))
theorem dh {w:World}{o:Obj}:(w.heap.push o)[w.heap.size]?=some o:=by simp
theorem GH {op:Op}{nid:Nat}{w:World}{cs:List j3}(hn:¬ n nid)(hlt:aS n cs){e:TypeId}
  (hrun:∀o:Oper,o.op=op->(execOp a.eval o).run P w=.ok (.value (.pointer (some ⟨w.heap.size,0,none⟩))) {w with heap:=w.heap.push (.cells (y7 ι cs).toArray e)}):
  nU P ι n a.eval op nid w (.ptr nid 0,some (j4 cs)):=by
 refine .made ⟨w.heap.size,0,cs.length,none⟩ (.cells (y7 ι cs).toArray e) {w with heap:=w.heap.push (.cells (y7 ι cs).toArray e)} ⟨rfl,rfl,λo ho=>?_,⟨rfl,rfl,rfl,rfl⟩,rfl,λc e' fz h k hk=>?_,λn' hm hnn _=>⟨?_,hnn⟩⟩;rw [hrun o ho];simp [o8,K4.at];cases h;simp;rw [← Ad (l:=⟨w.heap.size,0,cs.length,none⟩) hn hlt];exact Uz dh rfl rfl (dB hm _ hlt)
theorem DT {op:Op}{nid:Nat}{w:World}{cs:List j3}(hn:¬ n nid)(hlt:aS n cs){e:TypeId}(hsz:cs.length=P.cellsOf e)
  (hrun:∀o:Oper,o.op=op->(execOp a.eval o).run P w=.ok (.value (.pointer (some ⟨w.heap.size,0,none⟩))) {w with heap:=w.heap.push (.cells (y7 ι cs).toArray e)}):
  nU P ι n a.eval op nid w (.ptr nid 0,some (PZ e cs)):=by
 refine .made ⟨w.heap.size,0,cs.length,none⟩ (.cells (y7 ι cs).toArray e) {w with heap:=w.heap.push (.cells (y7 ι cs).toArray e)} ⟨rfl,rfl,λo ho=>?_,⟨rfl,rfl,rfl,rfl⟩,rfl,λc e' fz h k hk=>?_,λn' hm hnn _=>⟨?_,hnn⟩⟩;rw [hrun o ho];simp [o8,K4.at];cases h;simp;rw [← Ad (l:=⟨w.heap.size,0,cs.length,none⟩) hn hlt];exact Rz dh rfl rfl (dB hm _ hlt) hsz
theorem dM (e:TypeId)(cs:Array Value)(w:World):(newRow e cs).run P w=.ok ⟨w.heap.size,0,none⟩ {w with heap:=w.heap.push (.cells cs e)}:=by simp [newRow,newObj,Sem.run]
theorem rM (z:List j3)(k:Nat):U0 z (k+1)=z++U0 z k:=by show aX z (U0 z k)=_;rw [V5]
theorem yO (z:List j3):U0 z 0=[]:=rfl
theorem eD (z:List j3):∀k,(U0 z k).length=k*z.length
 | 0=>by simp [yO]
 | k+1=>by rw [rM,ac5,eD z k,adX];omega
theorem rO {z:List j3}(h:aS n z):∀k,aS n (U0 z k)
 | 0=>trivial
 | k+1=>by rw [rM,bT];intro v hv;rcases aaF.1 hv with hv | hv;exact O8 h hv;exact O8 (rO h k) hv
theorem uG (z:List j3):∀(k i:Nat),i<k*z.length->(U0 z k)[i]?=z[i%z.length]?
 | 0,i,h=>by simp at h
 | k+1,i,h=>by rw [rM];by_cases hi:i<z.length;rw [aau hi,afM hi];have hi:z.length<=i:=ae7 hi;rw [abV hi,uG z k _ (by rw [adX] at h;omega),← Nat.mod_eq_sub_mod hi]
theorem DU (z:List j3)(k:Nat):(Array.range (k*z.length)).map (λi=>(y7 ι z).toArray[i%(y7 ι z).toArray.size]!)=(y7 ι (U0 z k)).toArray:=by
 apply Array.ext;simp [eD];intro i h1 h2;have h3:i<k*z.length:=by simpa using h1
 have hz:0<z.length:=agx λe=>by rw [e] at h3;simp at h3
 have hm:i%z.length<z.length:=ait _ hz;have h4:=uG z k i h3;rw [Array.getElem_map,Array.getElem_range];have h5:(y7 ι (U0 z k))[i]?=some (y7 ι z)[i%z.length]!:=by rw [aJ,h4,J7 hm];simp [bf,hm]
 have h6:(y7 ι (U0 z k)).toArray[i]?=some ((y7 ι z).toArray[i%(y7 ι z).toArray.size]!):=by simpa using h5
 rw [aaG h2] at h6;exact (Y7 h6).symm
theorem UA {op:Op}{nid:Nat}{w:World}{cells:List j3}(hn:¬ n nid)(hlt:aS n cells){e:TypeId}{es k len:Nat}{rl:List (List j3)}(hr:rowsOf es k cells=some rl)
  (hrun:∀o:Oper,o.op=op->(execOp a.eval o).run P w=.ok (.value (.slice (some ⟨w.heap.size,0,none⟩) len k)) {w with heap:=w.heap.push (.cells (y7 ι cells).toArray e)}):
  nU P ι n a.eval op nid w (.slice nid 0 len k,some (.cells es k (T.ofList rl))):=by
 refine .made ⟨w.heap.size,0,cells.length,none⟩ (.cells (y7 ι cells).toArray e) {w with heap:=w.heap.push (.cells (y7 ι cells).toArray e)} ⟨rfl,rfl,λo ho=>?_,⟨rfl,rfl,rfl,rfl⟩,rfl,λc e' fz h k hk=>?_,λn' hm hnn _=>⟨?_,hnn⟩⟩;rw [hrun o ho];simp [o8,K4.at];cases h;simp;rw [← Ad (l:=⟨w.heap.size,0,cells.length,none⟩) hn hlt];exact LG hr dh rfl (by simp) (dB hm _ hlt) (λj v hj=>by simp [aJ,hj]) (by simp)
theorem nD {t:TypeId}{z:List j3}(h:BS P t=some z):qA P t=some z∧aK P t=some z.length:=by simp only [BS] at h;split at h;split at h;cases h;rename_i h1 h2 h3;exact⟨h2,by rw [h1,h3]⟩;cases h;cases h
theorem xE {t:TypeId}{k:Nat}(h:aK P t=some k):P.cellsOf t=k:=by unfold aK at h;unfold Program.cellsOf;rw [h];rfl
theorem run_askRoom (k:Nat)(w:World):(askRoom k).run P w=.ok () w:=by unfold askRoom;split<;>simp [mark,Sem.run]
theorem yP (e:TypeId)(c:Array Value)(hp:Array Obj)(w:World):
  (markStringish ⟨hp.size,0,none⟩).run P {w with heap:=hp.push (.cells c e)}=.ok () {w with heap:=hp.push (.cells c e (c.size,c.size+1))}:=by
 simp only [markStringish,Y1,run_shape,World.shape?,J8];have hm:∀(f:Obj->Obj),(hp.push (.cells c e)).modify hp.size f=hp.push (f (.cells c e)):=by
  intro f;apply Array.ext;simp;intro i h1 h2;rw [Array.getElem_modify];simp only [Array.size_push,Array.size_modify] at h1 h2;by_cases h:hp.size=i;subst h;simp;have:i<hp.size:=by omega
  simp [h,Array.getElem_push_lt this]
 simp [World.freeze,hm]
theorem rP (s:St P ι n slots done ls env a.tmps)(hcp:∀i,n i->n.cap i=(ι i).cap){nid:Nat}(hn:¬ n nid){op:Op}{lo:Rh}(h:mo P slots done op lo){r:j3×Option O9}(hv:wH lo ls env nid=some r)(w:World):
  nU P ι n a.eval op nid w r:=by
 cases h with
 | @alloc t z hz=>cases hv;obtain⟨v,h1,h2,h3⟩:=cO (w:=w) hz ι;exact GH (e:=t) hn (h3 n) λo ho=>by simp [execOp,ho,Instr.alloc,h1,newVar,dM,h2]
 | @box t x x' hx=>cases hv;obtain⟨e1,e2⟩:=A8 s hx;exact GH (e:=t) hn (uh e2) λo ho=>by simp [execOp,ho,Instr.box,e1,newVar,dM,kK]
 | @allocT t z hz=>cases hv;obtain⟨hz,hsz⟩:=nD hz;obtain⟨v,h1,h2,h3⟩:=cO (w:=w) hz ι;exact DT (e:=t) hn (h3 n) (xE hsz).symm λo ho=>by simp [execOp,ho,Instr.alloc,h1,newVar,dM,h2]
 | @boxT t k x x' hk hx=>
  obtain⟨h1,hv⟩:=D7 hv;cases hv;obtain⟨e1,e2⟩:=A8 s hx;have h1:(F9 x' ls env).cells.length=k:=by rw [← I9];exact J4 h1
  exact DT (e:=t) hn (uh e2) (by rw [xE hk];exact h1) λo ho=>by simp [execOp,ho,Instr.box,e1,newVar,dM,kK]
 | @mkMap t=>cases hv;refine .made ⟨w.heap.size,0,0,none⟩ (.map #[] 0) {w with heap:=w.heap.push (.map #[] 0)} ⟨rfl,rfl,λo ho=>?_,⟨rfl,rfl,rfl,rfl⟩,rfl,(λc e' fz h=>by cases h),λn' hm hnn _=>⟨⟨?_,by simp⟩,hnn⟩⟩;simp [execOp,ho,Instr.makeMap,o8,newObj,Sem.run];simp [I5]
 | @mkMapN t k m kt e hu=>cases hv;refine .made ⟨w.heap.size,0,0,none⟩ (.map #[] 0) {w with heap:=w.heap.push (.map #[] 0)} ⟨rfl,rfl,λo ho=>?_,⟨rfl,rfl,rfl,rfl⟩,rfl,(λc e' fz h=>by cases h),λn' hm hnn _=>⟨⟨?_,by simp⟩,hnn⟩⟩;simp [execOp,ho,Instr.makeMap,o8,newObj,Sem.run,run_underlying hu,Act.eval,asInt,asIntOf];simp [I5]
 | @buildSlice t len parts e es ps z hu hes hps hle hz=>
  obtain⟨cells,h1,hv⟩:=C8 hv;obtain⟨rl,h2,hv⟩:=C8 hv;cases hv;obtain⟨v,hz1,hz2,hz3⟩:=cO (P:=P) (w:=w) hz ι;obtain⟨g1,g2,g3⟩:=Ab s _ parts.toList ps hps _ cells (rO (hz3 n) len) h1;obtain⟨r1,_,_⟩:=gW _ _ _ _ h2;rw [eD] at g3;have harr:(parts.map λp=>(p.1,a.eval p.2)).toList=parts.toList.map λp=>(p.1,a.eval p.2):=by simp
  refine UA (e:=e) hn g2 h2 λo ho=>?_
  have hnl:¬ len*es>2^24:=by have:(2:Nat)^24=16777216:=rfl
                             omega
  simp only [execOp,ho,Instr.buildSlice,Y1,run_underlying hu,J8,run_sizeOf hes,if_neg hnl,aat];have key:∀Z:Array Value,(len*es=0∨Z=(y7 ι z).toArray)->(Array.range (len*es)).map (λi=>Z[i%Z.size]!)=(y7 ι (U0 z len)).toArray:=by
   intro Z hZ;by_cases h0:len*es=0;have:U0 z len=[]:=aix (by rw [eD];omega);rw [this,h0];simp [y7];rcases hZ with h | rfl;exact absurd h h0;have hm:len*z.length=len*es:=by omega
   have hp:0<len:=agx λe=>h0 (by rw [e,afo]);have hzl:z.length=es:=Nat.eq_of_mul_eq_mul_left hp hm;rw [← hzl];exact DU z len
  by_cases h0:len*es=0;rw [if_pos h0];simp only [Y1,aat,J8,harr,key #[] (.inl h0),g1];simp [dM];rw [if_neg h0];simp only [Y1,hz1,aat,J8,harr,hz2,key _ (.inr rfl),g1];simp [dM]
 | @mkSlice t l c e es by' z l' c' hu hes hby hz hl hc=>
  obtain⟨hz0,hzs⟩:=nD hz;rw [hes] at hzs;cases hzs;obtain⟨i,len,h1,hv⟩:=eZ hv;obtain⟨j,cap,h2,hv⟩:=eZ hv;obtain⟨g1,hv⟩:=D7 hv;obtain⟨g2,hv⟩:=D7 hv;obtain⟨g3,hv⟩:=D7 hv;cases hv;have g1:len<=cap:=Y2 g1;have g2:by'*cap<=281474976710656:=Y2 g2;have g3:cap<9223372036854775808:=Eq.mp Y8 g3;have h1:F9 l' ls env=.int i (len:Int):=h1;have h2:F9 c' ls env=.int j (cap:Int):=h2;obtain⟨e1,_⟩:=A8 s hl;obtain⟨e2,_⟩:=A8 s hc;obtain⟨info,hi1,hi2⟩:=vM (w:=w) hby;obtain⟨v,hz1,hz2,hz3⟩:=cO (P:=P) (w:=w) hz0 ι;have hlen:=eD z cap;have hrun:∀o:Oper,o.op=.makeSlice t l c->(execOp a.eval o).run P w=.ok (.value (.slice (some ⟨w.heap.size,0,none⟩) len cap)) {w with heap:=w.heap.push (.cells (y7 ι (U0 z cap)).toArray e)}:=by
   intro o ho;have w1:IntKind.i64.wrap (len:Int)=len:=yF _ ⟨by omega,by omega⟩;have w2:IntKind.i64.wrap (cap:Int)=cap:=yF _ ⟨by omega,by omega⟩;have hbig:¬ ((by':Int)*(cap:Int)>2^48):=by have:((by'*cap:Nat):Int)=(by':Int)*(cap:Int):=(by simp);rw [← this];have h48:(2:Int)^48=281474976710656:=rfl;rw [h48];omega
   simp only [execOp,ho,Instr.makeSlice,Y1,run_underlying hu,J8,e1,e2,h1,h2,o8,asInt,asIntOf,aat,hi1,hi2,w1,w2];rw [if_neg (by simp only [afD,decide_eq_true_eq,not_or];exact⟨⟨⟨by omega,hbig⟩,by omega⟩,by omega⟩)];simp only [Y1,run_askRoom,J8,run_sizeOf hes,aiI];by_cases h0:cap*z.length=0;have hnil:U0 z cap=[]:=aix (by rw [hlen];exact h0);have hr0:∀f:Nat->Value,(Array.range 0).map f=#[]:=by intro f;simp
   simp only [Y1,aat,J8,h0,hnil,if_true,hr0];simp [dM,y7];have hk:=DU (ι:=ι) z cap;simp only [if_neg h0,Y1,aat,J8,hz1,hz2,hk];simp [dM]
  refine .made ⟨w.heap.size,0,(U0 z cap).length,none⟩ (.cells (y7 ι (U0 z cap)).toArray e) {w with heap:=w.heap.push (.cells (y7 ι (U0 z cap)).toArray e)} ⟨rfl,rfl,λo ho=>?_,⟨rfl,rfl,rfl,rfl⟩,rfl,λc e' fz h k hk=>?_,λn' hm hnn _=>⟨?_,hnn⟩⟩;rw [hrun o ho];simp [o8,K4.at];cases h;simp;refine⟨_,_,_,dh,by simp,⟨by simp [hlen],cap,J2 _,by simpa using T.Oq z cap .e 0 .e,uo (by simpa using T.Oq z cap .e 0 .e)⟩,λi hi=>⟨z,?_,rfl,hz3 _,λj hj=>?_⟩⟩;rw [T.Qe _ _ _ _ T.Ok.e];simp [hi];have hb:i*z.length+j<cap*z.length:=by
   calc i*z.length+j<i*z.length+z.length:=by omega
    _=(i+1)*z.length:=by rw [adX]
    _<=cap*z.length:=aaw _ hi
  rw [aav,aed,aJ,uG _ _ _ hb];rw [show (i*z.length+j)%z.length=j from by rw [ae4,aiY,afM hj]];rw [J7 hj];simp [LH (l:=⟨w.heap.size,0,(U0 z cap).length,none⟩) hn (O8 (hz3 n) (abX hj))]
 | @strBytes t u e x x' h1 h2 h3 hx=>
  obtain⟨str,h4,hv⟩:=iq hv;obtain⟨rl,h5,hv⟩:=C8 hv;cases hv;have h4:F9 x' ls env=.str str:=h4;obtain⟨e1,_⟩:=A8 s hx;have hbl:∀l:List UInt8,bytesOf l=l.map λb=>j3.int .u8 b.toNat:=by
   intro l;induction l with
   | nil=>rfl
   | cons b l ih=>simp [bytesOf,ih]
  rw [I9] at *;generalize hcap:str.length+w.tape w.drawn (.appendCap str.length 0 e)%(2^63-str.length)=cap;have hle:str.length<=cap:=by omega
  let cells:Array Value:=(y7 ι (bytesOf str)).toArray++Array.replicate (cap-str.length) (.int .u8 0)
  have hsz:cells.size=cap:=by simp [cells,hbl];omega
  have hlt:aS n (bytesOf str):=by rw [hbl,bT];intro v hv;obtain⟨b,_,rfl⟩:=aeg.1 hv;simp [j3.lt]
  have hrun:∀o:Oper,o.op=.convert t u x->(execOp a.eval o).run P w =
    .ok (.value (.slice (some ⟨w.heap.size,0,none⟩) str.length cap)) {w with heap:=w.heap.push (.cells cells e (cap,cap+1)),drawn:=w.drawn+1}:=by
   intro o ho;simp only [execOp,ho,Y1,convert,run_underlying h1,run_underlying h2,run_underlying h3,J8,e1,h4,o8,Conv.stringToBytes];rw [run_choose];simp only [Question.forced,J9,if_false,J8,Question.cut,nQ,hcap];have hc:(⟨str.toArray⟩:ByteArray).data.map (λb=>Value.int .u8 b.toNat)++Array.replicate (cap-str.length) (.int .u8 0)=cells:=by simp only [cells,hbl,bf,agy];congr 1;simp [o8,Function.comp_def]
   have hc:str.toArray.map (λb=>Value.int .u8 b.toNat)++Array.replicate (cap-str.length) (.int .u8 0)=cells:=hc;rw [hc,dM];simp only [J8];rw [yP e cells w.heap {w with drawn:=w.drawn+1}];simp [hsz]
  refine .made ⟨w.heap.size,0,cap,none⟩ (.cells cells e (cap,cap+1)) {w with heap:=w.heap.push (.cells cells e (cap,cap+1)),drawn:=w.drawn+1} ⟨rfl,rfl,λo ho=>?_,⟨rfl,rfl,rfl,rfl⟩,rfl,λc e' fz h k hk=>?_,λn' hm hnn hcp=>⟨?_,⟨hnn,J2 1,by rw [hcp];show 0+str.length*1<=cap;omega⟩⟩⟩;rw [hrun o ho];simp [o8,K4.at];cases h;rw [hsz] at hk;simp;omega;refine LG h5 dh rfl hsz.symm (dB hm _ hlt) (λj v hj=>?_) (by rw [hsz,hbl];simpa using hle);have hjl:j<(bytesOf str).length:=(J5.1 hj).1;have hv:=O8 hlt (Y5 hj);rw [LH (l:=⟨w.heap.size,0,cap,none⟩) hn hv];simp only [cells];rw [aiF (by simpa using hjl)];simp [aJ,hj]
 | @sl t x lo hi e es x' lo' hi' hu hes hx hlo hhi=>
  obtain⟨e1,e2⟩:=A8 s hx;have hv:eX (kG lo') 0 ls env (λl=>Option.rec (L9 nid es (F9 x' ls env) l none) (λh=>gZ (h ls env) λh=>L9 nid es (F9 x' ls env) l (some h)) (kG hi'))=some r:=hv;generalize hX:F9 x' ls env=X at *;have hb:∀d,(∀l,L9 nid es X l none=L9 nid es X l (some d))->
    ∃l h,L9 nid es X l (some h)=some r∧∀cap w,l<=h->h<=cap->(Instr.sliceBounds true d cap (lo.map a.eval) (hi.map a.eval) none).run P w=.ok (l,h,cap) w:=by
   intro d hd;have h':eX (kG lo') 0 ls env (λl=>eX (kG hi') d ls env λh=>L9 nid es X l (some h))=some r:=by
    rw [← hv];congr 1;funext l;cases hhi':kG hi' with
    | none=>simp only [eX];exact (hd l).symm
    | some f=>rfl
   obtain⟨l,h,g1,_,_,g2⟩:=rG s hlo hhi h';exact⟨l,h,g1,λcap w p q=>g2 true d cap w rfl p q⟩
  have hslice:∀(ad:Option Addr) (len cap l h:Nat) (w:World),o8 ι X=.slice ad len cap->(Instr.sliceBounds true len cap (lo.map a.eval) (hi.map a.eval) none).run P w=.ok (l,h,cap) w->
    ∀o:Oper,o.op=.slice t x lo hi none->(execOp a.eval o).run P w=.ok (.value (.slice (if cap=l then ad else ad.map (·.add (l*es))) (h-l) (cap-l))) w:=by
   intro ad len cap l h w hc hbd o ho;simp [execOp,ho,Instr.sliceAt,run_underlying hu,Instr.slice,e1,hc,hbd,run_sizeOf hes]
  cases X with
  | nilSlice=>obtain⟨l,h,g1,g2⟩:=hb 0 (λl=>by simp [L9,jV,ac0]);have g1:bi (Nat.beq l 0) (bi (Nat.beq h 0) (some (j3.nilSlice,none)) none) none=some r:=g1;obtain⟨q1,g1⟩:=D7 g1;obtain⟨q2,g1⟩:=D7 g1;obtain rfl:=J4 q1;obtain rfl:=J4 q2;cases g1;refine .none (by simp [j3.lt]) λo ho w=>?_;rw [hslice none 0 0 0 0 w rfl (g2 0 w (J2 _) (J2 _)) o ho];rfl
  | slice id off len cap=>obtain⟨l,h,g1,g2⟩:=hb len (λl=>rfl);have g1:L9.known es l id off cap h=some r:=g1;simp only [L9.known] at g1;obtain⟨q1,g1⟩:=D7 g1;obtain⟨q2,g1⟩:=D7 g1;have q1:=Y2 q1;have q2:=Y2 q2;cases g1;refine .none e2 λo ho w=>?_;rw [hslice _ len cap l h w rfl (g2 cap w q1 q2) o ho];simp only [o8,uz,ac2,K4.nP];by_cases hc:cap=l;rw [if_pos hc,if_pos hc.symm];rfl;rw [if_neg hc,if_neg (λe=>hc e.symm)];rfl
  | sliceU id off len es'=>
   obtain⟨l,h,g1,g2⟩:=hb len (λl=>rfl);have g1:L9.unk nid es l id off len es' h=some r:=g1;simp only [L9.unk] at g1;obtain⟨q1,p1⟩:=D7 g1;obtain⟨q2,p2⟩:=D7 p1;obtain⟨q3,p3⟩:=D7 p2;clear g1 p1 p2;have q1:=Y2 q1;have q2:=Y2 q2;obtain rfl:=J4 q3;obtain⟨hid,hes1,hcap⟩:=e2;have hcap:off+len*es<=(n.cap id):=hcap;rw [hcp id hid] at hcap;have hlen:len<=((ι id).cap-off) / es:=(ae8 hes1).2 (by omega);have hX:o8 ι (.sliceU id off len es)=.slice (some (ι.at id off)) len (((ι id).cap-off) / es):=by simp [o8]
   have hrun:=λw=>hslice _ _ _ l h w hX (g2 _ w q1 (Xl q2 hlen));have hdiv:∀k,k*es<=(ι id).cap-off->((ι id).cap-(off+k*es)) / es=((ι id).cap-off) / es-k:=by intro k hk;rw [← Nat.sub_sub,ae4 k es,Nat.sub_mul_div]
   cases hlt:Nat.blt l len with
   | true=>
    have g1:some (j3.sliceU id (off+l*es) (h-l) es,none)=some r:=(by rw [hlt] at p3;exact p3);have hll:l<len:=Eq.mp Y8 hlt;cases g1;have hle:h*es<=len*es:=aaw _ q2;have hsum:l*es+(h-l)*es=h*es:=(by rw [← ae3];congr 1;omega);refine .none ⟨hid,hes1,by rw [hcp id hid];omega⟩ λo ho w=>?_;rw [hrun w o ho,if_neg (by omega)];simp only [o8,ac2,K4.nP]
    rw [hdiv l (by have:l*es<=len*es:=aaw _ (by omega)
                   omega)]
   | false=>
    have hge:len<=l:=by rcases afs l len with hh | hh;rw [(Eq.mpr Y8 hh:Nat.blt l len=true)] at hlt;cases hlt;exact hh
    have g1:bi (Nat.beq l 0) (some (j3.sliceU id off (h-l) es,none)) (some (.sliceU nid 0 0 es,some (.tail id)))=some r:=(by rw [hlt] at p3;exact p3);rw [uz] at g1;split at g1;rename_i h0;subst h0;cases g1;obtain rfl:len=0:=(by omega);obtain rfl:h=0:=(by omega);refine .none ⟨hid,hes1,by rw [hcp id hid];omega⟩ λo ho w=>?_;rw [hrun w o ho];simp only [o8,ac2,K4.nP,afo,aay,aiO,ite_self];cases g1;obtain rfl:l=len:=(by omega);obtain rfl:h=l:=(by omega);by_cases hc:((ι id).cap-off) / es=h;refine .tail ⟨(ι id).b,(ι id).base+off,0,if off=0 then (ι id).spot else none⟩ hid (.inl rfl) (λo ho w=>?_) λn' hm hnn hcp=>⟨hnn,hes1,by rw [hcp];simp⟩;rw [hrun w o ho,if_pos hc,hc];simp [o8,K4.at];refine .tail ⟨(ι id).b,(ι id).base+(off+h*es),(ι id).cap-(off+h*es),if off+h*es=0 then (ι id).spot else none⟩ hid (.inr ⟨rfl,by show (ι id).base+(off+h*es)+((ι id).cap-(off+h*es))<=(ι id).base+(ι id).cap;omega,λhh=>by show (if off+h*es=0 then (ι id).spot else none)=none;rw [hh];simp⟩) (λo ho w=>?_) λn' hm hnn hcp=>⟨hnn,hes1,by rw [hcp];simp⟩;rw [hrun w o ho,if_neg hc,← hdiv h (by omega)];have key:=K4.nP ι id off (h*es);simp only [o8,ac2,key];simp [K4.at]
  | _=>obtain⟨l,h,g1,_⟩:=hb 0 (λl=>rfl);cases g1
end
theorem Mem.mO {m:Mem}(h:T.Ok m.t m.nx){id:Nat}{b b':O9}(hg:m.get id=some b)(hb':bQ b'=false)(i:Nat)(hi:m.has i):(m.set id b').has i:=by obtain⟨x,h1,h2⟩:=hi;by_cases he:i=id;subst he;exact⟨b',by rw [Mem.Z0 h (Mem.I8 h hg),if_pos rfl],hb'⟩;exact⟨x,by rw [Mem.Z0 h (Mem.I8 h hg),if_neg he];exact h1,h2⟩
theorem getElem?_set_ne (a:Array Obj)(i j:Nat)(o:Obj)(h:i≠j):(a.setIfInBounds i o)[j]?=a[j]?:=Y4 h
structure Put (w w':World)(b:Nat)(o:Obj):Prop where
 heap:w'.heap=w.heap.setIfInBounds b o
 os:w'.os=w.os
 out:w'.output=w.output
 tape:w'.tape=w.tape
theorem Step.set' {P:Program}{G:Mem}{ι:K4}{m:Mem}{w w':World}(h:RM P G ι m w.heap){id:Nat}{b b':O9}(hid:m.lim<=id)(hg:m.get id=some b)(hl:U2 b=true)
  (hb':bQ b'=false) {o:Obj} (hw:Put w w' (ι id).b o)
  (hblk:bP P ι ((m.set id b').nm ι) (w.heap.setIfInBounds (ι id).b o) (ι id) b')
  (hf:U2 b'=true->∀c e fz,o=.cells c e fz->∀k,k<c.size->¬ (fz.1<=k∧k<fz.2)):
  Step P G ι m w ι (m.set id b') w':=by
 have hlt:=Mem.I8 h.ok hg;have hget:=Mem.Z0 h.ok hlt b';have hhas:=λi hi=>Mem.mO h.ok hg hb' i hi;have hown:=h.own id b hid hg hl;have hbnd:(ι id).b<w.heap.size:=dD (h.blk id b hg) hl;refine⟨⟨h.ok.put id b' hlt,?_,?_,h.glim,h.limn,h.gle,λi hi=>by rw [hget,if_neg (by have:=h.glim;omega)];exact h.base i hi,λi hi=>hhas i (h.ghas i hi),h.glob,λi x hx hlx=>by
   rw [hget] at hx;split at hx;rename_i e;subst e;exact h.spot i b hg hl;exact h.spot i x hx hlx,h.Ll λb₁ hb₁ ho=>by
   rw [hw.heap,getElem?_set_ne];intro e;exact ho ⟨id,b,hid,hg,hl,e⟩⟩,λ_ _=>rfl,hhas,J2 _,rfl,?_,by rw [hw.heap];simp,?_,?_,hw.os,hw.out,hw.tape⟩
 intro i x hx;rw [hget] at hx;rw [hw.heap];split at hx;rename_i e;subst e;cases hx;exact hblk;rename_i e;exact (h.blk i x hx).mono (n:=m.nm ι) (λ_ _=>rfl) (Mem.ah hhas λ_ _=>rfl) (λhlx=>getElem?_set_ne _ _ _ _ (λe'=>hown.alone i x e hx hlx e'.symm));intro i x hi hx hlx;rw [hget] at hx;have key:∀j y,m.get j=some y->U2 y=true->j≠i->∀(z:O9),m.get i=some z->U2 z=true->(ι j).b≠(ι i).b:=λj y hy hly hji z hz hlz=>(h.own i z hi hz hlz).alone j y hji hy hly;have hi':∃z,m.get i=some z∧U2 z=true:=by split at hx;rename_i e;subst e;exact⟨b,hg,hl⟩;exact⟨x,hx,hlx⟩
 obtain⟨z,hz,hlz⟩:=hi';refine⟨λj y hj hy hly=>?_,λc e fz hc=>?_⟩;rw [hget] at hy;split at hy;rename_i ej;subst ej;exact key j b hg hl hj z hz hlz;exact key j y hy hly hj z hz hlz;by_cases he:i=id;subst he;rw [if_pos rfl] at hx;cases hx;rw [hw.heap,Z4 hbnd] at hc;exact hf hlx c e fz (Y7 hc);rw [hw.heap,getElem?_set_ne _ _ _ _ (λe'=>hown.alone i z he hz hlz e'.symm)] at hc;exact (h.own i z hi hz hlz).free c e fz hc;intro i hi;rw [hget,if_neg (by omega)];intro b₁ hb₁ ho;rw [hw.heap,getElem?_set_ne];intro e;exact ho ⟨id,b,hid,hg,hl,e⟩;rintro b₁ ⟨i,x,hi,hx,hlx,rfl⟩;rw [hget] at hx;split at hx;rename_i e;subst e;exact .inl ⟨i,b,hid,hg,hl,rfl⟩;exact .inl ⟨i,x,hi,hx,hlx,rfl⟩
theorem Step.set {P:Program}{G:Mem}{ι:K4}{m:Mem}{w w':World}(h:RM P G ι m w.heap){id:Nat}{b b':O9}(hid:m.lim<=id)(hg:m.get id=some b)(hl:U2 b=true)
  (hb':bQ b'=false) {o:Obj} (hw:Put w w' (ι id).b o)
  (hblk:bP P ι ((m.set id b').nm ι) (w.heap.setIfInBounds (ι id).b o) (ι id) b')
  (hf:∀c e fz,o=.cells c e fz->∀k,k<c.size->¬ (fz.1<=k∧k<fz.2)):
  Step P G ι m w ι (m.set id b') w':=Step.set' h hid hg hl hb' hw hblk λ_=>hf
theorem Step.kill {P:Program}{G:Mem}{ι:K4}{m:Mem}{w:World}(h:RM P G ι m w.heap){id:Nat}{b:O9}(hid:m.lim<=id)(hg:m.get id=some b):
  Step P G ι m w ι (m.set id .dead) w:=by
 have hlt:=Mem.I8 h.ok hg;have hget:=Mem.Z0 h.ok hlt .dead;have hhas:=λi hi=>Mem.mO (b':=.dead) h.ok hg rfl i hi;have hne:∀i x,(m.set id .dead).get i=some x->U2 x=true->m.get i=some x:=λi x hx hlx=>by rw [hget] at hx;split at hx;cases hx;cases hlx;exact hx
 refine⟨⟨h.ok.put id .dead hlt,?_,?_,h.glim,h.limn,h.gle,λi hi=>by rw [hget,if_neg (by have:=h.glim;omega)];exact h.base i hi,λi hi=>hhas i (h.ghas i hi),h.glob,λi x hx hlx=>h.spot i x (hne i x hx hlx) hlx,h.gsz⟩,λ_ _=>rfl,hhas,J2 _,rfl,?_,J2 _,λ_ _ _=>rfl,?_,rfl,rfl,rfl⟩;intro i x hx;rw [hget] at hx;split at hx;cases hx;trivial;exact (h.blk i x hx).mono (n:=m.nm ι) (λ_ _=>rfl) (Mem.ah hhas λ_ _=>rfl) (λ_=>rfl);intro i x hi hx hlx;have ho:=h.own i x hi (hne i x hx hlx) hlx;exact⟨λj y hj hy hly=>ho.alone j y hj (hne j y hy hly) hly,ho.free⟩;intro i hi;rw [hget,if_neg (by omega)];rintro b₁ ⟨i,x,hi,hx,hlx,rfl⟩;exact .inl ⟨i,x,hi,hne i x hx hlx,hlx,rfl⟩
section
variable {P:Program}{G:Mem}{ι:K4}{m:Mem}{w:World}{slots:List Nat}{done:List (Option Nat)}{ls:List j3}{env:T j3}{a:Act}
def aQ (P:Program)(G:Mem)(ι:K4)(m:Mem)(w:World)(outs:List VM)(v:Value)(w':World):Prop:=
 ∃r∈outs,∃ι',Step P G ι m w ι' r.m w'∧r.v.lt (r.m.nm ι')∧v=o8 ι' r.v
def Does (P:Program)(ρ:Operand->Value)(o:Oper)(w:World)(R:Value->World->Prop):Prop:=
 match (execOp ρ o).run P w with
 | .ok (.value v) w'=>R v w'
 | .ok .skip w'=>R undef w'
 | .ok (.enter f args) w'=>CallsIn Fence.wide 0 P f args w' λe w''=>∃v,e=.returned v∧R v w''
 | .ok (.round l f tmps assign body) w'=>RoundIn Fence.wide 0 P l f tmps assign body w' λe w''=>∃v,e=.returned v∧R v w''
 | _=>False
theorem O7 {ρ:Operand->Value}{o:Oper}{R:Value->World->Prop}{v:Value}{w':World}(h:(execOp ρ o).run P w=.ok (.value v) w')(hR:R v w'):Does P ρ o w R:=by unfold Does;rw [h];exact hR
theorem Ae {ρ:Operand->Value}{o:Oper}{R:Value->World->Prop}{w':World}(h:(execOp ρ o).run P w=.ok .skip w')(hR:R undef w'):Does P ρ o w R:=by unfold Does;rw [h];exact hR
theorem pJ:∀{l:List j3},O0 l=true->∀v∈l,K5 v=true
 | [],_,v,hv=>by cases hv
 | x::l,h,v,hv=>by
  have h:bi (K5 x) (O0 l) false=true:=h;cases hx:K5 x with
  | false=>rw [hx] at h;cases h
  | true=>rw [hx] at h;rcases Z7.1 hv with rfl | hv;exact hx;exact pJ h v hv
theorem Af {v:j3}(h:K5 v=true):(∀l,o8 ι v≠.agg l)∧∀l,o8 ι v≠.tuple l:=by cases v<;>simp_all [K5,o8]
theorem run_store {ad:Addr}{v x:Value}{w:World}(hc:w.cell? ad=some x)(hf:w.frozen? ad=false)(h1:∀l,v≠.agg l)(h2:∀l,v≠.tuple l):
  (store ad v).run P w=.ok () (w.setCell ad v):=by
 cases v<;>first | exact absurd rfl (h1 _) | exact absurd rfl (h2 _) | simp [store,Sem.run,hc,hf]
def over (c:Array Value)(o:Nat):List Value->Array Value
 | []=>c
 | v::l=>over (c.setIfInBounds o v) (o+1) l
@[simp] theorem ad5 (l:List Value):∀(c:Array Value) (o:Nat),(over c o l).size=c.size:=by
 induction l with
 | nil=>intro c o;rfl
 | cons v l ih=>intro c o;rw [over,ih];simp
theorem yQ (l:List Value):∀(c:Array Value) (o:Nat),o+l.length<=c.size->∀i,(over c o l)[i]?=if i<o then c[i]? else if i<o+l.length then l[i-o]? else c[i]?:=by
 induction l with
 | nil=>intro c o h i;simp [over];omega
 | cons v l ih=>intro c o h i;simp only [abW] at h ⊢;rw [over,ih _ _ (by simp;omega)];by_cases h1:i<o;rw [if_pos h1,if_pos (by omega),Y4 (by omega)];by_cases h2:i=o;subst h2;rw [if_pos (by omega),if_neg h1,if_pos (by omega),Z4 (by omega)];simp;rw [if_neg (by omega),if_neg h1];by_cases h3:i<o+1+l.length;rw [if_pos h3,if_pos (by omega),show i-o=(i-(o+1))+1 from by omega];simp;rw [if_neg h3,if_neg (by omega),Y4 (by omega)]
theorem nV {b:Nat}{e:TypeId}{fz:Nat×Nat}:∀(vs:List Value) (c:Array Value) (base i:Nat) (w:World),w.heap[b]?=some (.cells c e fz)->
  base+i+vs.length<=c.size->(∀k,k<c.size->¬ (fz.1<=k∧k<fz.2))->(∀v∈vs,(∀l,v≠.agg l)∧∀l,v≠.tuple l)->
  (storeCells ⟨b,base,none⟩ vs i).run P w=.ok () {w with heap:=w.heap.setIfInBounds b (.cells (over c (base+i) vs) e fz)}:=by
 intro vs;induction vs with
 | nil=>
  intro c base i w hb hl hf hv;have:w.heap.setIfInBounds b (.cells c e fz)=w.heap:=by apply ae9;intro j;by_cases hj:b=j;subst hj;rw [Z4 (K9.1 hb).1,hb];rw [Y4 hj]
  simp [storeCells,over,this]
 | cons v vs ih=>
  intro c base i w hb hl hf hv;simp only [abW] at hl;have hin:base+i<c.size:=by omega
  have h1:=hv v (by simp);have hc:w.cell? ⟨b,base+i,none⟩=some c[base+i]:=by simp [World.cell?,hb,hin]
  have hfr:w.frozen? ⟨b,base+i,none⟩=false:=by have:=hf (base+i) hin;simp only [World.frozen?,hb,Bool.and_eq_false_iff,decide_eq_false_iff_not];omega
  simp only [storeCells,Y1];rw [show (⟨b,base,none⟩:Addr).add i=⟨b,base+i,none⟩ from by simp [Addr.add],run_store hc hfr h1.1 h1.2,J8];have hset:w.setCell ⟨b,base+i,none⟩ v={w with heap:=w.heap.setIfInBounds b (.cells (c.setIfInBounds (base+i) v) e fz)}:=by simp only [World.setCell];congr 1;apply ae9;intro j;rw [aiq];by_cases hj:b=j;subst hj;rw [if_pos rfl,hb,Z4 (K9.1 hb).1];simp;rw [if_neg hj,Y4 hj]
  rw [hset,ih (c.setIfInBounds (base+i) v) base (i+1) _ (by simp [Z4 (K9.1 hb).1]) (by simp;omega) (by simpa using hf) (λx hx=>hv x (by simp [hx]))];congr 2;simp [over,afv]
theorem FZ {rs n off:Nat}{rows rows':T (List j3)}{vs:List j3}(h:aD rs n rows off vs=some rows'):
  off / rs<n∧∃row,rows.get (off / rs)=some row∧off%rs+vs.length<=rs∧rows'=rows.put (off / rs) (lI (off%rs) vs row):=by
 obtain⟨h1,h⟩:=D7 h;obtain⟨row,h2,h⟩:=C8 h;obtain⟨h3,h⟩:=D7 h;have h3:=Y2 h3;rw [I9] at h3;cases h;exact⟨Eq.mp Y8 h1,row,h2,h3,rfl⟩
theorem yR {n:Nm}{h h':Array Obj}{l:Loc}{rs k off:Nat}{rows rows':T (List j3)}{vs:List j3}(hb:bP P ι n h l (.cells rs k rows))(hw:aD rs k rows off vs=some rows')
  (hvs:aS n vs) {c:Array Value} {e:TypeId} {fz:Nat×Nat} (hc:h[l.b]?=some (.cells c e fz)) (hc':h'[l.b]?=some (.cells (over c (l.base+off) (y7 ι vs)) e fz)):
  bP P ι n h' l (.cells rs k rows')∧l.base+off+vs.length<=c.size:=by
 obtain⟨c₀,e₀,fz₀,h1,h2,⟨h3,N,hN,hok,htag⟩,h4⟩:=hb;rw [hc] at h1;cases h1;obtain⟨w1,row,w2,w3,rfl⟩:=FZ hw;obtain⟨row',g1,g2,g3,g4⟩:=h4 _ w1;rw [w2] at g1;cases g1;have hdm:off / rs*rs+off%rs=off:=by rw [ae4];exact aiX off rs
 have hrow:off / rs*rs+rs<=k*rs:=by
  calc off / rs*rs+rs=(off / rs+1)*rs:=by rw [adX]
   _<=k*rs:=aaw _ w1
 have hfit:l.base+off+vs.length<=c.size:=by omega
 refine⟨⟨_,e,fz,hc',by simpa using h2,⟨h3,N,hN,hok.put _ _ (by omega),λty hk1 ht=>?_⟩,λi hi=>?_⟩,hfit⟩;have h0:off / rs=0:=Nat.lt_one_iff.1 (afE w1 hk1);rw [h0,Rq hok (by omega) (by omega)] at ht;obtain⟨q1,q2,q3⟩:=htag ty hk1 ht;exact⟨q1,q2,by simpa using q3⟩;by_cases hi0:i=off / rs;subst hi0;refine⟨_,T.bI hok _ _ (by omega),by rw [yD _ _ _ (by omega)];exact g2,?_,λj hj=>?_⟩;rw [lQ _ _ _ (by omega),bT];intro v hv;rcases aaF.1 hv with hv | hv;exact O8 g3 (afx hv);rcases aaF.1 hv with hv | hv;exact O8 hvs hv;exact O8 g3 (aa0 hv);have hg4:=g4 j hj;rw [yQ _ _ _ (by simp;omega),Ro _ _ _ (by omega)];simp only [V6];by_cases c1:j<off%rs;rw [if_pos (by omega),if_neg (by omega)];exact hg4;by_cases c2:j<off%rs+vs.length;rw [if_neg (by omega),if_pos (by omega),if_pos (by omega),aJ];congr 2;omega;rw [if_neg (by omega),if_neg (by omega),if_neg (by omega)];exact hg4;obtain⟨row',q1,q2,q3,q4⟩:=h4 i hi;refine⟨row',by rw [T.bO hok _ _ _ (by omega) (λe=>hi0 e.symm)];exact q1,q2,q3,λj hj=>?_⟩;rw [yQ _ _ _ (by simp;omega),← q4 j hj];simp only [V6];rcases afs i (off / rs) with hlt | hge;have:i*rs+rs<=off / rs*rs:=by
  calc i*rs+rs=(i+1)*rs:=by rw [adX]
   _<=off / rs*rs:=aaw _ hlt
 rw [if_pos (by omega)];have:off / rs*rs+rs<=i*rs:=by
  calc off / rs*rs+rs=(off / rs+1)*rs:=by rw [adX]
   _<=i*rs:=aaw _ (by omega)
 rw [if_neg (by omega),if_neg (by omega)]
theorem Ga (rs n:Nat)(rows:T (List j3))(off:Nat):ig rs n [] rows off=some rows:=rfl
theorem DV (rs n:Nat)(v:j3)(vs:List j3)(rows:T (List j3))(off:Nat):
  ig rs n (v::vs) rows off=ob (aD rs n rows off [v]) λrows'=>ig rs n vs rows' (off+1):=rfl
theorem gu {h:Array Obj}{b:Nat}{x o:Obj}(hb:h[b]?=some x):(h.setIfInBounds b o)[b]?=some o:=
 Z4 (K9.1 hb).1
theorem set_set (h:Array Obj)(b:Nat)(x y:Obj):(h.setIfInBounds b x).setIfInBounds b y=h.setIfInBounds b y:=by apply ae9;intro j;by_cases hj:b=j;subst hj;by_cases hb:b<h.size;rw [Z4 (by simpa using hb),Z4 hb];simp [ae7 hb];rw [Y4 hj,Y4 hj,Y4 hj]
theorem Gb {n:Nm}{l:Loc}{rs k:Nat}{e:TypeId}{fz:Nat×Nat}:∀(vs:List j3) (off:Nat) (rows rows':T (List j3)) (h:Array Obj) (c:Array Value),
  bP P ι n h l (.cells rs k rows)->ig rs k vs rows off=some rows'->aS n vs->h[l.b]?=some (.cells c e fz)->
  bP P ι n (h.setIfInBounds l.b (.cells (over c (l.base+off) (y7 ι vs)) e fz)) l (.cells rs k rows')∧(vs≠[]->l.base+off+vs.length<=c.size):=by
 intro vs;induction vs with
 | nil=>intro off rows rows' h c hb hw _ hc;rw [Ga] at hw;cases hw;refine⟨hb.mono (n:=n) (λ_ _=>rfl) (Nm.le_refl n) λ_=>?_,λh=>absurd rfl h⟩;rw [gu hc,hc];rfl
 | cons v vs ih=>
  intro off rows rows' h c hb hw hlt hc;rw [DV] at hw;obtain⟨r₁,h1,h2⟩:=C8 hw;obtain⟨b1,f1⟩:=yR (h':=h.setIfInBounds l.b (.cells (over c (l.base+off) (y7 ι [v])) e fz)) hb h1 ⟨hlt.1,trivial⟩ hc (gu hc);obtain⟨b2,f2⟩:=ih (off+1) _ _ _ _ b1 h2 hlt.2 (gu hc);rw [set_set] at b2;refine⟨?_,λ_=>?_⟩;simpa [y7,over,afv] using b2;cases vs with
  | nil=>simpa using f1
  | cons u vs=>have:=f2 (by simp);simp at this ⊢;omega
theorem GI (hm:RM P G ι m w.heap){id rs k off:Nat}{rows rows':T (List j3)}(hid:m.lim<=id)(hg:m.get id=some (.cells rs k rows)){vs:List j3}
  (h1:O0 vs=true) (hlt:aS (m.nm ι) vs)
  (hb:∀c e fz,w.heap[(ι id).b]?=some (.cells c e fz)->bP P ι (m.nm ι) (w.heap.setIfInBounds (ι id).b (.cells (over c ((ι id).base+off) (y7 ι vs)) e fz)) (ι id) (.cells rs k rows')∧
   (vs≠[]->(ι id).base+off+vs.length<=c.size)):
  ∃w',(storeCells (ι.at id off) (y7 ι vs) 0).run P w=.ok () w'∧Step P G ι m w ι (m.set id (.cells rs k rows')) w':=by
 obtain⟨c,e,fz,hc,_⟩:=hm.blk id _ hg;obtain⟨hblk,hfit⟩:=hb c e fz hc;have hfree:=(hm.own id _ hid hg rfl).free c e fz hc;have hone:∀v∈y7 ι vs,(∀l,v≠.agg l)∧∀l,v≠.tuple l:=by intro v hv;rw [bf] at hv;obtain⟨u,hu,rfl⟩:=aeg.1 hv;exact Af (pJ h1 u hu)
 refine⟨{w with heap:=w.heap.setIfInBounds (ι id).b (.cells (over c ((ι id).base+off) (y7 ι vs)) e fz)},?_,?_⟩;cases vs with
 | nil=>
  have:w.heap.setIfInBounds (ι id).b (.cells c e fz)=w.heap:=by apply ae9;intro j;by_cases hj:(ι id).b=j;subst hj;rw [gu hc,hc];rw [Y4 hj]
  simp [y7,storeCells,over,this]
 | cons v vs=>have:=hfit (by simp);rw [K4.yE (hm.spot id _ hg rfl)];exact nV (y7 ι (v::vs)) c ((ι id).base+off) 0 w hc (by simpa using this) hfree hone
 refine Step.set hm hid hg rfl rfl ⟨rfl,rfl,rfl,rfl⟩ ?_ (λc' e' fz' h=>by cases h;simpa using hfree);exact hblk.mono (n:=m.nm ι) (λ_ _=>rfl) (Mem.ah (λi hi=>Mem.mO hm.ok hg rfl i hi) λ_ _=>rfl) λ_=>rfl
theorem Gc (hm:RM P G ι m w.heap){id off:Nat}{vs:List j3}{β:Type}{k:Mem->Option β}{r:β}(hs:storeAt m id off vs k=some r)(hlt:aS (m.nm ι) vs):
  ∃m' w',k m'=some r∧(storeCells (ι.at id off) (y7 ι vs) 0).run P w=.ok () w'∧Step P G ι m w ι m' w':=by
 obtain⟨h1,hs⟩:=jI hs;obtain⟨h2,hs⟩:=D7 hs;obtain⟨rs,n,rows,hg,hs⟩:=cZ hs;obtain⟨rows',hw,hk⟩:=C8 hs;have hid:m.lim<=id:=by rcases afs id m.lim with h | h;rw [(Eq.mpr Y8 h:Nat.blt id m.lim=true)] at h1;cases h1;exact h
 obtain⟨w',g1,g2⟩:=GI (off:=off) (rows':=rows') hm hid hg h2 hlt (λc e fz hc=>by
  obtain⟨p,q⟩:=yR (h':=w.heap.setIfInBounds (ι id).b (.cells (over c ((ι id).base+off) (y7 ι vs)) e fz)) (hm.blk id _ hg) hw hlt hc (gu hc);exact⟨p,λ_=>q⟩)
 exact⟨_,w',hk,g1,g2⟩
theorem mq (hm:RM P G ι m w.heap){id off:Nat}{vs:List j3}{β:Type}{k:Mem->Option β}{r:β}(hs:jq m id off vs k=some r)(hlt:aS (m.nm ι) vs):
  ∃m' w',k m'=some r∧(storeCells (ι.at id off) (y7 ι vs) 0).run P w=.ok () w'∧Step P G ι m w ι m' w':=by
 cases vs with
 | nil=>exact⟨m,w,hs,by simp [y7,storeCells],Step.refl hm⟩
 | cons v vs=>
  have hs:bi (Nat.blt id m.lim) none (bi (O0 (v::vs)) (Q9 (m.get id) λrs n rows=>ob (ig rs n (v::vs) rows off) λrows'=>k (m.set id (.cells rs n rows'))) none)=some r:=hs;obtain⟨h1,hs⟩:=jI hs;obtain⟨h2,hs⟩:=D7 hs;obtain⟨rs,n,rows,hg,hs⟩:=cZ hs;obtain⟨rows',hw,hk⟩:=C8 hs;have hid:m.lim<=id:=by rcases afs id m.lim with h | h;rw [(Eq.mpr Y8 h:Nat.blt id m.lim=true)] at h1;cases h1;exact h
  obtain⟨w',g1,g2⟩:=GI (off:=off) (rows':=rows') hm hid hg h2 hlt (λc e fz hc=>Gb (v::vs) off rows rows' _ c (hm.blk id _ hg) hw hlt hc);exact⟨_,w',hk,g1,g2⟩
theorem jA {a b:Nat}(h:Nat.blt a b=false):b<=a:=by rcases afs a b with g | g;rw [(Eq.mpr Y8 g:Nat.blt a b=true)] at h;cases h;exact g
theorem LJ (s:St P ι (m.nm ι) slots done ls env a.tmps)(hm:RM P G ι m w.heap){t:TypeId}{x y:Operand}{k:Nat}{x' y':P6}(hk:aK P t=some k)
  (hx:N9 P slots done x=some x') (hy:N9 P slots done y=some y') {cf:F4} {outs:List VM} (hv:nu (.store k x' y') cf ls env m=some outs):
  ∀o:Oper,o.op=.store t x y->Does P a.eval o w (aQ P G ι m w outs):=by
 intro o ho;obtain⟨id,off,h1,h⟩:=dV hv;have h1:F9 x' ls env=.ptr id off:=h1;obtain⟨h2,h⟩:=D7 h;have h2:(F9 y' ls env).cells.length=k:=by rw [← I9];exact J4 h2
 obtain⟨e1,_⟩:=A8 s hx;obtain⟨e2,e2'⟩:=A8 s hy;obtain⟨m',w',hk',hrun,hstep⟩:=Gc hm h (uh e2');cases hk';refine Ae (w':=w') ?_ ⟨_,J3.2 rfl,ι,hstep,trivial,rfl⟩;have hsz:(o8 ι (F9 y' ls env)).cells.size=k:=by rw [kK];simp [h2]
 have hc:(o8 ι (F9 y' ls env)).cells.toList=y7 ι (F9 y' ls env).cells:=by rw [kK]
 simp [execOp,ho,Instr.storeAt,e1,e2,h1,o8,Instr.sureAddr,storeVar,run_sizeOf hk,hsz,hc,hrun]
end
section
variable {P:Program}{G:Mem}{ι:K4}{m:Mem}{w:World}{slots:List Nat}{done:List (Option Nat)}{ls:List j3}{env:T j3}{a:Act}
theorem rQ {r:Nat}{o x:Obj}(h:w.heap[r]?=some x)(hx:∀c e fz,x≠.cells c e fz):(setObj r o).run P w=.ok () {w with heap:=w.heap.setIfInBounds r o}:=by simp only [setObj,Sem.run,h]
theorem lu {kk:PK}{x y:j3}(h:FI kk x y=some true)(n:Nat):Instr.sameBits n (o8 ι x) (o8 ι y)=true:=by
 cases kk with
 | i=>obtain⟨k,p,q,rfl,rfl,hr⟩:=nR (show aF x y=some true from h);simp [o8,Instr.sameBits];simpa using hr.symm
 | b=>obtain⟨p,q,rfl,rfl,hr⟩:=gU (show zQ x y=some true from h);simp [o8,Instr.sameBits];simpa using hr.symm
 | s=>obtain⟨p,q,rfl,rfl,hr⟩:=jf (show eqStr x y=some true from h);simp [o8,Instr.sameBits,kZ];simpa using hr.symm
theorem wQ:∀(ks:List PK) (x y:List j3),bH ks x y=some true->x.length=ks.length->y.length=ks.length->∀n,
  ((y7 ι x).zip (y7 ι y)).all (λ(p:Value×Value)=>Instr.sameBits n p.1 p.2)=true
 | [],x,y,_,h1,h2,n=>by cases x<;>simp_all [y7]
 | k::ks,x,y,h,h1,h2,n=>by
  cases x with
  | nil=>simp at h1
  | cons a x=>
   cases y with
   | nil=>simp at h2
   | cons b y=>
    rw [jv] at h;obtain⟨r,h3,h4⟩:=C8 h;cases r with
    | false=>cases h4
    | true=>have ih:=wQ ks x y h4 (by simpa using h1) (by simpa using h2) n;simp only [y7,List.zip_cons_cons,List.all_cons,lu h3 n,aax];exact ih
theorem Jw {kk:zM}{t:TypeId}(hk:sV P t=some kk){x y:j3}(h:lY kk x y=some true)(hx:x.cells.length=zV kk)(hy:y.cells.length=zV kk):
  Instr.sameBits 10000 (o8 ι y) (o8 ι x)=true:=by
 have sym:∀kk x y,FI kk x y=some true->FI kk y x=some true:=by
  intro kk x y h;cases kk with
  | i=>obtain⟨k,p,q,rfl,rfl,hr⟩:=nR (show aF x y=some true from h)
       have:p=q:=(by simpa using hr.symm);subst this;exact h
  | b=>obtain⟨p,q,rfl,rfl,hr⟩:=gU (show zQ x y=some true from h)
       have:p=q:=(by simpa using hr.symm);subst this;exact h
  | s=>obtain⟨p,q,rfl,rfl,hr⟩:=jf (show eqStr x y=some true from h)
       have:p=q:=(by simpa using hr.symm);subst this;exact h
 rcases vO hk with⟨rfl,_⟩ | ⟨_,rfl,_⟩ | ⟨rfl,_⟩ | ⟨fs,ks,rfl,_,_⟩;exact lu (kk:=.b) (sym .b x y h) _;exact lu (kk:=.i) (sym .i x y h) _;exact lu (kk:=.s) (sym .s x y h) _;obtain⟨l,rfl,h1⟩:=dW h;obtain⟨l',rfl,h2⟩:=dW h1;have hx:l.length=ks.length:=hx;have hy:l'.length=ks.length:=hy;have symL:∀(ks:List PK) (x y:List j3),bH ks x y=some true->bH ks y x=some true:=by
  intro ks;induction ks with
  | nil=>intro x y h;exact kM y x
  | cons k ks ih=>
   intro x y h;cases x with
   | nil=>cases h
   | cons u x=>
    cases y with
    | nil=>cases h
    | cons v y=>
     rw [jv] at h ⊢;obtain⟨r,h3,h4⟩:=C8 h;cases r with
     | false=>cases h4
     | true=>rw [sym k u v h3];exact ih x y h4
 have:=wQ (ι:=ι) ks l' l (symL ks l l' h2) hy hx 9999;simp only [o8,Instr.sameBits,afr,V6,hx,hy,beq_self_eq_true,aax];exact this
theorem uH (ι:K4)(e:j3×j3):∀(es:List (j3×j3)) (j:Nat),I5 ι (es ++ [e]) j=I5 ι es j ++ [{key:=o8 ι e.1,val:=o8 ι e.2,born:=j+es.length}]
 | [],j=>by simp [I5]
 | x::es,j=>by simp [I5,uH ι e es,afv,aiQ 1]
theorem DW (k v:j3)(i:Nat):dL [] k v i=[]:=rfl
theorem lT (e:j3×j3)(es:List (j3×j3))(k v:j3):dL (e::es) k v 0=(k,v)::es:=rfl
theorem lU (e:j3×j3)(es:List (j3×j3))(k v:j3)(i:Nat):dL (e::es) k v (i+1)=e::dL es k v i:=rfl
theorem wR (k v:j3):∀(es:List (j3×j3)) (i:Nat),(dL es k v i).length=es.length
 | [],i=>rfl
 | e::es,0=>by simp [lT]
 | e::es,i+1=>by simp [lU,wR k v es]
theorem rR {k v:j3}:∀{es:List (j3×j3)} {i:Nat} {x:j3×j3},x∈dL es k v i->x=(k,v)∨x∈es
 | [],i,x,h=>by cases h
 | e::es,0,x,h=>by rw [lT] at h;rcases Z7.1 h with h | h;exact .inl h;exact .inr (Z9 _ h)
 | e::es,i+1,x,h=>by rw [lU] at h;rcases Z7.1 h with h | h;exact .inr (by rw [h];exact ad3);rcases rR h with h | h;exact .inl h;exact .inr (Z9 _ h)
theorem uI (ι:K4)(k v:j3):∀(es:List (j3×j3)) (i j:Nat),
  (I5 ι es j).modify i (λe=>{e with key:=o8 ι k,val:=o8 ι v})=I5 ι (dL es k v i) j
 | [],i,j=>by simp [I5,DW]
 | e::es,0,j=>by simp [I5,lT]
 | e::es,i+1,j=>by simp [I5,lU,uI ι k v es]
theorem Ca (hm:RM P G ι m w.heap){t kt e:TypeId}{kk:zM}(hu:P.underlying t=some (.map kt e))(hk:sV P kt=some kk){id:Nat}{k x:j3}{es:List (j3×j3)}
  (hid:m.lim<=id) (hg:m.get id=some (.map es)) {r:Option (Nat×j3)} (hf:W9 (lY kk) (zV kk) k es=some r) (hkl:k.lt (m.nm ι)) (hxl:x.lt (m.nm ι)) {outs:List VM}
  (hr:Option.rec (one .undef (m.set id (.map (aX es [(k,x)])))) (λp=>ob (mK p.1 es) λe=>
   bi (Nat.beq (len' e.1.cells) (zV kk)) (one .undef (m.set id (.map (dL es k x p.1)))) none) r=some outs):
  ∃w',(Instr.mapUpdate t (.map (some (ι id).b)) (o8 ι k) (o8 ι x)).run P w=.ok () w'∧aQ P G ι m w outs undef w':=by
 obtain⟨h1,⟨y,b,h2⟩,h3⟩:=jL hf;obtain⟨hobj,hlt⟩:=hm.blk id _ hg;have hget:=fq (P:=P) hobj (by intro _ _ _ e;cases e);have hput:=λo=>rQ (P:=P) (o:=o) hobj (by intro _ _ _ e;cases e);have hfk:=lg (ι:=ι) hk h3 w;have hck:=Cm (ι:=ι) hk h1 h2 false w;cases r with
 | none=>cases hr;refine⟨{w with heap:=w.heap.setIfInBounds (ι id).b (.map (I5 ι (es ++ [(k,x)]) 0).toArray (es ++ [(k,x)]).length)},?_,_,J3.2 rfl,ι,Step.set hm hid hg rfl rfl (o:=.map (I5 ι (es ++ [(k,x)]) 0).toArray (es ++ [(k,x)]).length) ⟨rfl,rfl,rfl,rfl⟩ ?_ (by intro _ _ _ h;cases h),trivial,rfl⟩;simp only [Instr.mapUpdate,Y1,run_underlying hu,hget,J8,hck,hfk,mD,afC,hput];simp [uH];rw [V5];refine⟨gu hobj,λe he=>?_⟩;have hle:=Mem.ah (ι:=ι) (ι':=ι) (λi hi=>Mem.mO (b':=.map (es ++ [(k,x)])) hm.ok hg rfl i hi) λ_ _=>rfl;rcases aaF.1 he with he | he;exact⟨j3.O6 hle _ (hlt e he).1,j3.O6 hle _ (hlt e he).2⟩;rw [J3.1 he];exact⟨j3.O6 hle _ hkl,j3.O6 hle _ hxl⟩
 | some p=>
  obtain⟨e,h4,hr⟩:=C8 hr;obtain⟨h5,hr⟩:=D7 hr;cases hr;rw [iY] at h4;have h5:e.1.cells.length=zV kk:=by rw [← I9];exact J4 h5
  obtain⟨j,e',g1,g2,_,g3⟩:=kN h3;rw [aav] at g1;rw [g1,g2] at h4;cases h4;have hsame:=Jw (ι:=ι) hk g3 h1 h5;refine⟨{w with heap:=w.heap.setIfInBounds (ι id).b (.map (I5 ι (dL es k x p.1) 0).toArray es.length)},?_,_,J3.2 rfl,ι,Step.set hm hid hg rfl rfl (o:=.map (I5 ι (dL es k x p.1) 0).toArray es.length) ⟨rfl,rfl,rfl,rfl⟩ ?_ (by intro _ _ _ h;cases h),trivial,rfl⟩;have hkey:(((I5 ι es 0).toArray[p.1]?).map (·.key)).getD (o8 ι k)=o8 ι e.1:=by simp [lS,g1,g2]
  simp only [Instr.mapUpdate,Y1,run_underlying hu,hget,J8,hck,hfk,mD,ac2,hkey,Instr.keyThatStays,hsame,if_true,aat,hput];rw [List.modify_toArray,uI];refine⟨by rw [wR];exact gu hobj,λe he=>?_⟩;have hle:=Mem.ah (ι:=ι) (ι':=ι) (λi hi=>Mem.mO (b':=.map (dL es k x p.1)) hm.ok hg rfl i hi) λ_ _=>rfl;rcases rR he with he | he;rw [he];exact⟨j3.O6 hle _ hkl,j3.O6 hle _ hxl⟩;exact⟨j3.O6 hle _ (hlt e he).1,j3.O6 hle _ (hlt e he).2⟩
theorem GJ {ι:K4}(k v:j3):∀(L:List MapEntry) (es:List (j3×j3)) (j:Nat),L.map sW=es.map (λe=>(o8 ι e.1,o8 ι e.2))->
  (L.modify j λe=>{e with key:=o8 ι k,val:=o8 ι v}).map sW=(dL es k v j).map λe=>(o8 ι e.1,o8 ι e.2)
 | [],[],j,_=>by simp [DW]
 | [],_ :: _,_,h=>by cases h
 | _ :: _,[],_,h=>by cases h
 | x::L,e::es,0,h=>by simp only [aaZ,afn] at h;rw [lT];simp [sW];simpa [sW] using h.2
 | x::L,e::es,j+1,h=>by simp only [aaZ,afn] at h;rw [lU];simp [h.1,GJ k v L es j h.2]
def LK (u:List UInt8)(x:j3)(e:j3×j3):j3×j3:=match e.1 with
 | .str t=>if t=u then (.str u,x) else e
 | _=>e
theorem UC (u:List UInt8)(x:j3)(e:j3×j3):(LK u x e).1=e.1:=by
 obtain⟨k,v⟩:=e;cases k<;>simp only [LK]
 split;rename_i h;rw [h];rfl
theorem Qh {u:List UInt8}{x:j3}:∀{es:List (j3×j3)},(∀e∈es,e.1≠.str u)->es.map (LK u x)=es
 | [],_=>rfl
 | e::es,h=>by
  rw [aaZ,Qh λy hy=>h y (by simp [hy])];congr 1;have:=h e (by simp);obtain⟨k,v⟩:=e;cases k<;>simp only [LK]
  split;rename_i h';exact absurd (by simp [h']) this;rfl
theorem pK {u:List UInt8}{x v:j3}:∀{es:List (j3×j3)} {j:Nat},(es.map (·.1)).Nodup->es[j]?=some (.str u,v)->dL es (.str u) x j=es.map (LK u x)
 | [],j,_,h=>by simp at h
 | e::es,0,hn,h=>by simp at h;subst h;simp only [aaZ,afp] at hn;rw [lT,aaZ,Qh λy hy hk=>hn.1 (by rw [← hk];exact aeg.2 ⟨y,hy,rfl⟩)];simp [LK]
 | e::es,j+1,hn,h=>by
  simp only [aaZ,afp] at hn;have h:es[j]?=some (.str u,v):=by simpa using h
  rw [lU,aaZ,pK hn.2 h];congr 1;have hne:e.1≠.str u:=λhk=>hn.1 (by rw [hk];exact aeg.2 ⟨_,Y5 h,rfl⟩);obtain⟨k,w⟩:=e;cases k<;>simp only [LK]
  split;rename_i h';exact absurd (by simp [h']) hne;rfl
theorem Ag (hm:RM P G ι m w.heap){t kt e:TypeId}{kk:zM}(hu:P.underlying t=some (.map kt e))(hk:sV P kt=some kk){id:Nat}{u:List UInt8}{x:j3}{es:List (j3×j3)}
  (hid:m.lim<=id) (hg:m.get id=some (.mapU es)) {r:Option (Nat×j3)} (hf:W9 (lY kk) (zV kk) (.str u) es=some r) (hxl:x.lt (m.nm ι)) {es2:List (j3×j3)}
  (hr:(r=none∧es2=es ++ [(.str u,x)])∨∃p,r=some p∧es2=dL es (.str u) x p.1):
  ∃w',(Instr.mapUpdate t (.map (some (ι id).b)) (o8 ι (.str u)) (o8 ι x)).run P w=.ok () w'∧aQ P G ι m w [⟨.undef,m.set id (.mapU es2)⟩] undef w':=by
 obtain⟨h1,⟨y,b,h2⟩,h3⟩:=jL hf;obtain⟨L,ck,hobj,⟨hp,hs,hn⟩,hlt⟩:=hm.blk id _ hg;have hget:=fq (P:=P) hobj (by intro _ _ _ e;cases e);have hput:=λo=>rQ (P:=P) (o:=o) hobj (by intro _ _ _ e;cases e);obtain⟨es',p1,p2⟩:=Bj _ hp;obtain⟨r',q1,q2⟩:=aa2 hk p1 hs hn hf;have hkv:(I5 ι es' 0).map sW=L.map sW:=by rw [xC];exact p2.symm
 have hfk:=lg (ι:=ι) hk q1 w;rw [DJ kt (o8 ι (.str u)) hkv] at hfk;have hck:=Cm (ι:=ι) hk h1 h2 false w;have hle:∀b',bQ b'=false->(m.nm ι).le ((m.set id b').nm ι):=λb' hb'=>Mem.ah (ι:=ι) (ι':=ι) (λi hi=>Mem.mO (b':=b') hm.ok hg hb' i hi) λ_ _=>rfl;have hkk:es≠[]->lY kk=eqStr:=λhne=>by
  cases es with
  | nil=>exact absurd rfl hne
  | cons e0 es=>obtain⟨s0,hs0⟩:=hs e0 (by simp);rw [dG,hs0] at h3;obtain⟨b0,hb0,_⟩:=C8 h3;rw [(Qg hk hb0).1];rfl
 rcases hr with⟨rfl,rfl⟩ | ⟨p,rfl,rfl⟩;obtain rfl:r'=none:=by cases r'<;>simp at q2 ⊢
 refine⟨{w with heap:=w.heap.setIfInBounds (ι id).b (.map (L ++ [(⟨o8 ι (.str u),o8 ι x,ck⟩:MapEntry)]).toArray (ck+1))},?_,_,J3.2 rfl,ι,Step.set hm hid hg rfl rfl (o:=.map (L ++ [(⟨o8 ι (.str u),o8 ι x,ck⟩:MapEntry)]).toArray (ck+1)) ⟨rfl,rfl,rfl,rfl⟩ ?_ (by intro _ _ _ h;cases h),trivial,rfl⟩;simp only [Instr.mapUpdate,Y1,run_underlying hu,hget,J8,hck,hfk,mD,afC,hput];simp;refine⟨_,_,gu hobj,⟨?_,λe he=>?_,?_⟩,λe he=>?_⟩;simp only [ae1,aaZ,List.map_nil];exact hp.append_right _;rcases aaF.1 he with he | he;exact hs e he;rw [J3.1 he];exact⟨u,rfl⟩;simp only [ae1,aaZ,List.map_nil];rw [List.nodup_append];refine⟨hn,by simp,?_⟩;intro a ha b hb hab;rw [J3.1 hb] at hab;subst hab;obtain⟨e0,he0,hk0⟩:=aeg.1 ha;have hin:(j3.str u,e0.2)∈es:=by rw [← hk0];exact he0
 obtain⟨j,g1,_⟩:=pI es 0 hs hn hin;rw [hkk (List.ne_nil_of_mem hin),g1] at h3;cases h3;rcases aaF.1 he with he | he;exact⟨j3.O6 (hle _ rfl) _ (hlt e he).1,j3.O6 (hle _ rfl) _ (hlt e he).2⟩;rw [J3.1 he];exact⟨trivial,j3.O6 (hle _ rfl) _ hxl⟩;obtain⟨p',rfl⟩:∃p',r'=some p':=by cases r' with
  | none=>simp at q2
  | some p'=>exact⟨p',rfl⟩
 have hne:es≠[]:=by rintro rfl;rw [dF] at h3;cases h3
 have he:=hkk hne;have at1:∃v,es[p.1]?=some (.str u,v):=by
  obtain⟨j,e0,g1,g2,_,g4⟩:=kN h3;rw [he] at g4;obtain⟨a1,b1,g5,g6,g7⟩:=jf g4;cases g5;have:u=b1:=by simpa using g7.symm
  subst this;exact⟨e0.2,by rw [g1,aav,g2,← g6]⟩
 have at2:∃v,es'[p'.1]?=some (.str u,v):=by
  obtain⟨j,e0,g1,g2,_,g4⟩:=kN q1;rw [he] at g4;obtain⟨a1,b1,g5,g6,g7⟩:=jf g4;cases g5;have:u=b1:=by simpa using g7.symm
  subst this;exact⟨e0.2,by rw [g1,aav,g2,← g6]⟩
 obtain⟨v1,at1⟩:=at1;obtain⟨v2,at2⟩:=at2;have hL:∃le,L[p'.1]?=some le∧le.key=o8 ι (.str u):=by
  have:=congrArg (λl=>l[p'.1]?) p2;simp only [abY,at2,ac2] at this;cases hl:L[p'.1]? with
  | none=>rw [hl] at this;cases this
  | some le=>rw [hl] at this;simp at this;exact⟨le,rfl,this.1⟩
 obtain⟨le,hle1,hle2⟩:=hL;have hsame:Instr.sameBits 10000 (o8 ι (.str u)) (o8 ι (.str u))=true:=by simp [o8,Instr.sameBits,kZ]
 have hn':(es'.map (·.1)).Nodup:=(p1.map _).nodup_iff.2 hn;refine⟨{w with heap:=w.heap.setIfInBounds (ι id).b (.map (L.modify p'.1 λe=>{e with key:=o8 ι (.str u),val:=o8 ι x}).toArray ck)},?_,_,J3.2 rfl,ι,Step.set hm hid hg rfl rfl (o:=.map (L.modify p'.1 λe=>{e with key:=o8 ι (.str u),val:=o8 ι x}).toArray ck) ⟨rfl,rfl,rfl,rfl⟩ ?_ (by intro _ _ _ h;cases h),trivial,rfl⟩;have hkey:((L.toArray[p'.1]?).map (·.key)).getD (o8 ι (.str u))=o8 ι (.str u):=by simp [hle1,hle2]
 simp only [Instr.mapUpdate,Y1,run_underlying hu,hget,J8,hck,hfk,mD,ac2,hkey,Instr.keyThatStays,hsame,if_true,aat,hput];rw [List.modify_toArray];refine⟨_,_,gu hobj,⟨?_,λe he=>?_,?_⟩,λe he=>?_⟩;rw [show (L.modify p'.1 λe=>{e with key:=o8 ι (.str u),val:=o8 ι x}).map (λx=>(x.key,x.val))=(dL es' (.str u) x p'.1).map (λe=>(o8 ι e.1,o8 ι e.2)) from GJ (.str u) x L es' p'.1 p2,pK hn' at2,pK hn at1];exact (p1.map _).map _;rcases rR he with he | he;rw [he];exact⟨u,rfl⟩;exact hs e he;rw [pK hn at1,agy];rw [show ((λx=>x.1)∘LK u x:j3×j3->j3)=λe=>e.1 from funext λe=>UC u x e];exact hn;rcases rR he with he | he;rw [he];exact⟨trivial,j3.O6 (hle _ rfl) _ hxl⟩;exact⟨j3.O6 (hle _ rfl) _ (hlt e he).1,j3.O6 (hle _ rfl) _ (hlt e he).2⟩
theorem GK {id:Nat}{k:j3}{es es2:List (j3×j3)}(h:m.get id=some (.map es)):nL m id k es2=one .undef (m.set id (.map es2)):=by unfold nL;rw [h]
theorem DX {id:Nat}{k:j3}{es es2:List (j3×j3)}(h:m.get id=some (.mapU es)):nL m id k es2=lJ k λ_=>one .undef (m.set id (.mapU es2)):=by unfold nL;rw [h]
theorem yS (s:St P ι (m.nm ι) slots done ls env a.tmps)(hm:RM P G ι m w.heap){t kt e:TypeId}{kk:zM}(hu:P.underlying t=some (.map kt e))(hk:sV P kt=some kk)
  {x k y:Operand} {x' k' y':P6} (hx:N9 P slots done x=some x') (hkk:N9 P slots done k=some k') (hy:N9 P slots done y=some y')
  {cf:F4} {outs:List VM} (hv:nu (.mapSet kk x' k' y') cf ls env m=some outs):
  ∀o:Oper,(o.op=.mapUpdate t x k y∨o.op=.insert t x k y)->Does P a.eval o w (aQ P G ι m w outs):=by
 intro o ho;rcases vN hv with⟨_,h⟩ | ⟨id,h1,h⟩;cases h;obtain⟨h2,h⟩:=jI h;obtain⟨es,hg | hg,h⟩:=Cn h
 case inr=>
  obtain⟨r,hf,hr⟩:=C8 h;have h1:F9 x' ls env=.map id:=h1;obtain⟨e1,_⟩:=A8 s hx;obtain⟨e2,e2'⟩:=A8 s hkk;obtain⟨e3,e3'⟩:=A8 s hy;have key:∃u,F9 k' ls env=.str u∧∃es2,outs=[⟨.undef,m.set id (.mapU es2)⟩]∧((r=none∧es2=es ++ [(.str u,F9 y' ls env)])∨∃p,r=some p∧es2=dL es (.str u) (F9 y' ls env) p.1):=by
   cases r with
   | none=>have hr:nL m id (F9 k' ls env) (aX es [(F9 k' ls env,F9 y' ls env)])=some outs:=hr;rw [DX hg] at hr;obtain⟨u,hu',hr⟩:=iq hr;cases hr;rw [hu',V5];exact⟨u,rfl,_,rfl,.inl ⟨rfl,rfl⟩⟩
   | some p=>obtain⟨e0,_,hr⟩:=C8 hr;obtain⟨_,hr⟩:=D7 hr;rw [DX hg] at hr;obtain⟨u,hu',hr⟩:=iq hr;cases hr;rw [hu'];exact⟨u,rfl,_,rfl,.inr ⟨p,rfl,rfl⟩⟩
  obtain⟨u,hku,es2,rfl,hcase⟩:=key;rw [hku] at hf;obtain⟨w',g1,g2⟩:=Ag hm hu hk (jA h2) hg hf e3' hcase;refine Ae (w':=w') ?_ g2;rcases ho with ho | ho<;>simp [execOp,ho,e1,e2,e3,h1,hku,o8,g1]
  all_goals (simp only [o8] at g1;simp [g1])
 obtain⟨r,hf,hr⟩:=C8 h;have h1:F9 x' ls env=.map id:=h1;obtain⟨e1,_⟩:=A8 s hx;obtain⟨e2,e2'⟩:=A8 s hkk;obtain⟨e3,e3'⟩:=A8 s hy;have hr:Option.rec (one .undef (m.set id (.map (aX es [(F9 k' ls env,F9 y' ls env)])))) (λp=>ob (mK p.1 es) λe=>
   bi (Nat.beq (len' e.1.cells) (zV kk)) (one .undef (m.set id (.map (dL es (F9 k' ls env) (F9 y' ls env) p.1)))) none) r=some outs:=by
  cases r with
  | none=>rw [← GK (k:=F9 k' ls env) hg];exact hr
  | some p=>simp only [← GK (k:=F9 k' ls env) hg];exact hr
 obtain⟨w',g1,g2⟩:=Ca hm hu hk (jA h2) hg hf e2' e3' hr;refine Ae (w':=w') ?_ g2;rcases ho with ho | ho<;>simp [execOp,ho,e1,e2,e3,h1,o8,g1]
theorem run_newObj (o:Obj)(w:World):(newObj o).run P w=.ok w.heap.size {w with heap:=w.heap.push o}:=by simp [newObj,Sem.run]
theorem LM (hm:RM P G ι m w.heap)(mp:Option Nat)(since:Nat)(hmp:∀x,mp=some x->m.has x):
  aQ P G ι m w [⟨.ptr m.nx 0,m.new (.iter mp since [])⟩] (.pointer (some ⟨w.heap.size,0,none⟩)) {w with heap:=w.heap.push (.mapIter (mp.map λx=>(ι x).b) since #[] since)}:=by
 have hl:=Laid.new hm.ok hm.limn (.iter mp since []) rfl;refine⟨_,J3.2 rfl,ι.upd m.nx ⟨w.heap.size,0,0,none⟩,Step.lay (w':={w with heap:=w.heap.push (.mapIter (mp.map λx=>(ι x).b) since #[] since)}) hm hl (o:=.mapIter (mp.map λx=>(ι x).b) since #[] since) ⟨rfl,rfl,rfl,rfl⟩ rfl rfl ?_ (by intro _ _ _ h;cases h),hl.self,by simp [o8,K4.at]⟩;refine⟨rfl,λx hx=>hl.has x (hmp x hx),#[],since,?_,rfl,λ_=>rfl⟩;show (w.heap.push _)[w.heap.size]?=_;rw [dh];cases mp with
 | none=>rfl
 | some x=>simp [ι.upd_ne ⟨w.heap.size,0,0,none⟩ (λe=>hl.free (e▸hmp x rfl):x≠m.nx)]
theorem LP (s:St P ι (m.nm ι) slots done ls env a.tmps)(hm:RM P G ι m w.heap){t k e:TypeId}(hu:P.underlying t=some (.map k e))
  {x:Operand} {x':P6} (hx:N9 P slots done x=some x') {cf:F4} {outs:List VM} (hv:nu (.range x') cf ls env m=some outs):
  ∀o:Oper,o.op=.range t x->Does P a.eval o w (aQ P G ι m w outs):=by
 intro o ho;obtain⟨e1,e1'⟩:=A8 s hx;rcases vN hv with⟨h1,h⟩ | ⟨id,h1,h⟩;cases h;have h1:F9 x' ls env=.nilMap:=h1;refine O7 (v:=.pointer (some ⟨w.heap.size,0,none⟩)) ?_ (LM hm none 0 (by simp));simp [execOp,ho,Instr.range,run_underlying hu,e1,h1,o8];obtain⟨es,hg,h⟩:=Ac h;cases h;have h1:F9 x' ls env=.map id:=h1;obtain⟨o1,o2⟩:=Jv hm hg;rw [I9];refine O7 (v:=.pointer (some ⟨w.heap.size,0,none⟩)) ?_ (LM hm (some id) es.length (by intro x hx;cases hx;exact⟨_,hg,rfl⟩));simp [execOp,ho,Instr.range,run_underlying hu,e1,h1,o8,o1]
theorem Jy (n:Nat):∀l:List Nat,rz n l=l.contains n
 | []=>rfl
 | x::l=>by show bi (Nat.beq x n) true (rz n l)=_;rw [Jy n l,uz,aiD];by_cases h:x=n;subst h;simp;rw [if_neg h,beq_eq_false_iff_ne.2 (λe=>h e.symm),aiG]
theorem xG (m:Mem)(id mp since:Nat)(seen:List Nat)(e:j3×j3)(es:List (j3×j3))(i:Nat):
  nexts m id mp since seen (e::es) i=bi (rz i seen) (nexts m id mp since seen es (i+1))
   (⟨.tuple [.bool true,e.1,e.2],m.set id (.iter (some mp) since (i::seen))⟩::nexts m id mp since seen es (i+1)):=rfl
theorem Ah {m:Mem}{id mp since:Nat}{seen:List Nat}:∀{es:List (j3×j3)} {i j:Nat} {e:j3×j3},es[j]?=some e->seen.contains (i+j)=false->
  (⟨.tuple [.bool true,e.1,e.2],m.set id (.iter (some mp) since ((i+j)::seen))⟩:VM)∈nexts m id mp since seen es i
 | [],i,j,e,h,_=>by simp at h
 | x::es,i,0,e,h,hs=>by simp at h;subst h;rw [xG,Jy,show seen.contains i=false from hs];exact ad3
 | x::es,i,j+1,e,h,hs=>by
  rw [xG];have:=Ah (es:=es) (i:=i+1) (j:=j) (m:=m) (id:=id) (mp:=mp) (since:=since) (by simpa using h) (by rw [show i+1+j=i+(j+1) from by omega];exact hs);rw [show i+1+j=i+(j+1) from by omega] at this;cases rz i seen with
  | true=>exact this
  | false=>exact Z9 _ this
theorem DY {m:Mem}{id mp since:Nat}{seen:List Nat}:∀{es:List (j3×j3)} {i:Nat},(∀j,j<es.length->seen.contains (i+j)=true)->nexts m id mp since seen es i=[]
 | [],i,h=>rfl
 | e::es,i,h=>by rw [xG,Jy,show seen.contains i=true from h 0 (by simp)];exact DY λj hj=>by rw [show i+1+j=i+(j+1) from by omega];exact h (j+1) (by simpa using hj)
theorem DZ (n:Nat)(hn:0<n)(w:World):∃k w',(choose (.mapNext n)).run P w=.ok k w'∧k<n∧(w'=w∨w'={w with drawn:=w.drawn+1}):=by rw [run_choose];by_cases h:n<=1;exact⟨0,w,by simp [Question.forced,h],hn,.inl rfl⟩;exact⟨_,_,by simp only [Question.forced,h,decide_false,J9,if_false];rfl,ait _ hn,.inr rfl⟩
theorem UD (hm:RM P G ι m w.heap){id mp since:Nat}{seen:List Nat}{es:List (j3×j3)}(hid:m.lim<=id)(hit:m.get id=some (.iter (some mp) since seen))
  (hes:m.get mp=some (.map es)) (hlen:es.length=since) (t:TypeId):
  ∃v w',(Instr.next (.pointer (some ⟨(ι id).b,0,none⟩)) false t).run P w=.ok v w'∧aQ P G ι m w (Jc m (nexts m id mp since seen es 0)) v w':=by
 obtain⟨b1,b2,sn,st,b3,b4,b5⟩:=hm.blk id _ hit;obtain⟨c1,c2⟩:=hm.blk mp _ hes;have hst:st=since:=b5 (by simp);subst hst;subst hlen;have hgi:=fq (P:=P) b3 (by intro _ _ _ e;cases e);have hgm:=fq (P:=P) c1 (by intro _ _ _ e;cases e);generalize hL:I5 ι es 0=L at *;have hborn:∀x∈L,x.born<es.length:=by
  intro x hx;obtain⟨j,hj⟩:=aaS hx;rw [← hL,lS] at hj;cases he:es[j]? with
  | none=>simp [he] at hj
  | some e=>simp [he] at hj;rw [← hj];simpa using (J5.1 he).1
 have hall:(!sn.isEmpty && !L.toArray.isEmpty&&L.toArray.all (λe=>decide (e.born≥es.length)))=false:=by
  cases L with
  | nil=>simp
  | cons x L=>have:=hborn x (by simp);simp;intro _ h;omega
 have hold:∀l:List MapEntry,(∀x∈l,x∈L)->l.filter (λe=>decide (e.born<es.length))=l:=λl hl=>afO.2 λx hx=>by simpa using hborn x (hl x hx)
 have hnew:∀l:List MapEntry,(∀x∈l,x∈L)->l.filter (λe=>decide (e.born≥es.length))=[]:=λl hl=>aii.2 λx hx=>by have:=hborn x (hl x hx);simp;omega
 have hleft:=λx (hx:x∈L.filter (λe=>!sn.contains e.born))=>(afm.1 hx).1;simp only [Instr.next,Y1,hgi,J8,ac2,hgm];rw [if_neg (by rw [hall];simp)];simp only [List.filter_toArray,hold _ hleft,hnew _ hleft];generalize hlf:L.filter (λe=>!sn.contains e.born)=left at *;generalize hc:((if left.toArray.isEmpty=true then #[none] else #[])++Array.map some (left.toArray ++ [].toArray):Array (Option MapEntry))=cands;have hc':cands=(if left=[] then #[none] else (left.map some).toArray):=by rw [← hc];cases left<;>simp
 have hpos:0<cands.size:=by rw [hc'];split<;>simp_all;exact agx (by simp;assumption)
 obtain⟨k,w1,hk1,hk2,hk3⟩:=DZ (P:=P) cands.size hpos w;simp only [Y1,hk1,J8];have hheap:w1.heap=w.heap:=by rcases hk3 with rfl | rfl<;>rfl
 have hw1:w1.os=w.os∧w1.output=w.output∧w1.tape=w.tape:=by rcases hk3 with rfl | rfl<;>exact⟨rfl,rfl,rfl⟩
 have hin:∀x,x∈sn.toList↔x∈seen:=λx=>by rw [← b4];simp
 by_cases hl0:left=[];rw [if_pos hl0] at hc';have hk0:k=0:=by rw [hc'] at hk2;simpa using hk2
 rw [hc',hk0];have hnone:nexts m id mp es.length seen es 0=[]:=DY λj hj=>by
  have hx:(I5 ι es 0)[j]?=some {key:=o8 ι es[j].1,val:=o8 ι es[j].2,born:=0+j}:=by rw [lS];simp [hj]
  have hmem:({key:=o8 ι es[j].1,val:=o8 ι es[j].2,born:=0+j}:MapEntry)∈L:=by rw [← hL];exact Y5 hx
  rw [hl0] at hlf;have:=aii.1 hlf _ hmem;simp at this ⊢;rw [← hin];simpa using this
 refine⟨.tuple #[.bool false],w1,by simp,⟨.tuple [.bool false],m⟩,by rw [hnone];exact J3.2 rfl,ι,?_,by simp [j3.lt,aS],by simp [o8,y7]⟩;rcases hk3 with rfl | rfl;exact Step.refl hm;exact Step.drew hm _;rw [if_neg hl0] at hc';have hkl:k<left.length:=by rw [hc'] at hk2;simpa using hk2
 have hget:cands[k]?=some (some left[k]):=by rw [hc'];simp [hkl]
 have hmem:left[k]∈L∧sn.contains left[k].born=false:=by have:=afm.1 (show left[k]∈L.filter (λe=>!sn.contains e.born) from by rw [hlf];exact abX hkl);simpa using this
 generalize left[k]=x at *;obtain⟨j,hj⟩:=aaS hmem.1;rw [← hL,lS] at hj;cases he:es[j]? with
 | none=>simp [he] at hj
 | some e=>
  simp [he] at hj;subst hj;have hnc:seen.contains (0+j)=false:=by have h2:=hmem.2;rw [ac3] at h2 ⊢;intro hc2;apply h2;simp at hc2 ⊢;have:=(hin j).2 hc2;simpa using this
  have hm1:(nexts m id mp es.length seen es 0)≠[]:=List.ne_nil_of_mem (Ah he hnc);have hor:Jc m (nexts m id mp es.length seen es 0)=nexts m id mp es.length seen es 0:=by
   cases h:nexts m id mp es.length seen es 0 with
   | nil=>exact absurd h hm1
   | cons=>rfl
  have hput:=rQ (P:=P) (w:=w1) (o:=.mapIter (some (ι mp).b) es.length (sn.push j) es.length) (by rw [hheap];exact b3) (by intro _ _ _ e;cases e);refine⟨.tuple #[.bool true,o8 ι e.1,o8 ι e.2],{w1 with heap:=w1.heap.setIfInBounds (ι id).b (.mapIter (some (ι mp).b) es.length (sn.push j) es.length)},?_,_,by rw [hor];exact Ah he hnc,ι,Step.set (w':={w1 with heap:=w1.heap.setIfInBounds (ι id).b (.mapIter (some (ι mp).b) es.length (sn.push j) es.length)}) hm hid hit rfl rfl (o:=.mapIter (some (ι mp).b) es.length (sn.push j) es.length) ⟨by rw [hheap],hw1.1,hw1.2.1,hw1.2.2⟩ ?_ (by intro _ _ _ h;cases h),?_,?_⟩;rw [hget];simp [hput];refine⟨b1,λx hx=>?_,sn.push j,es.length,?_,?_,λ_=>rfl⟩;cases hx;exact Mem.mO hm.ok hit rfl mp ⟨_,hes,rfl⟩;simpa using gu b3;simp [b4];have hlt:=c2 e (Y5 he);have hle:=Mem.ah (ι:=ι) (ι':=ι) (λi hi=>Mem.mO (b':=.iter (some mp) es.length ((0+j)::seen)) hm.ok hit rfl i hi) λ_ _=>rfl;exact⟨trivial,j3.O6 hle _ hlt.1,j3.O6 hle _ hlt.2,trivial⟩;simp [o8,y7]
theorem OB (s:St P ι (m.nm ι) slots done ls env a.tmps)(hm:RM P G ι m w.heap)
  {x:Operand} {x':P6} (hx:N9 P slots done x=some x') {cf:F4} {outs:List VM} (hv:nu (.next x') cf ls env m=some outs):
  ∀o:Oper,o.op=.next x false->Does P a.eval o w (aQ P G ι m w outs):=by
 intro o ho;obtain⟨e1,e1'⟩:=A8 s hx;obtain⟨id,off,h1,h⟩:=dV hv;have h1:F9 x' ls env=.ptr id off:=h1;obtain⟨h0,h⟩:=D7 h;obtain rfl:off=0:=J4 h0;obtain⟨hid,h⟩:=jI h;rcases DN h with⟨sn',l',hit,h⟩ | ⟨mp,since,seen,hit,h⟩;cases h;obtain⟨b1,b2,sn,st,b3,b4,b5⟩:=hm.blk id _ hit;have hgi:=fq (P:=P) b3 (by intro _ _ _ e;cases e);have hev:a.eval x=.pointer (some ⟨(ι id).b,0,none⟩):=by rw [e1,h1];simp [o8,K4.at,b1,hm.spot _ _ hit rfl]
 refine O7 (v:=.tuple #[.bool false]) (w':=w) ?_ ⟨_,J3.2 rfl,ι,Step.refl hm,by simp [j3.lt,aS],by simp [o8,y7]⟩;simp [execOp,ho,hev,Instr.next,hgi];obtain⟨es,hes,h⟩:=Ac h;obtain⟨h2,h⟩:=D7 h;have h2:es.length=since:=by rw [← I9];exact J4 h2
 cases h;obtain⟨b1,_⟩:=hm.blk id _ hit;have hev:a.eval x=.pointer (some ⟨(ι id).b,0,none⟩):=by rw [e1,h1];simp [o8,K4.at,b1,hm.spot _ _ hit rfl]
 obtain⟨v,w',g1,g2⟩:=UD hm (jA hid) hit hes h2 o.type;refine O7 (v:=v) (w':=w') ?_ g2;simp [execOp,ho,hev,g1]
end
section
variable {P:Program}{G:Mem}{ι:K4}{m:Mem}{w:World}{slots:List Nat}{done:List (Option Nat)}{ls:List j3}{env:T j3}{a:Act}
theorem nW (l:List UInt8):bytesOf l=l.map λb=>j3.int .u8 b.toNat:=by
 induction l with
 | nil=>rfl
 | cons b l ih=>simp [bytesOf,ih]
theorem uJ {v:j3}{n:Nat}(h:lenOf v=some n)(w:World):(Builtin.lenOf (o8 ι v)).run P w=.ok n w:=by cases v<;>simp only [lenOf,J6,reduceCtorEq] at h<;>subst h<;>simp [o8,Builtin.lenOf,nQ]
theorem iM (hm:RM P G ι m w.heap){es n:Nat}{v:j3}{l:List j3}(h:iW m es n v=some l):
  (Builtin.firstCells es n (o8 ι v)).run P w=.ok (y7 ι l).toArray w∧aS (m.nm ι) l:=by
 cases v<;>simp only [iW,J6,reduceCtorEq] at h
 subst h;refine⟨?_,by rw [nW,bT];intro v hv;obtain⟨b,_,rfl⟩:=aeg.1 hv;simp [j3.lt]⟩;simp only [o8,Builtin.firstCells,aat];congr 1;simp [nW,bf,o8,Function.comp_def,ByteArray.data_extract,afR];subst h;exact⟨by simp [o8,Builtin.firstCells,y7],trivial⟩;obtain⟨g1,g2,g3⟩:=jK hm h;exact⟨gV g1 g3,g2⟩;obtain⟨g1,g2,g3⟩:=jK hm h;exact⟨gV g1 g3,g2⟩
theorem OC (s:St P ι (m.nm ι) slots done ls env a.tmps)(hm:RM P G ι m w.heap){c:Call}{t u e:TypeId}{x y:Operand}{x' y':P6}{es:Nat}(hc:c.callee=.builtin .copy)
  (hts:c.argTypes.toList=[t,u]) (has:c.args.toList=[x,y]) (hu:P.underlying t=some (.slice e)) (hes:aK P e=some es)
  (hx:N9 P slots done x=some x') (hy:N9 P slots done y=some y') {cf:F4} {outs:List VM} (hv:nu (.copy es x' y') cf ls env m=some outs):
  ∀o:Oper,o.op=.call c->Does P a.eval o w (aQ P G ι m w outs):=by
 intro o ho;have hts:c.argTypes=#[t,u]:=by rw [← hts,aaV]
 have has:c.args=#[x,y]:=by rw [← has,aaV]
 obtain⟨e1,_⟩:=A8 s hx;obtain⟨e2,_⟩:=A8 s hy;obtain⟨n,h1,hv⟩:=C8 hv;have hl:=uJ (P:=P) (ι:=ι) h1 w;have go:∀id off len cap,o8 ι (F9 x' ls env)=.slice (some (ι.at id off)) len cap->Uf.go es m n id off len (F9 y' ls env)=some outs->Does P a.eval o w (aQ P G ι m w outs):=by intro id off len cap h2 h;obtain⟨cells,h3,h⟩:=C8 h;obtain⟨g1,g2⟩:=iM hm h3;obtain⟨m',w',hk,hrun,hstep⟩:=mq hm h g2;cases hk;refine O7 (v:=.int .i64 (Nat.min n len)) (w':=w') ?_ ⟨_,J3.2 rfl,ι,hstep,trivial,rfl⟩;simp [execOp,ho,resolve,hc,has,hts,invoke,builtin,Builtin.copy_,run_underlying hu,e1,e2,h2,hl,run_sizeOf hes,g1,hrun,goInt]
 rcases rA hv with⟨h2,h⟩ | ⟨id,off,len,cap,h2,h⟩ | ⟨id,off,len,cap,h2,h⟩;cases h;have h2:F9 x' ls env=.nilSlice:=h2;have hf:∃C,(Builtin.firstCells es 0 (o8 ι (F9 y' ls env))).run P w=.ok C w:=by
  have hz:iW m es 0 (F9 y' ls env)=some []:=by generalize F9 y' ls env=v at h1;have h0:∀i off,X0 m i off 0=some []:=λi off=>rfl;cases v<;>simp only [lenOf,reduceCtorEq] at h1<;>simp [iW,bytesOf,h0]
  exact⟨_,(iM hm hz).1⟩
 obtain⟨C,hC⟩:=hf;refine O7 (v:=.int .i64 0) (w':=w) ?_ ⟨_,J3.2 rfl,ι,Step.refl hm,trivial,rfl⟩;simp [execOp,ho,resolve,hc,has,hts,invoke,builtin,Builtin.copy_,run_underlying hu,e1,e2,h2,hl,run_sizeOf hes,o8,goInt,hC];have h2:F9 x' ls env=.slice id off len cap:=h2;exact go id off len cap (by rw [h2];rfl) h;have h2:F9 x' ls env=.sliceU id off len cap:=h2;exact go id off len (((ι id).cap-off) / cap) (by rw [h2];simp only [o8]) h
theorem yT (z:List j3)(k:Nat):Builtin.zeroCells (y7 ι z).toArray k=(y7 ι (U0 z k)).toArray:=by have:=DU (ι:=ι) z k;rw [← this];simp [Builtin.zeroCells]
theorem LQ (s:St P ι (m.nm ι) slots done ls env a.tmps)(hm:RM P G ι m w.heap){c:Call}{t e:TypeId}{x:Operand}{x':P6}{z:List j3}(hc:c.callee=.builtin .clear)
  (hts:c.argTypes.toList=[t]) (has:c.args.toList=[x]) (hu:P.underlying t=some (.slice e)) (hz:qA P e=some z)
  (hx:N9 P slots done x=some x') {cf:F4} {outs:List VM} (hv:nu (.clear z x') cf ls env m=some outs):
  ∀o:Oper,o.op=.call c->Does P a.eval o w (aQ P G ι m w outs):=by
 intro o ho;have hts:c.argTypes=#[t]:=by rw [← hts,aaV]
 have has:c.args=#[x]:=by rw [← has,aaV]
 obtain⟨e1,_⟩:=A8 s hx;obtain⟨zv,hz1,hz2,hz3⟩:=cO (P:=P) (w:=w) hz ι;have go:∀id off len cap,o8 ι (F9 x' ls env)=.slice (some (ι.at id off)) len cap->jq m id off (U0 z len) (λm'=>one (.tuple []) m')=some outs->Does P a.eval o w (aQ P G ι m w outs):=by
  intro id off len cap h2 h;obtain⟨m',w',hk,hrun,hstep⟩:=mq hm h (rO (hz3 _) len);cases hk;refine O7 (v:=.tuple #[]) (w':=w') ?_ ⟨_,J3.2 rfl,ι,hstep,by simp [j3.lt,aS],by simp [o8,y7]⟩;cases len with
  | zero=>
   rw [yO] at hrun;have:w'=w:=by simp [y7,storeCells] at hrun;exact hrun.symm
   subst this;simp [execOp,ho,resolve,hc,has,hts,invoke,builtin,Builtin.clear_,run_underlying hu,e1,h2]
  | succ len=>simp [execOp,ho,resolve,hc,has,hts,invoke,builtin,Builtin.clear_,run_underlying hu,e1,h2,hz1,hz2,yT,hrun]
 rcases rA hv with⟨h2,h⟩ | ⟨id,off,len,cap,h2,h⟩ | ⟨id,off,len,cap,h2,h⟩;cases h;have h2:F9 x' ls env=.nilSlice:=h2;refine O7 (v:=.tuple #[]) (w':=w) ?_ ⟨_,J3.2 rfl,ι,Step.refl hm,by simp [j3.lt,aS],by simp [o8,y7]⟩;simp [execOp,ho,resolve,hc,has,hts,invoke,builtin,Builtin.clear_,run_underlying hu,e1,h2,o8];have h2:F9 x' ls env=.slice id off len cap:=h2;exact go id off len cap (by rw [h2];rfl) h;have h2:F9 x' ls env=.sliceU id off len cap:=h2;exact go id off len (((ι id).cap-off) / cap) (by rw [h2];simp only [o8]) h
end
section
variable {P:Program}{G:Mem}{ι:K4}{m:Mem}{w:World}
theorem Step.aa3 {G:Mem}(h:RM P G ι m w.heap){id:Nat}{b b':O9}(hid:m.lim<=id)(hg:m.get id=some b)(hl:U2 b=true)(hb':bQ b'=false){o:Obj}{w':World}
  (hw:Put w w' (ι id).b o) {l:Loc} (hlb:l.b=(ι id).b) (hls:l.spot=none)
  (hblk:bP P (ι.upd m.nx l) ((((m.set id .dead).new b')).nm (ι.upd m.nx l)) (w.heap.setIfInBounds (ι id).b o) l b')
  (hf:∀c e fz,o=.cells c e fz->∀k,k<c.size->¬ (fz.1<=k∧k<fz.2)):
  Step P G ι m w (ι.upd m.nx l) ((m.set id .dead).new b') w':=by
 have hlt:=Mem.I8 h.ok hg;have hget₁:=Mem.Z0 h.ok hlt .dead;have hok₁:T.Ok (m.set id .dead).t (m.set id .dead).nx:=h.ok.put id .dead hlt;have hget:∀i,((m.set id .dead).new b').get i=if i=m.nx then some b' else if i=id then some .dead else m.get i:=λi=>by rw [Mem.N7 hok₁,hget₁];rfl
 have hne:∀i x,m.get i=some x->i≠m.nx:=λi x hx e=>by have:=Mem.I8 h.ok hx;omega
 have hext:∀j,m.has j->ι.upd m.nx l j=ι j:=λj ⟨x,hx,_⟩=>ι.upd_ne l (hne j x hx);have hhas:∀i,m.has i->((m.set id .dead).new b').has i:=λi ⟨x,hx,hv⟩=>by by_cases he:i=id;exact⟨.dead,by rw [hget,if_neg (hne i x hx),if_pos he],rfl⟩;exact⟨x,by rw [hget,if_neg (hne i x hx),if_neg he];exact hx,hv⟩
 have hown:=h.own id b hid hg hl;have hbnd:(ι id).b<w.heap.size:=dD (h.blk id b hg) hl;have hlive:∀i x,((m.set id .dead).new b').get i=some x->U2 x=true->(i=m.nx∧x=b')∨(i≠m.nx∧i≠id∧m.get i=some x):=λi x hx hlx=>by rw [hget] at hx;split at hx;cases hx;exact .inl ⟨by assumption,rfl⟩;split at hx;cases hx;cases hlx;exact .inr ⟨by assumption,by assumption,hx⟩
 refine⟨⟨hok₁.push b',?_,?_,h.glim,aic h.limn,h.gle,λi hi=>by rw [hget,if_neg (by have:=h.glim;have:=h.limn;omega),if_neg (by have:=h.glim;omega)];exact h.base i hi,λi hi=>hhas i (h.ghas i hi),λi hi=>by rw [hext i (h.ghas i hi)];exact h.glob i hi,λi x hx hlx=>by
   rcases hlive i x hx hlx with⟨rfl,_⟩ | ⟨h1,_,h3⟩;rw [ι.Q8];exact hls;rw [ι.upd_ne l h1];exact h.spot i x h3 hlx,h.Ll λb₁ hb₁ ho=>by
   rw [hw.heap,getElem?_set_ne];intro e;exact ho ⟨id,b,hid,hg,hl,e⟩⟩,hext,hhas,aiB _,rfl,?_,by rw [hw.heap];simp,?_,?_,hw.os,hw.out,hw.tape⟩
 intro i x hx;rw [hget] at hx;rw [hw.heap];split at hx;rename_i e;subst e;cases hx;simpa using hblk;rename_i e;split at hx;cases hx;trivial;rename_i e2;rw [ι.upd_ne l e];exact (h.blk i x hx).mono (n:=m.nm ι) hext (Mem.ah hhas hext) (λhlx=>getElem?_set_ne _ _ _ _ (λe'=>hown.alone i x e2 hx hlx e'.symm));intro i x hi hx hlx;have hi:m.lim<=i:=hi;rcases hlive i x hx hlx with⟨rfl,rfl⟩ | ⟨h1,h2,h3⟩;refine⟨λj y hj hy hly=>?_,λc e fz hc=>?_⟩;rcases hlive j y hy hly with⟨h4,_⟩ | ⟨h4,h5,h6⟩;exact absurd h4 hj;rw [ι.upd_ne l h4,ι.Q8,hlb];exact hown.alone j y h5 h6 hly;rw [ι.Q8,hlb,hw.heap,Z4 hbnd] at hc;exact hf c e fz (Y7 hc);refine⟨λj y hj hy hly=>?_,λc e fz hc=>?_⟩;rw [ι.upd_ne l h1];rcases hlive j y hy hly with⟨rfl,_⟩ | ⟨h4,h5,h6⟩;rw [ι.Q8,hlb];exact (h.own i x hi h3 hlx).alone id b (λe=>h2 e.symm) hg hl;rw [ι.upd_ne l h4];exact (h.own i x hi h3 hlx).alone j y hj h6 hly;rw [ι.upd_ne l h1,hw.heap,getElem?_set_ne _ _ _ _ (λe'=>hown.alone i x h2 h3 hlx e'.symm)] at hc;exact (h.own i x hi h3 hlx).free c e fz hc;intro i hi;rw [hget,if_neg (by have:=h.limn;omega),if_neg (by omega)];intro b₁ _ ho;rw [hw.heap,getElem?_set_ne];intro e;exact ho ⟨id,b,hid,hg,hl,e⟩;rintro b₁ ⟨i,x,hi,hx,hlx,rfl⟩;rcases hlive i x hx hlx with⟨rfl,rfl⟩ | ⟨h1,h2,h3⟩;rw [ι.Q8,hlb];exact .inl ⟨id,b,hid,hg,hl,rfl⟩;rw [ι.upd_ne l h1];exact .inl ⟨i,x,hi,h3,hlx,rfl⟩
def Fits (P:Program)(ι:K4)(m:Mem)(es need:Nat)(cells:List j3)(b':O9):Prop:=
 bQ b'=false∧∀(ι':K4) (n':Nm) (h':Array Obj) (l':Loc) (c':Array Value) (e:TypeId) (fz:Nat×Nat),(m.nm ι).le n'->(∀i,m.has i->ι' i=ι i)->
  h'[l'.b]?=some (.cells c' e fz)->l'.base+l'.cap<=c'.size->need*es<=l'.cap->(∀(j:Nat) (v:j3),cells[j]?=some v->c'[l'.base+j]?=some (o8 ι v))->bP P ι' n' h' l' b'
theorem vP {es need:Nat}{cells:List j3}{rl:List (List j3)}(hr:rowsOf es need cells=some rl)(hlt:aS (m.nm ι) cells):Fits P ι m es need cells (.cells es need (T.ofList rl)):=by
 refine⟨rfl,λι' n' h' l' c' e fz hle hext hc hcap hneed hat=>?_⟩;obtain⟨h1,h2,h3⟩:=gW _ _ _ _ hr;refine⟨c',e,fz,hc,hcap,⟨hneed,rl.length,by omega,T.fP rl,by rw [← h2];exact uo (T.fP rl)⟩,λi hi=>?_⟩;obtain⟨row,g1,g2,g3⟩:=h3 i hi;refine⟨row,by rw [T.aG];exact g1,g2,bT.2 λv hv=>?_,λj hj=>?_⟩;obtain⟨j,hj⟩:=aaS hv;have hj':j<es:=afE (J5.1 hj).1 g2;rw [g3 j hj'] at hj;exact j3.O6 hle _ (O8 hlt (Y5 hj));rw [g3 j hj];have hb:i*es+j<cells.length:=by
  rw [h1]
  calc i*es+j<i*es+es:=by omega
   _=(i+1)*es:=by rw [adX]
   _<=need*es:=aaw _ hi
 have hv:=J7 hb;rw [hat _ _ hv,hv,ac2,Q0 (n:=m.nm ι) hext _ (O8 hlt (Y5 hv))]
theorem RA (hm:RM P G ι m w.heap){id es k:Nat}{rows:T (List j3)}(hg:m.get id=some (.cells es k rows)):∀len,len<=k->
  ∃l:List j3,l.length=len*es∧aS (m.nm ι) l∧nT ι w id 0 l∧∀i,i<len->∃row,rows.get i=some row∧row.length=es∧∀j,j<es->l[i*es+j]?=row[j]?:=by
 intro len;induction len with
 | zero=>intro _;exact⟨[],by simp,trivial,λj v hv=>by simp at hv,λi hi=>by omega⟩
 | succ len ih=>
  intro hle;obtain⟨l,h1,h2,h3,h4⟩:=ih (by omega);obtain⟨c,e,fz,_,_,_,hb⟩:=hm.blk id _ hg;obtain⟨row,g1,g2,g3,_⟩:=hb len (by omega);refine⟨l++row,by simp [h1,g2,adX],bT.2 λv hv=>?_,λj v hv=>?_,λi hi=>?_⟩;rcases aaF.1 hv with hv | hv;exact O8 h2 hv;exact O8 g3 hv;by_cases hj:j<l.length;rw [aau hj] at hv;exact h3 j v hv;rw [abV (by omega)] at hv;have hjr:=(J5.1 hv).1;have:=(Jt hm hg (i:=len) (by omega) (by omega:j-l.length<es) g1 hv).1
  rwa [show len*es+(j-l.length)=0+j from by omega] at this
  by_cases hil:i<len;obtain⟨row',q1,q2,q3⟩:=h4 i hil;refine⟨row',q1,q2,λj hj=>?_⟩;have:i*es+j<l.length:=by
   rw [h1]
   calc i*es+j<i*es+es:=by omega
    _=(i+1)*es:=by rw [adX]
    _<=len*es:=aaw _ hil
  rw [aau this];exact q3 j hj;obtain rfl:i=len:=by omega
  refine⟨row,g1,g2,λj hj=>?_⟩;rw [abV (by omega)];congr 1;omega
theorem UE (hm:RM P G ι m w.heap){id es k len:Nat}{rows:T (List j3)}(hg:m.get id=some (.cells es k rows))(hlen:len<=k)(hpos:0<len){l new:List j3}(hl:l.length=len*es)
  (hrows:∀i,i<len->∃row,rows.get i=some row∧row.length=es∧∀j,j<es->l[i*es+j]?=row[j]?) (hnl:new.length=es) (hlt:aS (m.nm ι) l) (hnew:aS (m.nm ι) new):
  Fits P ι m es (len+1) (l++new) (.cells es (len+1) (rows.put len new)):=by
 obtain⟨_,_,_,_,_,⟨_,N,hN,hok,_⟩,_⟩:=hm.blk id _ hg;refine⟨rfl,λι' n' h' l' c' e fz hle hext hc hcap hneed hat=>⟨c',e,fz,hc,hcap,⟨hneed,?_⟩,λi hi=>?_⟩⟩;rcases afs len N with h | h;exact⟨N,by omega,hok.put _ _ h,λty h1=>by omega⟩;obtain rfl:len=N:=by omega
 exact⟨len+1,J2 _,hok.push _,λty h1=>by omega⟩;by_cases hil:i=len;subst hil;refine⟨new,T.bI hok _ _ (by omega),hnl,dB hle _ hnew,λj hj=>?_⟩;have hv:new[j]?=some new[j]:=J7 (by omega);have:(l++new)[i*es+j]?=some new[j]:=by rw [abV (by omega),← hv];congr 1;omega
 rw [hat _ _ this,hv,ac2,Q0 (n:=m.nm ι) hext _ (O8 hnew (Y5 hv))];obtain⟨row,q1,q2,q3⟩:=hrows i (by omega);have hin:∀j,j<es->i*es+j<l.length:=λj hj=>by
  rw [hl]
  calc i*es+j<i*es+es:=by omega
   _=(i+1)*es:=by rw [adX]
   _<=len*es:=aaw _ (by omega)
 refine⟨row,by rw [T.bO hok _ _ _ (by omega) (λe=>hil e.symm)];exact q1,q2,bT.2 λv hv=>?_,λj hj=>?_⟩;obtain⟨j,hj⟩:=aaS hv;have hj':j<es:=afE (J5.1 hj).1 q2;rw [← q3 j hj'] at hj;exact j3.O6 hle _ (O8 hlt (Y5 hj));have hv:l[i*es+j]?=some (l[i*es+j]'(hin j hj)):=J7 (hin j hj);have h2:(l++new)[i*es+j]?=some (l[i*es+j]'(hin j hj)):=by rw [aau (hin j hj)];exact hv
 rw [hat _ _ h2,← q3 j hj,hv,ac2,Q0 (n:=m.nm ι) hext _ (O8 hlt (Y5 hv))]
end
section
variable {P:Program}{G:Mem}{ι:K4}{m:Mem}{w:World}{a:Act}
theorem GL (need:Nat):∀(r c:Nat),Builtin.growBy need r c<=max c (need+(need+768) / 4)
 | 0,c=>by simp only [Builtin.growBy];omega
 | r+1,c=>by simp only [Builtin.growBy];split;omega;have:=GL need r (c+(c+768) / 4);omega
theorem nextslicecap_le (need old:Nat)(h:old<need):Builtin.nextslicecap need old<=2*need+2048:=by unfold Builtin.nextslicecap;split;omega;split;omega;have:=GL need 4 old;omega
def Ea:TypeDesc->Bool
 | .int _=>true
 | _=>false
def ab8 (P:Program)(w:World)(zs:Bool)(by' n:Nat)(x:Value):Prop:=
 (zs=false∧(Builtin.lenOf x).run P w=.ok n w)∨(zs=true∧(∃k,x=.int k n)∧n<9223372036854775808∧n*by'<=281474976710656)
def jM (zs:Bool)(e:TypeId)(es sLen sCap:Nat)(base:Option Addr)(x:Value)(n:Nat):Sem Value:=do
 let appended:Sem (Array Value):=
  if !zs then Builtin.firstCells es n x
  else if n*es=0 then pure #[]
  else do pure (Builtin.zeroCells (← zeroValue e).cells n)
 let need:=sLen+n
 if need<=sCap then
  let new ← appended
  if let some a:=base then storeCells (a.add (sLen*es)) new.toList
  pure (.slice base need sCap)
 else
  if (need:Int)>IntKind.i64.max∧(zs∨(← typeInfo e).bytes=0) then runtimePanic (.error "growslice: len out of range")
  if Builtin.nextslicecap need sCap*(← typeInfo e).bytes>2^48 then (if zs then runtimePanic (.error "growslice: len out of range") else do
   if !(← Builtin.mayShare es sLen n base x) then mark .noRoom
   unsupported (.resourceLimit "append: a slice or a string whose bytes no memory bears"))
  let newCap ← choose (.appendCap need sCap e)
  askRoom (newCap*(← typeInfo e).bytes)
  let old ← Builtin.firstCells es sLen (.slice base sLen sCap)
  let new ← appended
  let rest:=Builtin.zeroCells (← zeroValue e).cells (newCap-need)
  pure (.slice (some (← newRow e (old++new++rest))) need newCap)
theorem Bl {t u e T:TypeId}{d:TypeDesc}{es by' n sLen sCap:Nat}{base:Option Addr}{x:Value}(hu:P.underlying t=some (.slice e))(hes:aK P e=some es)(hd:P.underlying u=some d)
  (hby:fE P e=some by') (hn:ab8 P w (Ea d) by' n x):
  (Builtin.append_ #[t,u] T #[.slice base sLen sCap,x]).run P w=(jM (Ea d) e es sLen sCap base x n).run P w:=by
 obtain⟨info,hi1,hi2⟩:=vM (w:=w) hby;rcases hn with⟨hz,h1⟩ | ⟨hz,⟨k,rfl⟩,h2,h3⟩;cases d with
 | int=>cases hz
 | _=>simp only [Builtin.append_,aed,aiW,ad4,Y1,run_underlying hu,J8,run_sizeOf hes,run_underlying hd,aat,J9,if_false,h1,jM,Ea];rfl
 cases d with
 | int k'=>
  have w1:IntKind.i64.wrap (n:Int)=n:=yF _ ⟨by omega,by omega⟩;have hbig:¬ ((n:Int)*(info.bytes:Int)>2^48):=by
   rw [hi2];have:((n*by':Nat):Int)=(n:Int)*(by':Int):=by simp
   rw [← this];have h48:(2:Int)^48=281474976710656:=rfl;rw [h48];omega
  have hneg:¬ ((n:Int)<0):=by omega
  simp only [Builtin.append_,aed,aiW,ad4,Y1,run_underlying hu,J8,run_sizeOf hes,run_underlying hd,aat,if_true,asInt,asIntOf,w1,hneg,if_false,hi1,hbig,aiI,jM,Ea];rfl
 | _=>cases hz
theorem jN {zs:Bool}{e:TypeId}{es sLen sCap n:Nat}{base:Option Addr}{x:Value}{new:List Value}{w':World}(hfit:sLen+n<=sCap)
  (hnew:(if (!zs)=true then Builtin.firstCells es n x else if n*es=0 then pure #[] else do pure (Builtin.zeroCells (← zeroValue e).cells n):Sem (Array Value)).run P w=.ok new.toArray w)
  (hst:match base with | some ad=>(storeCells (ad.add (sLen*es)) new 0).run P w=.ok () w' | none=>w'=w):
  (jM zs e es sLen sCap base x n).run P w=.ok (.slice base (sLen+n) sCap) w':=by
 unfold jM;simp only [hfit,if_true];rw [Y1,hnew,J8];cases base with
 | none=>subst hst;simp
 | some ad=>simp only [] at hst;simp [hst]
theorem jO {zs:Bool}{e:TypeId}{es by' sLen sCap n:Nat}{base:Option Addr}{x:Value}{z:List j3}{old new:List Value}(hby:fE P e=some by')(hz:qA P e=some z)
  (hnofit:¬ sLen+n<=sCap) (hbig:(2*(sLen+n)+2048)*by'<=281474976710656) (hby1:1<=by')
  (hold:∀w':World,w'.heap=w.heap->(Builtin.firstCells es sLen (.slice base sLen sCap)).run P w'=.ok old.toArray w')
  (hnew:∀w':World,w'.heap=w.heap->(if (!zs)=true then Builtin.firstCells es n x else if n*es=0 then pure #[] else do pure (Builtin.zeroCells (← zeroValue e).cells n):Sem (Array Value)).run P w'=.ok new.toArray w'):
  ∃(capN:Nat) (rest:List Value),sLen+n<=capN∧rest.length=(capN-(sLen+n))*z.length∧
   (jM zs e es sLen sCap base x n).run P w=.ok (.slice (some ⟨w.heap.size,0,none⟩) (sLen+n) capN)
    {w with heap:=w.heap.push (.cells (old++new++rest).toArray e),drawn:=w.drawn+1}:=by
 obtain⟨info,hi1,hi2⟩:=vM (w:=w) hby;have hle:(2*(sLen+n)+2048)*1<=(2*(sLen+n)+2048)*by':=Nat.mul_le_mul_left _ hby1;have hcapb:=nextslicecap_le (sLen+n) sCap (by omega);have hmul:Builtin.nextslicecap (sLen+n) sCap*by'<=(2*(sLen+n)+2048)*by':=aaw _ hcapb;have c1:¬ (((sLen+n:Nat):Int)>IntKind.i64.max):=by have:IntKind.i64.max=9223372036854775807:=rfl;rw [this];omega
 have c2:¬ (Builtin.nextslicecap (sLen+n) sCap*info.bytes>2^48):=by rw [hi2];have h48:(2:Nat)^48=281474976710656:=rfl;rw [h48];omega
 obtain⟨zv,hz1,hz2,_⟩:=cO (P:=P) (w:={w with drawn:=w.drawn+1}) hz (λ_=>⟨0,0,0,none⟩);refine⟨sLen+n+w.tape w.drawn (.appendCap (sLen+n) sCap e)%(2^63-(sLen+n)),(Builtin.zeroCells zv.cells (sLen+n+w.tape w.drawn (.appendCap (sLen+n) sCap e)%(2^63-(sLen+n))-(sLen+n))).toList,by omega,?_,?_⟩;simp [Builtin.zeroCells,hz2];unfold jM;simp only [hnofit,if_false];have hi1':∀w',(typeInfo e).run P w'=.ok info w':=by
  intro w';obtain⟨i2,h1,_⟩:=vM (w:=w') hby;have h3:∀w₁ w₂:World,∀a b,(typeInfo e).run P w₁=.ok a w₁->(typeInfo e).run P w₂=.ok b w₂->a=b:=by intro w₁ w₂ a b ha hb;unfold typeInfo at ha hb;simp only [Y1,run_program,J8] at ha hb;split at ha<;>split at hb<;>simp_all
  rw [h1,h3 w' w _ _ h1 hi1]
 have hch:∀w':World,(choose (.appendCap (sLen+n) sCap e)).run P w'=.ok (sLen+n+w'.tape w'.drawn (.appendCap (sLen+n) sCap e)%(2^63-(sLen+n))) {w' with drawn:=w'.drawn+1}:=by intro w';rw [run_choose];simp [Question.forced,Question.cut]
 simp only [Y1,hi1',J8,c1,c2,false_and,if_false,aat,hch,run_askRoom,hold {w with drawn:=w.drawn+1} rfl,hnew {w with drawn:=w.drawn+1} rfl,hz1,dM];simp only [aej,← List.append_toArray,aaV]
theorem Eb (hm:RM P G ι m w.heap){es need capN:Nat}{cells:List j3}{b':O9}(hF:Fits P ι m es need cells b'){c:Array Value}{e:TypeId}{w':World}
  (hw:Uu w w' (.cells c e)) (hsz:c.size=capN*es) (hcap:need<=capN) (hat:∀(j:Nat) (v:j3),cells[j]?=some v->c[j]?=some (o8 ι v)):
  Step P G ι m w (ι.upd m.nx ⟨w.heap.size,0,capN*es,none⟩) (m.new b') w':=by
 obtain⟨hv,hF⟩:=hF;have hlaid:=Laid.new hm.ok hm.limn b' hv;have hext:∀j,m.has j->(ι.upd m.nx ⟨w.heap.size,0,capN*es,none⟩) j=ι j:=λj hj=>ι.upd_ne _ λh=>hlaid.free (h▸hj);refine Step.lay hm hlaid hw rfl rfl ?_ ?_;refine hF _ _ _ _ c e _ (Mem.ah hlaid.has hext) hext dh ?_ ?_ λj v hj=>?_;show 0+capN*es<=c.size;omega;exact aaw _ hcap;rw [aav];exact hat j v hj;intro c' e' fz h k hk;cases h;simp
theorem Fits.kill (hm:RM P G ι m w.heap){es need q:Nat}{cells:List j3}{b' bq:O9}(hF:Fits P ι m es need cells b')(hq:m.lim<=q)(hg:m.get q=some bq):Fits P ι (m.set q .dead) es need cells b':=by have hk:=Step.kill hm hq hg;refine⟨hF.1,λι' n' h' l' c' e fz hle hext=>hF.2 ι' n' h' l' c' e fz (Nm.le_trans (Mem.ah hk.has λ_ _=>rfl) hle) λi hi=>hext i (hk.has i hi)⟩
theorem RB (hm:RM P G ι m w.heap){es need capN q:Nat}{cells:List j3}{b' bq:O9}(hF:Fits P ι m es need cells b')(hq:m.lim<=q)(hg:m.get q=some bq){c:Array Value}{e:TypeId}{w':World}
  (hw:Uu w w' (.cells c e)) (hsz:c.size=capN*es) (hcap:need<=capN) (hat:∀(j:Nat) (v:j3),cells[j]?=some v->c[j]?=some (o8 ι v)):
  Step P G ι m w (ι.upd m.nx ⟨w.heap.size,0,capN*es,none⟩) ((m.set q .dead).new b') w':=
 (Step.kill hm hq hg).trans (Eb (Step.kill hm hq hg).rm (Fits.kill hm hF hq hg) hw hsz hcap hat)
theorem XE (hm:RM P G ι m w.heap){q rs k:Nat}{rows:T (List j3)}(hq:m.lim<=q)(hg:m.get q=some (.cells rs k rows)){c:Array Value}{e:TypeId}{fz:Nat×Nat}(hc:w.heap[(ι q).b]?=some (.cells c e fz))
  {B C len n es:Nat} {old new:List j3} {b':O9} (hBC:B+C<=c.size) (hfit:(len+n)*es<=C) (hol:old.length=len*es) (hnl:new.length=n*es) (hone:O0 new=true)
  (hold:∀(j:Nat) (v:j3),old[j]?=some v->c[B+j]?=some (o8 ι v)) (hF:Fits P ι m es (len+n) (old++new) b'):
  ∃w',(storeCells ⟨(ι q).b,B+len*es,none⟩ (y7 ι new) 0).run P w=.ok () w'∧
   Step P G ι m w (ι.upd m.nx ⟨(ι q).b,B,C,none⟩) ((m.set q .dead).new b') w':=by
 have hown:=hm.own q _ hq hg rfl;have hfz:=hown.free c e fz hc;have hsum:(len+n)*es=len*es+n*es:=ae3 _ _ _;have hrun:=nV (P:=P) (y7 ι new) c (B+len*es) 0 w hc (by simp;omega) hfz (λv hv=>by
  rw [bf] at hv;obtain⟨u,hu,rfl⟩:=aeg.1 hv;exact Af (pJ hone u hu))
 refine⟨_,hrun,?_⟩;obtain⟨hv,hF⟩:=hF;have hk:=Step.kill hm hq hg;have hlaid:=Laid.new hk.rm.ok hk.rm.limn b' hv;have hext:∀j,m.has j->(ι.upd m.nx ⟨(ι q).b,B,C,none⟩) j=ι j:=λj ⟨y,hy,_⟩=>ι.upd_ne _ λh=>by have:=Mem.I8 hm.ok hy;omega
 refine Step.aa3 (o:=.cells (over c (B+len*es+0) (y7 ι new)) e fz) (w':={w with heap:=w.heap.setIfInBounds (ι q).b (.cells (over c (B+len*es+0) (y7 ι new)) e fz)}) hm hq hg rfl hv ⟨rfl,rfl,rfl,rfl⟩ rfl rfl ?_ ?_;refine hF _ _ _ _ _ e fz (Mem.ah (λi hi=>hlaid.has i (hk.has i hi)) hext) hext (gu hc) ?_ hfit λj v hj=>?_;simpa using hBC;show (over c (B+len*es+0) (y7 ι new))[B+j]?=some (o8 ι v);rw [yQ _ _ _ (by simp;omega)];by_cases h1:j<old.length;rw [aau h1] at hj;rw [if_pos (by omega)];exact hold j v hj;rw [abV (by omega)] at hj;have h2:=(J5.1 hj).1;rw [if_neg (by omega),if_pos (by simp;omega),aJ,show B+j-(B+len*es+0)=j-old.length from by omega,hj];rfl;intro c' e' fz' h k' hk';cases h;exact hfz k' (by simpa using hk')
theorem nE {w':World}{l:Loc}{m':Mem}(hls:l.spot=none)(hst:Step P G ι m w (ι.upd m.nx l) m' w')(hh:m'.has m.nx){es need:Nat}(hes:1<=es)(hneed:need*es<=l.cap){cap:Nat}(hcap:cap=l.cap / es):
  aQ P G ι m w [⟨.sliceU m.nx 0 need es,m'⟩] (.slice (some ⟨l.b,l.base,none⟩) need cap) w':=by
 refine⟨_,J3.2 rfl,_,hst,⟨hh,hes,?_⟩,?_⟩;show 0+need*es<=((ι.upd m.nx l) m.nx).cap;rw [K4.Q8];omega;simp [o8,K4.at,hcap,hls]
theorem Jz (h:T.Ok m.t m.nx){b:O9}(hb:bQ b=false):(m.new b).has m.nx:=⟨b,by rw [Mem.N7 h,if_pos rfl],hb⟩
theorem uK {n bytes es:Nat}(h:big n bytes es=true):(2*n+2048)*bytes<=281474976710656∧1<=es∧1<=bytes:=by
 unfold big at h;cases h1:Nat.ble (Nat.mul (Nat.add (Nat.mul 2 n) 2048) bytes) 281474976710656 with
 | false=>rw [h1] at h;cases h
 | true=>
  rw [h1] at h;cases h2:Nat.ble 1 es with
  | false=>rw [h2] at h;cases h
  | true=>rw [h2] at h;exact⟨Y2 h1,Y2 h2,Y2 h⟩
theorem UF {β:Type}{b:Option O9}{c:Nat->Nat->T (List j3)->Option β}{k:Nat->Option β}{r:β}(h:La b c k=some r):
  (∃rs n rows,b=some (.cells rs n rows)∧c rs n rows=some r)∨∃p,b=some (.tail p)∧k p=some r:=by
 unfold La at h;split at h;exact .inl ⟨_,_,_,rfl,h⟩;exact .inr ⟨_,rfl,h⟩;cases h
theorem yU {es n:Nat}{cells:List j3}{outs:List VM}(h:grown m es n cells=some outs):∃rl,rowsOf es n cells=some rl∧outs=[⟨.sliceU m.nx 0 n es,m.new (.cells es n (T.ofList rl))⟩]:=by obtain⟨rl,h1,h⟩:=C8 h;cases h;exact⟨rl,h1,rfl⟩
theorem LU {α:Type}{b:Bool}{x y:Option α}{r:α}(h:bi b x y=some r):(b=true∧x=some r)∨(b=false∧y=some r):=by
 cases b with
 | true=>exact .inl ⟨rfl,h⟩
 | false=>exact .inr ⟨rfl,h⟩
theorem GN {a b:Nat}(h:Nat.ble a b=false):¬ a<=b:=λhh=>by rw [Z5 hh] at h;cases h
end
section
variable {P:Program}{G:Mem}{ι:K4}{m:Mem}{w:World}{slots:List Nat}{done:List (Option Nat)}{ls:List j3}{env:T j3}{a:Act}
theorem Qi (hm:RM P G ι m w.heap){id rs k:Nat}{rows:T (List j3)}(hg:m.get id=some (.cells rs k rows)):∃c e fz,w.heap[(ι id).b]?=some (.cells c e fz)∧(ι id).base+(ι id).cap<=c.size∧
  ∀j v,w.cell? (ι.at id j)=some v->c[(ι id).base+j]?=some v:=by
 obtain⟨c,e,fz,h1,h2,_⟩:=hm.blk id _ hg;refine⟨c,e,fz,h1,h2,λj v hv=>?_⟩;simpa [World.cell?,K4.at,h1,hm.spot id _ hg rfl] using hv
theorem LV (hm:RM P G ι m w.heap){e:TypeId}{es by' n:Nat}{z:List j3}(hz:BS P e=some z)(hes:aK P e=some es)(hby:fE P e=some by')
  {zs:Bool} {x:Value} {new:List j3} (hltn:aS (m.nm ι) new) (hn0:n=0->new=[])
  (hnew:∀w':World,w'.heap=w.heap->(if (!zs)=true then Builtin.firstCells es n x else if n*es=0 then pure #[] else do pure (Builtin.zeroCells (← zeroValue e).cells n):Sem (Array Value)).run P w'=.ok (y7 ι new).toArray w')
  {sv:j3} (hsv:sv.lt (m.nm ι)) {outs:List VM} (h:Gt m es by' n new sv=some outs):
  ∃base sLen sCap v w',o8 ι sv=.slice base sLen sCap∧(jM zs e es sLen sCap base x n).run P w=.ok v w'∧aQ P G ι m w outs v w':=by
 obtain⟨hz',hsz⟩:=nD hz;obtain rfl:es=z.length:=by rw [hes] at hsz;exact Y7 hsz
 rcases rA h with⟨rfl,h⟩ | ⟨id,off,len,cap,rfl,h⟩ | ⟨id,off,len,es',rfl,h⟩
 ·
  refine⟨none,0,0,?_⟩;cases n with
  | zero=>have h:one .nilSlice m=some outs:=h;cases h;obtain rfl:=hn0 rfl;exact⟨.slice none 0 0,w,rfl,jN (J2 0) (hnew w rfl) rfl,_,J3.2 rfl,ι,Step.refl hm,trivial,rfl⟩
  | succ n=>
   have h:bi (big (n+1) by' z.length) (grown m z.length (n+1) new) none=some outs:=h;obtain⟨hb,h⟩:=D7 h;obtain⟨b1,b2,b3⟩:=uK hb;obtain⟨rl,hr,rfl⟩:=yU h;obtain⟨capN,rest,r1,r2,r3⟩:=jO (P:=P) (w:=w) (zs:=zs) (e:=e) (es:=z.length) (sLen:=0) (sCap:=0) (base:=none) (x:=x) (n:=n+1) (old:=[]) hby hz' (by omega) (by simpa using b1) b3
    (λw' _=>by simp [Builtin.firstCells]) hnew
   have hlen:=(gW _ _ _ _ hr).1;have hst:=Eb hm (vP hr hltn) (c:=([]++y7 ι new++rest).toArray) (e:=e) (w':={w with heap:=w.heap.push (.cells ([]++y7 ι new++rest).toArray e),drawn:=w.drawn+1}) ⟨rfl,rfl,rfl,rfl⟩ (capN:=capN)
    (by simp only [afr,ac5,List.length_nil,V6,hlen,r2,aav];rw [← ae3];congr 1;omega) (by omega)
    (λj v hj=>by
     have hj':=(J5.1 hj).1;simp only [aec,aed];rw [aau (by simpa using hj'),aJ,hj];rfl)
   refine⟨_,_,rfl,r3,?_⟩;have:=nE rfl hst (Jz hm.ok rfl) b2 (need:=n+1) (aaw _ (by omega)) (cap:=capN) (by show capN=capN*z.length / z.length;rw [agw _ b2]);simpa using this
 ·
  refine⟨some (ι.at id off),len,cap,?_⟩;have h:bi (Nat.ble (len+n) cap) (jq m id (off+len*z.length) new λm'=>one (.slice id off (len+n) cap) m')
   (bi (big (len+n) by' z.length) (ob (X0 m id off (len*z.length)) λold=>grown m z.length (len+n) (aX old new)) none)=some outs:=h
  rcases LU h with⟨hf,h⟩ | ⟨hf,h⟩;obtain⟨m',w',hk,hrun,hst⟩:=mq hm h hltn;cases hk;exact⟨_,w',rfl,jN (Y2 hf) (hnew w rfl) (by simp only [K4.nP];exact hrun),_,J3.2 rfl,ι,hst,hst.has id hsv,by simp [o8]⟩;obtain⟨hb,h⟩:=D7 h;obtain⟨b1,b2,b3⟩:=uK hb;obtain⟨old,ho,h⟩:=C8 h;rw [V5] at h;obtain⟨rl,hr,rfl⟩:=yU h;obtain⟨o1,o2,o3⟩:=jK hm ho;obtain⟨capN,rest,r1,r2,r3⟩:=jO (P:=P) (w:=w) (zs:=zs) (e:=e) (es:=z.length) (sLen:=len) (sCap:=cap) (base:=some (ι.at id off)) (x:=x) (n:=n) (old:=y7 ι old) hby hz' (GN hf) b1 b3
   (λw' hw=>gV o1 (λj v hj=>by have:=o3 j v hj;simpa [World.cell?,hw] using this)) hnew
  have hlt:aS (m.nm ι) (old++new):=bT.2 λv hv=>(aaF.1 hv).elim (O8 o2) (O8 hltn);have hlen:=(gW _ _ _ _ hr).1;have hst:=Eb hm (vP hr hlt) (c:=(y7 ι old++y7 ι new++rest).toArray) (e:=e) (w':={w with heap:=w.heap.push (.cells (y7 ι old++y7 ι new++rest).toArray e),drawn:=w.drawn+1}) ⟨rfl,rfl,rfl,rfl⟩ (capN:=capN)
   (by
    rw [ac5] at hlen;simp only [afr,ac5,V6,hlen,r2];rw [← ae3];congr 1;omega) (by omega)
   (λj v hj=>by
    have hj':=(J5.1 hj).1;rw [ac5] at hj';rw [aed,aau (by simpa using hj'),bf,bf,← ae1,abY,hj];rfl)
  refine⟨_,_,rfl,r3,?_⟩;exact nE rfl hst (Jz hm.ok rfl) b2 (need:=len+n) (aaw _ (by omega)) (cap:=capN) (by show capN=capN*z.length / z.length;rw [agw _ b2])
 ·
  obtain⟨hs1,hs2,hs3⟩:=hsv;have hs3:off+len*es'<=(ι id).cap:=hs3;have hlecap:len<=((ι id).cap-off) / es':=(ae8 hs2).2 (by omega);refine⟨some (ι.at id off),len,((ι id).cap-off) / es',?_⟩;cases n with
  | zero=>have h:one (.sliceU id off len es') m=some outs:=h;cases h;obtain rfl:=hn0 rfl;refine⟨_,w,rfl,jN (w':=w) hlecap (hnew w rfl) (by simp [y7,storeCells]),_,J3.2 rfl,ι,Step.refl hm,⟨hs1,hs2,hs3⟩,by simp [o8]⟩
  | succ n=>
   have h:bi (Nat.beq z.length es') (bi (big (len+(n+1)) by' z.length) (bi (Nat.ble m.lim id) (bi (O0 new)
    (La (m.get id)
     (λrs k rows=>
      bi (bi (Nat.beq rs z.length) (bi (Nat.beq off 0) (bi (Nat.ble len k) (bi (Nat.beq (n+1) 1) (bi (Nat.beq (len' new) z.length) (Nat.blt 0 len) false) false) false) false) false)
       (one (.sliceU m.nx 0 (Nat.succ len) z.length) ((m.set id .dead).new (.cells z.length (Nat.succ len) (rows.put len new))))
       (ob (U4 rs k rows (len*z.length) off) λold=>grown (m.set id .dead) z.length (len+(n+1)) (aX old new)))
     (λp=>Q9 (m.get p) λ_ _ _=>bi (Nat.ble m.lim p) (bi (Nat.beq len 0) (grown (m.set p .dead) z.length (n+1) new) none) none)) none) none) none) none=some outs:=h
   obtain⟨q1,k1⟩:=D7 h;clear h;obtain rfl:=J4 q1;obtain⟨q2,k2⟩:=D7 k1;obtain⟨b1,b2,b3⟩:=uK q2;obtain⟨q3,k3⟩:=D7 k2;have hlim:m.lim<=id:=Y2 q3;obtain⟨hone,h⟩:=D7 k3;clear k1 k2 k3;have core:∀(q rs k:Nat) (rows:T (List j3)),m.lim<=q->m.get q=some (.cells rs k rows)->∀(B C:Nat) (old:List j3) (b':O9),C=(ι id).cap-off->
     ((ι id).b=(ι q).b∨C=0)->B=(ι id).base+off->(C≠0->B+C<=(ι q).base+(ι q).cap)->(C≠0->(ι id).spot=none)->old.length=len*z.length->new.length=(n+1)*z.length->aS (m.nm ι) old->nT ι w id off old->
     Fits P ι m z.length (len+(n+1)) (old++new) b'->outs=[⟨.sliceU m.nx 0 (len+(n+1)) z.length,(m.set q .dead).new b'⟩]->
     ∃v w',o8 ι (.sliceU id off len z.length)=.slice (some (ι.at id off)) len (((ι id).cap-off) / z.length)∧
      (jM zs e z.length len (((ι id).cap-off) / z.length) (some (ι.at id off)) x (n+1)).run P w=.ok v w'∧aQ P G ι m w outs v w':=by
    intro q rs k rows hq hg B C old b' hC hb hB hBC hspC hol hnl holt hoc hF hout;subst hout;have hokk:=(Step.kill hm hq hg).rm;have hhas:((m.set q .dead).new b').has m.nx:=Jz (m:=m.set q .dead) hokk.ok hF.1;by_cases hfit:len+(n+1)<=((ι id).cap-off) / z.length;have hfit':(len+(n+1))*z.length<=C:=(by rw [hC];exact (ae8 b2).1 hfit);have hC0:C≠0:=by have:1*1<=(len+(n+1))*z.length:=Nat.mul_le_mul (by omega) b2;omega
    have hb:=hb.resolve_right hC0;have hspid:=hspC hC0;obtain⟨c,e₀,fz,c1,c2,c3⟩:=Qi hm hg;obtain⟨w',g1,g2⟩:=XE hm hq hg c1 (B:=B) (C:=C) (len:=len) (n:=n+1) (es:=z.length) (old:=old) (new:=new) (b':=b') (by have:=hBC hC0;omega) hfit' hol hnl hone
     (λj v hj=>by
      have:=hoc j v hj;simp only [World.cell?,K4.at,hb,c1,hspid] at this;rw [hB,afv];simpa using this) hF
    refine⟨_,w',by simp [o8],jN hfit (hnew w rfl) (by
     have:(ι.at id off).add (len*z.length)=⟨(ι q).b,B+len*z.length,none⟩:=(by simp [K4.at,Addr.add,hb,hB,hspid]);simp only [this];exact g1),?_⟩
    have:=nE rfl g2 hhas b2 (need:=len+(n+1)) hfit' (cap:=((ι id).cap-off) / z.length) (by show _=C / z.length;rw [hC]);have hbase:ι.at id off=⟨(ι q).b,B,none⟩:=(by simp [K4.at,hb,hB,hspid]);rw [hbase];exact this;obtain⟨capN,rest,r1,r2,r3⟩:=jO (P:=P) (w:=w) (zs:=zs) (e:=e) (es:=z.length) (sLen:=len) (sCap:=((ι id).cap-off) / z.length) (base:=some (ι.at id off)) (x:=x) (n:=n+1) (old:=y7 ι old) hby hz' hfit b1 b3
     (λw' hw=>gV hol (λj v hj=>by have:=hoc j v hj;simpa [World.cell?,hw] using this)) hnew
    have hst:=RB hm hF hq hg (c:=(y7 ι old++y7 ι new++rest).toArray) (e:=e) (w':={w with heap:=w.heap.push (.cells (y7 ι old++y7 ι new++rest).toArray e),drawn:=w.drawn+1}) ⟨rfl,rfl,rfl,rfl⟩ (capN:=capN)
     (by
      simp only [afr,ac5,V6,hol,hnl,r2];rw [← ae3,← ae3];congr 1;omega) (by omega)
     (λj v hj=>by
      have hj':=(J5.1 hj).1;rw [ac5] at hj';rw [aed,aau (by simpa using hj'),bf,bf,← ae1,abY,hj];rfl)
    refine⟨_,_,by simp [o8],r3,?_⟩;exact nE rfl hst hhas b2 (need:=len+(n+1)) (aaw _ (by omega)) (cap:=capN) (by show capN=capN*z.length / z.length;rw [agw _ b2])
   rcases UF h with⟨rs,k,rows,hg,h⟩ | ⟨p,hg,h⟩
   ·obtain⟨cc,e₀,fz₀,c1,c2,c3⟩:=Qi hm hg;rcases LU h with⟨hf,h9⟩ | ⟨_,h⟩
    ·
     clear h;have hf1:rs=z.length∧off=0∧len<=k∧n=0∧new.length=z.length∧0<len:=by
      cases p1:Nat.beq rs z.length<;>rw [p1] at hf<;>simp only [P7,S9] at hf<;>try (cases hf;done)
      cases p2:Nat.beq off 0<;>rw [p2] at hf<;>simp only [P7,S9] at hf<;>try (cases hf;done)
      cases p3:Nat.ble len k<;>rw [p3] at hf<;>simp only [P7,S9] at hf<;>try (cases hf;done)
      cases p4:Nat.beq (n+1) 1<;>rw [p4] at hf<;>simp only [P7,S9] at hf<;>try (cases hf;done)
      cases p5:Nat.beq (len' new) z.length<;>rw [p5] at hf<;>simp only [P7,S9] at hf<;>try (cases hf;done)
      have p4:=J4 p4;have p5:=J4 p5;rw [I9] at p5;exact⟨J4 p1,J4 p2,Y2 p3,by omega,p5,Eq.mp Y8 hf⟩
     obtain⟨rfl,rfl,hk,rfl,hnl,hlp⟩:=hf1;cases h9;obtain⟨l,l1,l2,l3,l4⟩:=RA hm hg len hk;exact core id z.length k rows hlim hg _ _ l _ rfl (.inl rfl) rfl (λ_=>by omega) (λ_=>hm.spot id _ hg rfl) l1 (by omega) l2 l3 (UE hm hg hk hlp l1 l4 hnl l2 hltn) rfl
    obtain⟨old,ho,h⟩:=C8 h;rw [V5] at h;obtain⟨rl,hr,hout⟩:=yU h;obtain⟨o1,o2,o3⟩:=uD hm hg _ _ _ ho;have hlt:aS (m.nm ι) (old++new):=bT.2 λv hv=>(aaF.1 hv).elim (O8 o2) (O8 hltn);have hlen:=(gW _ _ _ _ hr).1;rw [ac5,o1,ae3] at hlen;exact core id rs k rows hlim hg _ _ old _ rfl (.inl rfl) rfl (λ_=>by omega) (λ_=>hm.spot id _ hg rfl) o1 (by omega) o2 o3 (vP hr hlt) hout
   obtain⟨rs,k,rows,hgp,h⟩:=cZ h;obtain⟨q4,h⟩:=D7 h;have hlimp:=Y2 q4;obtain⟨q5,h⟩:=D7 h;obtain rfl:=J4 q5;obtain⟨rl,hr,hout⟩:=yU h;obtain⟨t1,t2⟩:=hm.blk id _ hg;have hlen:=(gW _ _ _ _ hr).1;refine core p rs k rows hlimp hgp _ _ [] (.cells z.length (n+1) (T.ofList rl)) rfl ?_ rfl ?_ ?_ (by simp) hlen trivial (λj v hj=>by simp at hj) ?_ ?_;rcases t2 with t2 | t2;exact .inr (by omega);exact .inl t2.1;intro hne;rcases t2 with t2 | t2;omega;omega;intro hne;rcases t2 with t2 | t2;omega;exact t2.2.2 (hm.spot p _ hgp rfl);rw [aec,aav];exact vP hr hltn;rw [hout,aav];rfl
def aji (d:TypeDesc):Bool:=match d with | .int _=>true | _=>false
theorem XF (d:TypeDesc):aji d=Ea d:=by cases d<;>rfl
theorem GQ (s:St P ι (m.nm ι) slots done ls env a.tmps)(hm:RM P G ι m w.heap){c:Call}{t u e:TypeId}{d:TypeDesc}{x y:Operand}{x' y':P6}{es by':Nat}{z:List j3}(hc:c.callee=.builtin .append)
  (hts:c.argTypes.toList=[t,u]) (has:c.args.toList=[x,y]) (hu:P.underlying t=some (.slice e)) (hd:P.underlying u=some d) (hes:aK P e=some es) (hz:BS P e=some z) (hby:fE P e=some by')
  (hx:N9 P slots done x=some x') (hy:N9 P slots done y=some y') {cf:F4} {outs:List VM} (hv:nu (.app es (Ea d) z by' x' y') cf ls env m=some outs):
  ∀o:Oper,o.op=.call c->Does P a.eval o w (aQ P G ι m w outs):=by
 intro o ho;have hts:c.argTypes=#[t,u]:=by rw [← hts,aaV]
 have has:c.args=#[x,y]:=by rw [← has,aaV]
 obtain⟨e1,g1⟩:=A8 s hx;obtain⟨e2,g2⟩:=A8 s hy;obtain⟨hz',hsz⟩:=nD hz;have hesz:es=z.length:=by rw [hes] at hsz;exact Y7 hsz
 have fin:∀(n:Nat) (new:List j3),ab8 P w (Ea d) by' n (o8 ι (F9 y' ls env))->aS (m.nm ι) new->(n=0->new=[])->
   (∀w':World,w'.heap=w.heap->(if (!Ea d)=true then Builtin.firstCells es n (o8 ι (F9 y' ls env)) else if n*es=0 then pure #[] else do pure (Builtin.zeroCells (← zeroValue e).cells n):Sem (Array Value)).run P w'=.ok (y7 ι new).toArray w')->
   Gt m es by' n new (F9 x' ls env)=some outs->Does P a.eval o w (aQ P G ι m w outs):=by
  intro n new hn hlt hn0 hnew h;obtain⟨base,sLen,sCap,v,w',q1,q2,q3⟩:=LV hm hz hes hby hlt hn0 hnew g1 h;refine O7 (v:=v) (w':=w') ?_ q3;rw [← Bl (T:=o.type) hu hes hd hby hn] at q2;simp [execOp,ho,resolve,hc,has,hts,invoke,builtin,e1,e2,q1,q2]
 cases hi:Ea d with
 | true=>rw [hi] at hv;obtain⟨k,n,h1,hv⟩:=eZ hv;obtain⟨h2,hv⟩:=D7 hv;obtain⟨h3,hv⟩:=D7 hv;have h2:n*by'<=281474976710656:=Y2 h2;have h3:n<9223372036854775808:=Eq.mp Y8 h3;have h1:F9 y' ls env=.int k n:=h1;refine fin n (U0 z n) (.inr ⟨hi,⟨k,by rw [h1];rfl⟩,h3,h2⟩) (by obtain⟨_,_,_,hz3⟩:=cO (P:=P) (w:=w) hz' ι;exact rO (hz3 _) n) (λh0=>by rw [h0];rfl) (λw' _=>?_) hv;obtain⟨zv,hz1,hz2,hz3⟩:=cO (P:=P) (w:=w') hz' ι;simp only [hi,ail,J9,if_false];split;rename_i h0;have:U0 z n=[]:=abZ.1 (by rw [eD,← hesz];exact h0);simp [this,y7];simp [hz1,hz2,yT]
 | false=>
  rw [hi] at hv;obtain⟨n,h1,hv⟩:=C8 hv;obtain⟨new,h2,hv⟩:=C8 hv;refine fin n new (.inl ⟨hi,uJ h1 w⟩) (iM hm h2).2 (λh0=>?_) (λw' hw=>?_) hv;subst h0;have h0:∀i off,X0 m i off 0=some []:=λi off=>rfl;generalize F9 y' ls env=v at h2;cases v<;>simp only [iW,reduceCtorEq] at h2<;>simp_all [bytesOf]
  simp only [hi,ajb,if_true];exact (iM (w:=w') (by rw [hw];exact hm) h2).1
end
section
variable {P:Program}{G:Mem}{ι:K4}{m:Mem}{w:World}{slots:List Nat}{done:List (Option Nat)}{ls:List j3}{env:T j3}{a:Act}
theorem JA (s:St P ι (m.nm ι) slots done ls env a.tmps)(hm:RM P G ι m w.heap){t:TypeId}(hu:P.underlying t=some .string)
  {x:Operand} {x':P6} (hx:N9 P slots done x=some x') {cf:F4} {outs:List VM} (hv:nu (.rangeS x') cf ls env m=some outs):
  ∀o:Oper,o.op=.range t x->Does P a.eval o w (aQ P G ι m w outs):=by
 intro o ho;obtain⟨e1,_⟩:=A8 s hx;obtain⟨str,h1,h⟩:=iq hv;cases h;have h1:F9 x' ls env=.str str:=h1;have hl:=Laid.new hm.ok hm.limn (.siter str 0) rfl;refine O7 (v:=.pointer (some ⟨w.heap.size,0,none⟩)) (w':={w with heap:=w.heap.push (.stringIter ⟨str.toArray⟩ 0)}) ?_
  ⟨_,J3.2 rfl,ι.upd m.nx ⟨w.heap.size,0,0,none⟩,Step.lay (w':={w with heap:=w.heap.push (.stringIter ⟨str.toArray⟩ 0)}) hm hl (o:=.stringIter ⟨str.toArray⟩ 0) (l:=⟨w.heap.size,0,0,none⟩) ⟨rfl,rfl,rfl,rfl⟩ rfl rfl ⟨rfl,dh⟩ (by intro _ _ _ h;cases h),hl.self,by simp [o8,K4.at]⟩
 simp [execOp,ho,Instr.range,run_underlying hu,e1,h1,o8,run_newObj]
theorem RG {β:Type}{b:Option O9}{k:List UInt8->Nat->Option β}{r:β}(h:Je b k=some r):∃s p,b=some (.siter s p)∧k s p=some r:=by
 match b,h with
 | some (.siter s p),h=>exact⟨s,p,rfl,h⟩
theorem LW (s:St P ι (m.nm ι) slots done ls env a.tmps)(hm:RM P G ι m w.heap)
  {x:Operand} {x':P6} (hx:N9 P slots done x=some x') {cf:F4} {outs:List VM} (hv:nu (.nextS x') cf ls env m=some outs):
  ∀o:Oper,o.op=.next x true->Does P a.eval o w (aQ P G ι m w outs):=by
 intro o ho;obtain⟨e1,_⟩:=A8 s hx;obtain⟨id,off,h1,h⟩:=dV hv;have h1:F9 x' ls env=.ptr id off:=h1;obtain⟨h0,h⟩:=D7 h;obtain rfl:off=0:=J4 h0;obtain⟨h2,h⟩:=jI h;have hid:=jA h2;obtain⟨str,p,hg,h⟩:=RG h;obtain⟨b0,b1⟩:=hm.blk id _ hg;have hsp:=hm.spot id _ hg rfl;have hgi:=fq (P:=P) b1 (by intro _ _ _ e;cases e);have hput:=λo=>rQ (P:=P) (o:=o) b1 (by intro _ _ _ e;cases e);have hsz:ByteArray.size ⟨str.toArray⟩=str.length:=nQ str;have had:a.eval x=.pointer (some ⟨(ι id).b,0,none⟩):=by rw [e1,h1];simp [o8,K4.at,b0,hsp]
 rw [I9] at h;cases hlt:Nat.blt p str.length with
 | false=>
  rw [hlt] at h;cases h;have hlt:¬ p<str.length:=by have:=jA hlt;omega
  refine O7 (v:=.tuple #[.bool false]) (w':=w) ?_ ⟨_,J3.2 rfl,ι,Step.refl hm,by simp [j3.lt,aS],by simp [o8,y7]⟩;simp [execOp,ho,had,Instr.next,hgi,hsz,hlt]
 | true=>
  rw [hlt] at h;cases h;have hlt:p<str.length:=Eq.mp Y8 hlt;refine O7 (v:=.tuple #[.bool true,.int .i64 p,.int .i32 (Utf8.decode ⟨str.toArray⟩ p).1]) (w':={w with heap:=w.heap.setIfInBounds (ι id).b (.stringIter ⟨str.toArray⟩ (p+(Utf8.decode ⟨str.toArray⟩ p).2))}) ?_
   ⟨_,J3.2 rfl,ι,Step.set hm hid hg rfl rfl (o:=.stringIter ⟨str.toArray⟩ (p+(Utf8.decode ⟨str.toArray⟩ p).2)) ⟨rfl,rfl,rfl,rfl⟩ ⟨b0,gu b1⟩ (by intro _ _ _ h;cases h),by simp [j3.lt,aS],by simp [o8,y7]⟩
  simp [execOp,ho,had,Instr.next,hgi,hsz,hlt,hput,goInt]
theorem Ec {e:TypeId}(h:Bb P e=true):P.underlying e=some (.int .u8)∧aK P e=some 1∧fE P e=some 1∧∃z,BS P e=some z∧z.length=1:=by unfold Bb at h;simp only [U9,beq_iff_eq] at h;obtain⟨⟨⟨h1,h2⟩,h3⟩,h4⟩:=h;obtain⟨z,hz⟩:=aiV.1 h4;refine⟨?_,h2,h3,z,hz,?_⟩;split at h1;assumption;cases h1;have:=(nD hz).2;rw [h2] at this;exact (Y7 this).symm
theorem RH (t:List UInt8):O0 (bytesOf t)=true:=by
 induction t with
 | nil=>rfl
 | cons b t ih=>show bi true (O0 (bytesOf t)) false=true;rw [ih];rfl
theorem Ai (ι:K4)(t:List UInt8)(j:Nat):(y7 ι (bytesOf t))[j]?=(t[j]?).map λb=>Value.int .u8 (b.toNat:Int):=by rw [aJ,nW,abY];cases t[j]? <;> simp [o8]
theorem iw (t:List UInt8):(bytesOf t).length=t.length:=by rw [nW,ac1]
theorem OD (s:St P ι (m.nm ι) slots done ls env a.tmps)(hm:RM P G ι m w.heap){c:Call}{t u e:TypeId}{x y:Operand}{x' y':P6}(hc:c.callee=.builtin .append)
  (hts:c.argTypes.toList=[t,u]) (has:c.args.toList=[x,y]) (hu:P.underlying t=some (.slice e)) (hd:P.underlying u=some .string) (hbt:Bb P e=true)
  (hx:N9 P slots done x=some x') (hy:N9 P slots done y=some y') {cf:F4} {outs:List VM} (hv:nu (.appB e x' y') cf ls env m=some outs):
  ∀o:Oper,o.op=.call c->Does P a.eval o w (aQ P G ι m w outs):=by
 obtain⟨_,hes,hby,z,hz,hzl⟩:=Ec hbt;have old:nu (.app 1 false z 1 x' y') cf ls env m=some outs->∀o:Oper,o.op=.call c->Does P a.eval o w (aQ P G ι m w outs):=
  λh=>GQ s hm hc hts has hu hd hes hz hby hx hy h
 obtain⟨e1,g1⟩:=A8 s hx;obtain⟨e2,g2⟩:=A8 s hy;have hts':c.argTypes=#[t,u]:=by rw [← hts,aaV]
 have has':c.args=#[x,y]:=by rw [← has,aaV]
 obtain⟨hz',_⟩:=nD hz;have fin:∀{str:List UInt8} {base:Option Addr} {sLen sCap:Nat} {v:Value} {w':World},F9 y' ls env=.str str->o8 ι (F9 x' ls env)=.slice base sLen sCap->
   (jM false e 1 sLen sCap base (o8 ι (.str str)) str.length).run P w=.ok v w'->aQ P G ι m w outs v w'->∀o:Oper,o.op=.call c->Does P a.eval o w (aQ P G ι m w outs):=by
  intro str base sLen sCap v w' q1 q2 q3 q4 o ho;refine O7 (v:=v) (w':=w') ?_ q4;have hn:ab8 P w (Ea .string) 1 str.length (o8 ι (.str str)):=.inl ⟨rfl,uJ (v:=.str str) (by simp [lenOf]) w⟩;have h3:(jM (Ea .string) e 1 sLen sCap base (o8 ι (.str str)) str.length).run P w=.ok v w':=q3;rw [← Bl (T:=o.type) hu hes hd hby hn] at h3;simp [execOp,ho,resolve,hc,has',hts',invoke,builtin,e1,e2,q1,q2,h3]
 have hnew:∀(str:List UInt8) (w':World),w'.heap=w.heap->(if (!false)=true then Builtin.firstCells 1 str.length (o8 ι (.str str)) else if str.length*1=0 then pure #[] else do pure (Builtin.zeroCells (← zeroValue e).cells str.length):Sem (Array Value)).run P w'=.ok (y7 ι (bytesOf str)).toArray w':=by
  intro str w' hw;have:iW m 1 str.length (.str str)=some (bytesOf str):=by simp [iW]
  exact (iM (w:=w') (by rw [hw];exact hm) this).1
 have lay:∀{m0:Mem} (st:Step P G ι m w ι m0 w) (s0 str:List UInt8) (capN:Nat) (rest:List Value),m0.nx=m.nx->s0.length+str.length<=capN->rest.length=(capN-(s0.length+str.length))*z.length->
   outs=[⟨.sliceU m.nx 0 (s0.length+str.length) 1,m0.new (.buf e (s0++str))⟩]->
   aQ P G ι m w outs (.slice (some ⟨w.heap.size,0,none⟩) (s0.length+str.length) capN) {w with heap:=w.heap.push (.cells (y7 ι (bytesOf s0)++y7 ι (bytesOf str)++rest).toArray e),drawn:=w.drawn+1}:=by
  intro m0 st s0 str capN rest hnx hcap hrest hout;subst hout;have hl:=Laid.new st.rm.ok st.rm.limn (.buf e (s0++str)) rfl;rw [hnx] at hl;have hsz:(y7 ι (bytesOf s0)++y7 ι (bytesOf str)++rest).toArray.size=capN:=by simp only [afr,ac5,V6,iw,hrest,hzl];omega
  have hst:=st.trans (Step.lay (w':={w with heap:=w.heap.push (.cells (y7 ι (bytesOf s0)++y7 ι (bytesOf str)++rest).toArray e),drawn:=w.drawn+1}) st.rm hl (o:=.cells (y7 ι (bytesOf s0)++y7 ι (bytesOf str)++rest).toArray e) ⟨rfl,rfl,rfl,rfl⟩ (l:=⟨w.heap.size,0,capN,none⟩) rfl rfl
   ⟨rfl,_,_,dh,by simp;omega,by rw [hsz];exact J2 _,λj b hj=>?_⟩ (by intro c' e' fz h k hk;cases h;simp))
  exact nE rfl hst hl.self (by omega) (need:=s0.length+str.length) (by simpa using hcap) (by simp);have hjl:=(J5.1 hj).1;rw [aed,aau (by simpa [iw] using hjl)];by_cases h1:j<s0.length;rw [aau h1] at hj;rw [aau (by simpa [iw] using h1),Ai,hj];rfl;rw [abV (by omega)] at hj;rw [abV (by simp [iw];omega),Ai];simp only [V6,iw];rw [hj];rfl
 change Qa e (F9 x') (F9 y') cf ls env m=some outs at hv
 unfold Qa at hv;split at hv;rename_i hx0;obtain⟨str,hy0,hv⟩:=iq hv;cases str with
 | nil=>refine old ?_;show qh 1 1 (F9 x') (F9 y') cf ls env m=some outs;unfold qh;rw [hy0,hx0];exact hv
 | cons b0 t0=>
  generalize hstr:b0::t0=str at *;have hv:bi (big (len' str) 1 1) (one (.sliceU m.nx 0 (len' str) 1) (m.new (.buf e str))) none=some outs:=by rw [← hstr] at hv ⊢;exact hv
  obtain⟨hb,hv⟩:=D7 hv;rw [I9] at hb hv;obtain⟨b1,_,b3⟩:=uK hb;have hout:outs=[⟨.sliceU m.nx 0 (([]:List UInt8).length+str.length) 1,m.new (.buf e ([]++str))⟩]:=by cases hv;simp
  have hpos:0<str.length:=by rw [← hstr];simp
  obtain⟨capN,rest,r1,r2,r3⟩:=jO (P:=P) (w:=w) (zs:=false) (e:=e) (es:=1) (sLen:=0) (sCap:=0) (base:=none) (x:=o8 ι (.str str)) (n:=str.length) (old:=[]) hby hz' (by omega) (by simpa using b1) b3
   (λw' _=>by simp [Builtin.firstCells]) (hnew str)
  refine fin hy0 (by rw [hx0];rfl) r3 ?_;have:=lay (Step.refl hm) [] str capN rest rfl (by simpa using r1) (by simpa using r2) hout;simpa [bytesOf,y7] using this
 rename_i id off len es hx0;split at hv;rename_i ty' s0 hg;obtain⟨str,hy0,hv⟩:=iq hv;obtain⟨k1,hv1⟩:=D7 hv;obtain⟨k2,hv2⟩:=D7 hv1;obtain⟨k3,hv3⟩:=D7 hv2;obtain⟨k4,hv4⟩:=D7 hv3;obtain⟨k5,hv5⟩:=D7 hv4;clear hv hv1 hv2 hv3 hv4;rw [I9] at k4;have hlim:m.lim<=id:=Y2 k5;obtain rfl:e=ty':=J4 k1;obtain rfl:off=0:=J4 k2;obtain rfl:es=1:=J4 k3;obtain rfl:len=s0.length:=J4 k4;have hv:=hv5;clear hv5;cases str with
 | nil=>refine old ?_;show qh 1 1 (F9 x') (F9 y') cf ls env m=some outs;unfold qh;rw [hy0,hx0];exact hv
 | cons b0 t0=>
  generalize hstr:b0::t0=str at *;have hv:bi (big (Nat.add s0.length (len' str)) 1 1) (one (.sliceU m.nx 0 (Nat.add s0.length (len' str)) 1) ((m.set id .dead).new (.buf e (aX s0 str)))) none=some outs:=by rw [← hstr] at hv ⊢;exact hv
  obtain⟨hb,hv⟩:=D7 hv;rw [I9] at hb hv;rw [V5] at hv;obtain⟨b1,_,b3⟩:=uK hb;have hout:outs=[⟨.sliceU m.nx 0 (s0.length+str.length) 1,(m.set id .dead).new (.buf e (s0++str))⟩]:=by cases hv;rfl
  have hpos:0<str.length:=by rw [← hstr];simp
  obtain⟨q0,cs,fz,q1,q2,q3,q4⟩:=hm.blk id _ hg;have hsp:=hm.spot id _ hg rfl;have hcx:o8 ι (F9 x' ls env)=.slice (some ⟨(ι id).b,0,none⟩) s0.length (ι id).cap:=by rw [hx0];simp [o8,K4.at,q0,hsp]
  have hfree:=(hm.own id _ hlim hg rfl).free cs e fz q1;have hcell:∀w':World,w'.heap=w.heap->∀(j:Nat) (v:j3),(bytesOf s0)[j]?=some v->w'.cell? (ι.at id (0+j))=some (o8 ι v):=by
   intro w' hw j v hj;rw [nW,abY] at hj;cases hb':s0[j]? with
   | none=>rw [hb'] at hj;cases hj
   | some b'=>rw [hb'] at hj;cases hj;have:=q4 j b' hb';simp [World.cell?,hw,K4.at,q0,hsp,q1,o8,this]
  by_cases hfit:s0.length+str.length<=(ι id).cap
  ·
   have hrun:=nV (P:=P) (y7 ι (bytesOf str)) cs (s0.length*1) 0 w q1 (by simp [iw];omega) hfree (λv hv=>by
    rw [bf] at hv;obtain⟨u',hu',rfl⟩:=aeg.1 hv;exact Af (pJ (RH str) u' hu'))
   refine fin hy0 hcx (jN hfit (hnew str w rfl) (by
    have:(⟨(ι id).b,0,none⟩:Addr).add (s0.length*1)=⟨(ι id).b,s0.length*1,none⟩:=(by simp [Addr.add];intro h;simp [h]);simp only [this];exact hrun)) ?_
   subst hout;have hlaid:=Laid.new (Step.kill hm hlim hg).rm.ok (Step.kill hm hlim hg).rm.limn (.buf e (s0++str)) rfl;have hst:=Step.aa3 (l:=⟨(ι id).b,0,(ι id).cap,none⟩) (o:=.cells (over cs (s0.length*1+0) (y7 ι (bytesOf str))) e fz) (w':={w with heap:=w.heap.setIfInBounds (ι id).b (.cells (over cs (s0.length*1+0) (y7 ι (bytesOf str))) e fz)})
    (b':=.buf e (s0++str)) hm hlim hg rfl rfl ⟨rfl,rfl,rfl,rfl⟩ rfl rfl ⟨rfl,_,_,gu q1,by simpa using hfit,by simpa using q3,λj b hj=>?_⟩ (by intro c' e' fz' h k hk;cases h;exact hfree k (by simpa using hk))
   have:=nE rfl hst hlaid.self (J2 1) (need:=s0.length+str.length) (by simpa using hfit) (cap:=(ι id).cap) (by simp);simpa using this;have hjl:=(J5.1 hj).1;rw [ac5] at hjl;rw [yQ _ _ _ (by simp [iw];omega)];by_cases h1:j<s0.length;rw [aau h1] at hj;rw [if_pos (by omega)];exact q4 j b hj;rw [abV (by omega)] at hj;rw [if_neg (by omega),if_pos (by simp [iw];omega),Ai,show j-(s0.length*1+0)=j-s0.length from by omega,hj];rfl
  obtain⟨capN,rest,r1,r2,r3⟩:=jO (P:=P) (w:=w) (zs:=false) (e:=e) (es:=1) (sLen:=s0.length) (sCap:=(ι id).cap) (base:=some ⟨(ι id).b,0,none⟩) (x:=o8 ι (.str str)) (n:=str.length) (old:=y7 ι (bytesOf s0)) hby hz' hfit b1 b3
   (λw' hw=>by
    have:=gV (P:=P) (ι:=ι) (w:=w') (id:=id) (off:=0) (len:=s0.length) (cap:=(ι id).cap) (es:=1) (n:=s0.length) (l:=bytesOf s0) (by rw [iw,ai9]) (hcell w' hw);simpa [K4.at,q0,hsp] using this) (hnew str)
  exact fin hy0 hcx r3 (lay (Step.kill hm hlim hg) s0 str capN rest rfl r1 r2 hout)
 exact old hv;exact old hv
theorem OE {w:World}{b:Nat}{c:Array Value}{e:TypeId}{fz:Nat×Nat}(h:w.heap[b]?=some (.cells c e fz))(n:Nat):∃fz',w.freeze ⟨b,0,none⟩ n={w with heap:=w.heap.setIfInBounds b (.cells c e fz')}:=by
 have hlt:=(K9.1 h).1;have hb:w.heap[b]=.cells c e fz:=(K9.1 h).2;have key:∀(f:Obj->Obj) fz',f (.cells c e fz)=.cells c e fz'->w.heap.modify b f=w.heap.setIfInBounds b (.cells c e fz'):=by intro f fz' hf;apply ae9;intro j;rw [aiq,Array.getElem?_setIfInBounds];by_cases hj:b=j;subst hj;simp [h,hf,hlt,hb];simp [hj]
 unfold World.freeze;split;refine⟨fz,?_⟩;have hid:w.heap.modify b id=w.heap:=by apply ae9;intro j;rw [aiq];split<;>simp
 rw [← key id fz rfl,hid];obtain⟨lo,hi⟩:=fz;exact⟨_,by congr 1;exact key _ _ rfl⟩
theorem XG {β:Type}{v:j3}{k:Nat->Option β}{r:β}(h:ab1 v k=some r):∃n:Nat,v=.int .i64 (n:Int)∧k n=some r:=by unfold ab1 at h;split at h;exact⟨_,rfl,h⟩;cases h
theorem OG (s:St P ι (m.nm ι) slots done ls env a.tmps)(hm:RM P G ι m w.heap){c:Call}{t u e:TypeId}{x y:Operand}{x' y':P6}(hc:c.callee=.builtin .unsafeString)
  (hts:c.argTypes.toList=[t,u]) (has:c.args.toList=[x,y]) (hu:P.underlying t=some (.pointer e)) (hbt:Bb P e=true)
  (hx:N9 P slots done x=some x') (hy:N9 P slots done y=some y') {cf:F4} {outs:List VM} (hv:nu (.ustr e x' y') cf ls env m=some outs):
  ∀o:Oper,o.op=.call c->Does P a.eval o w (aQ P G ι m w outs):=by
 intro o ho;obtain⟨_,hes,_⟩:=Ec hbt;obtain⟨e1,_⟩:=A8 s hx;obtain⟨e2,_⟩:=A8 s hy;have hts:c.argTypes=#[t,u]:=by rw [← hts,aaV]
 have has:c.args=#[x,y]:=by rw [← has,aaV]
 obtain⟨n,h1,hv⟩:=XG hv;have h1:F9 y' ls env=.int .i64 (n:Int):=h1
 change (match F9 x' ls env with
  | .nilPtr=>bi (Nat.beq n 0) (one (.str []) m) none
  | .ptr id off=>bi (Nat.beq off 0) (bi (Nat.ble m.lim id) (match m.get id with
   | some (.buf ty' s)=>bi (Nat.beq e ty') (bi (Nat.beq n (len' s)) (bi (Nat.ble n 9223372036854775807) (one (.str s) (m.set id .dead)) none) none) none
   | _=>none) none) none
  | _=>none)=some outs at hv
 split at hv;rename_i h2;obtain⟨h3,hv1⟩:=D7 hv;clear hv;cases hv1;obtain rfl:n=0:=J4 h3;refine O7 (v:=.string .empty) (w':=w) ?_ ⟨_,J3.2 rfl,ι,Step.refl hm,trivial,rfl⟩;have:=Lib.run_unsafeString_none (P:=P) w t u o.type none;simp [execOp,ho,resolve,hc,has,hts,invoke,builtin,e1,e2,h1,h2,o8,this];rename_i id off h2;obtain⟨h3,hv1⟩:=D7 hv;obtain⟨h4,hv2⟩:=D7 hv1;clear hv hv1;obtain rfl:off=0:=J4 h3;have hlim:m.lim<=id:=Y2 h4;split at hv2;rename_i ty' str hg;obtain⟨h5,hv3⟩:=D7 hv2;obtain⟨h6,hv4⟩:=D7 hv3;obtain⟨h7,hv5⟩:=D7 hv4;clear hv2 hv3 hv4;rw [I9] at h6;cases hv5;obtain rfl:e=ty':=J4 h5;obtain rfl:n=str.length:=J4 h6;have h63:str.length<=9223372036854775807:=Y2 h7;obtain⟨q0,cs,fz,q1,q2,q3,q4⟩:=hm.blk id _ hg;have hsp:=hm.spot id _ hg rfl;obtain⟨fz',hfz⟩:=OE q1 str.length;have hst:Step P G ι m w ι (m.set id .dead) (w.freeze ⟨(ι id).b,0,none⟩ str.length):=by rw [hfz];exact Step.set' hm hlim hg rfl rfl (o:=.cells cs e fz') ⟨rfl,rfl,rfl,rfl⟩ trivial (λh=>by cases h)
 refine O7 (v:=.string ⟨str.toArray⟩) (w':=w.freeze ⟨(ι id).b,0,none⟩ str.length) ?_ ⟨_,J3.2 rfl,ι,hst,trivial,rfl⟩;have had:a.eval x=.pointer (some ⟨(ι id).b,0,none⟩):=by rw [e1,h2];simp [o8,K4.at,q0,hsp]
 by_cases h0:str=[];subst h0;have:=Lib.run_unsafeString_none (P:=P) w t u o.type (some ⟨(ι id).b,0,none⟩);simp [execOp,ho,resolve,hc,has,hts,invoke,builtin,had,e2,h1,o8,this,World.freeze];rfl;have:=Lib.run_unsafeString_row (P:=P) w t u o.type e hu (xE hes) (ι id).b cs.size (by simp [World.shape?,q1]) str h0 (by omega) h63 (λj b hj=>by
  have:=q4 j b hj;by_cases h0:j=0;subst h0;simpa [World.cell?,Addr.add,q1] using this;simpa [World.cell?,Addr.add,q1,h0] using this)
 simp [execOp,ho,resolve,hc,has,hts,invoke,builtin,had,e2,h1,o8,this];cases hv2;cases hv
end
end Go.AM
