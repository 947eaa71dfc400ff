/- A part of an evaluator for the model, proved sound: what it answers holds of the model; it speaks of every program, no condition. -/
import Derived.Test.YtpmfjipaheolgaaGreatDoorPA1
import Derived.Laws.NewFold
import Derived.CallsIn
set_option linter.all false
namespace Go.AM
open Go
open Nat (beq ble blt)
variable {β:Type}{y:Operand}
section
variable {P:cH}{G:cD}{ι:Q0}{n:Nm}{cr:cR}{done:List (Option Nat)}{ls:cM}{env:T j5}{a:Act}
def Gives(P:cH)(ρ:Operand->Value)(op:Op)(v:Value):Prop:=
 ∀(o:Oper),o.op=op->∀w,(execOp ρ o).run P w=.ok (.value v) w
def qy{a:BinOp}(b:a≠.eql)(c:a≠.neq){t:cI}{x:Operand}{u v:Value}{w:cG}:(eqGuard a t x y u v).run P w=.ok () w:=by unfold eqGuard;cases a<;>first|exact cj rfl b|exact cj rfl c|simp
def QY{a:BinOp}{t:cI}{x:Operand}{u v:Array Value}{w:cG}(h:P.eqGuardType P.depth t=false):(eqGuard a t x y (.agg u) (.agg v)).run P w=.ok () w:=by unfold eqGuard;cases a<;>simp[h]
def vg{b:BinOp}{t:cI}{x:Operand}{e:cI}{a:Operand->Value}{v:Value}
   (c:∀w,(eqGuard b t x y (a x) (a y)).run P w=.ok () w) (h:∀w,(binOp b t (a x) (a y)).run P w=.ok v w):Gives P a (.binOp b t x y e) v:=by
 intro o d w;simp[execOp,d,c,h]
def cq{α:Type}{o:Option α}{f:α->Option β}{b:β}(h:(o >>= f)=some b):∃a,o=some a∧f a=some b:=by
 cases o with
 |none=>cases h
 |some a=>exact⟨a,rfl,h⟩
def aan(p:Nat×Nat×OF)(ps:List (Nat×Nat×OF))(ls:cM)(env:T j5)(cs:cM):
   lay (p::ps) ls env cs=bi (beq (len' (p.2.2 ls env).cells) p.2.1) (bi (ble (Nat.add p.1 p.2.1) (len' cs)) (lay ps ls env (pK p.1 (p.2.2 ls env).cells cs)) none) none:=rfl
def Fe(vs:List Value):∀(A:Array Value) (off i:Nat),off+i+vs.length<=A.size->
   ((vs.zipIdx i).foldl (λcs (p:Value×Nat)=>cs.setIfInBounds (off+p.2) p.1) A).toList=A.toList.take (off+i)++(vs++A.toList.drop (off+i+vs.length)):=by
 induction vs with
 |nil=>intro A off i h;simp
 |cons v vs ih=>
  intro A off i h;simp only[List.zipIdx_cons,awx,aa5]at h ⊢;rw[ih _ _ _ ZD];simp only[Array.toList_setIfInBounds];have a:off+i<A.toList.length:=ZD
  rw[List.take_set,show off+(i+1)=off+i+1 from by omega];rw[List.drop_set_of_lt Zs];rw[O7 a,avS _ _ ZD];simp[show min (off+i) A.size=off+i from by simp at a;omega];congr 1;omega
def Fg(s:St P ι n cr done ls env a.tmps)(d:Nat->Option (Nat×Nat)):∀(parts:List (Nat×Operand)) (ps:List (Nat×Nat×aS)),
   yM P cr done d parts=some ps->∀(cs r:cM),fD n cs->lay (ES ps) ls env cs=some r->
    Instr.fill d (A9 ι cs).toArray (parts.map λp=>(p.1,a.eval p.2))=some (A9 ι r).toArray∧fD n r∧r.length=cs.length:=by
 intro parts;induction parts with
 |nil=>intro ps h cs r c f;simp only[yM,iE]at h;subst h;cases f;exact⟨rfl,c,rfl⟩
 |cons p parts ih=>
  intro ps h cs r c f;simp only[yM]at h;split at h;rename_i b k x j C D g;cases h;simp only[ES,aan]at f;let⟨o,f⟩:=K4 f;let⟨q,f⟩:=K4 f;let⟨t,u⟩:=D9 s D;simp only[K7]at o q;have l:=nA o;have A:b+k<=cs.length:=D5 q;have i:b+((J6 x ls env).cells).length<=cs.length:=Zs
  have m:=Dl b ((J6 x ls env).cells) cs i;let⟨w,y,z⟩:=ih j g _ r (by
   rw[gK]at c ⊢;intro v e;rw[pU b _ cs Zs]at e;simp only[LA]at e;rcases e with e|e|e;exact c v (adn e);exact gK.1 (Dn u) v e;exact c v (ahh e)) f
  refine⟨?_,y,by rw[z,m]⟩;simp only[afp,Instr.fill,C];rw[t,rM];simp only[ato,dN];rw[aE (by simp[l];omega)];rw[← w];congr 1;have B:=Fe (A9 ι (J6 x ls env).cells) (A9 ι cs).toArray b 0 ZD;apply axI.1;rw[← Array.foldl_toList];simp only[Array.toList_zipIdx];refine B.trans ?_;simp only[fF,pU b _ cs (show b<=cs.length by omega),ajo,avx,axq,ahP,adh];cases h
def LK:∀(fs:List Field) (pl:List (Nat×Nat)),placesOf P fs=some pl->∀w,
   ((fs.mapM λf=>do pure (f.offset,← sizeOf f.type):Sem (List (Nat×Nat)))).run P w=.ok pl w:=by
 intro fs;induction fs with
 |nil=>intro pl h w;simp only[placesOf,iE]at h;subst h;simp
 |cons f fs ih=>intro pl h w;simp only[placesOf]at h;split at h;rename_i s r b c;cases h;have a:=ih r c w;simp only[bind_pure_comp]at a;simp[axU,run_sizeOf b,a];cases h
def QZ(s:St P ι n cr done ls env a.tmps){t:cI}{b:Array (Nat×Operand)}{o:Db}(h:BO P cr done t b.toList=some o):
   ∃zero ps,o=.p (.build zero ps)∧∀v,qW (.build zero ps) ls env=some v->v.lt n∧Gives P a.eval (.build t b) (u7 ι v):=by
 simp only[BO]at h;have j:(b.map λp=>(p.1,a.eval p.2)).toList=b.toList.map λp=>(p.1,a.eval p.2):=ZZ
 split at h;rename_i zero c q G;split at h;rename_i I E;split at h;rename_i ps l;cases h;refine⟨zero,ps,rfl,λv H=>?_⟩;let⟨r,A,B⟩:=D7 H;cases B;let⟨z,d,e,g⟩:=iX (P:=P) (w:=default) q ι;let⟨u,y,_⟩:=Fg s _ b.toList ps l zero r (g n) A;refine⟨y,λo D w=>?_⟩;let⟨z,d,e,g⟩:=iX (P:=P) (w:=w) q ι;simp only[execOp,D,Instr.build,wu,d,nM,cC G,e];have K:=LK (P:=P) c.toList I E w;have C:(c.mapM λf=>do pure (f.offset,← sizeOf f.type):Sem (Array (Nat×Nat)))=Functor.map List.toArray (c.toList.mapM λf=>do pure (f.offset,← sizeOf f.type):Sem (List (Nat×Nat))):=by rw[← List.mapM_toArray]
 rw[C];simp only[Sem.run_map,K,nM,j];have m:(λx:Nat=>I.toArray[x]?)=λi:Nat=>I[i]?:=by funext i;simp
 rw[m,u];simp[u7];cases h;cases h;rename_i zero k J q G;split at h;rename_i L F;split at h;rename_i ps l;cases h;refine⟨zero,ps,rfl,λv H=>?_⟩;let⟨r,A,B⟩:=D7 H;cases B;let⟨z,d,e,g⟩:=iX (P:=P) (w:=default) q ι;let⟨u,y,_⟩:=Fg s _ b.toList ps l zero r (g n) A;refine⟨y,λo D w=>?_⟩;let⟨z,d,e,g⟩:=iX (P:=P) (w:=w) q ι;simp only[execOp,D,Instr.build,wu,d,nM,cC G,e,run_sizeOf F,j];rw[u];simp[u7];cases h;cases h;cases h
end
section
variable {P:cH}{G:cD}{ι:Q0}{n:Nm}{cr:cR}{done:List (Option Nat)}{ls:cM}{env:T j5}{a:Act}
def yV{α:Type}(p q:Nat)(x y:α):bi (beq p q) x y=if p=q then x else y:=by by_cases h:p=q;subst h;rw[ah6,cg rfl];rfl;rw[show beq p q=false from aa0.2 λe=>h (nA e),aE h];rfl
def aj{l:cM}{v:j5}(h:fD n l)(a:v∈l):v.lt n:=gK.1 h v a
noncomputable def Du (sz:Option Nat)(l:cM)(o:Nat):Option j5:=match sz with
 |none=>l[o]?
 |some k=>ob (takeN k (l.drop o)) λr=>some (.agg r)
def Jo{t:cI}{c:Option Nat}(f:partT P t=some c){l:cM}(b:fD n l)(o:Nat){v:j5}
   (a:Du c l o=some v):
   v.lt n∧∀w,(part t (A9 ι l).toArray o).run P w=.ok (u7 ι v) w:=by
 rcases Jj f with⟨rfl,ha,k,hk⟩|⟨k,rfl,ha,hk⟩;simp only[Du]at a;refine⟨aj b (O5 a),λw=>?_⟩;simp[part,uW ha,eU,a];simp only[Du]at a;let⟨r,d,e⟩:=D7 a;cases e;obtain⟨rfl,_⟩:=oF _ _ _ d;refine⟨gK.2 λv a=>aj b (ahh (adn a)),λw=>?_⟩;simp[part,uW ha,run_sizeOf hk,u7,fF,avx,axq]
def Mw(s:St P ι n cr done ls env a.tmps){x:Option Operand}{o:Option aS}(h:cOpt P cr done x=some o):
   (x=none∧o=none)∨∃y z,x=some y∧o=some z∧a.eval y=u7 ι (J6 z ls env):=by
 cases x with
 |none=>simp only[cOpt,iE]at h;exact .inl ⟨rfl,h.symm⟩
 |some y=>
  simp only[cOpt]at h;cases hy:aD P cr done y with
  |none=>simp[hy]at h
  |some z=>simp only[hy,iE]at h;exact .inr ⟨y,z,rfl,h.symm,(D9 s hy).1⟩
def wD(s:St P ι n cr done ls env a.tmps){lo hi:Option Operand}{p j:Option aS}(u:cOpt P cr done lo=some p)(t:cOpt P cr done hi=some j)
   {k:Nat->Nat->Option β} {d:Nat} {r:β} (h:jk (om p) 0 ls env (λl=>jk (om j) d ls env λh=>k l h)=some r):
   ∃l h,k l h=some r∧(hi=none->h=d)∧(lo=none->l=0)∧
    (∀(isSlice:Bool) (len cap:Nat) (w:cG),len=d->l<=h->h<=cap->(Instr.sliceBounds isSlice len cap (lo.map a.eval) (hi.map a.eval) none).run P w=.ok (l,h,cap) w):=by
 rcases Mw s u with⟨rfl,rfl⟩|⟨y,z,rfl,rfl,hy⟩<;>rcases Mw s t with⟨rfl,rfl⟩|⟨y',z',rfl,rfl,hy'⟩
 exact⟨0,d,h,λ_=>rfl,λ_=>rfl,λo len cap w g _ _=>by subst g;simp[Instr.sliceBounds]⟩;let⟨i,m,b,f⟩:=jm h;refine⟨0,m,f,ZZ,ZZ,λo len cap w g c e=>?_⟩;have b:J6 z' ls env=.int i (m:Int):=b;simp only[ag8,awh,hy',b,u7,Instr.sliceBounds,Instr.sliceBound,asIntOf];cases o<;>simp[e]
 let⟨i,m,b,f⟩:=jm h;refine⟨m,d,f,ZZ,ZZ,λo len cap w g c e=>?_⟩;have b:J6 z ls env=.int i (m:Int):=b;subst g;simp only[ag8,awh,hy,b,u7,Instr.sliceBounds,Instr.sliceBound,asIntOf];simp[c];let⟨i,m,b,f⟩:=jm h;let⟨A,v,q,x⟩:=jm f;refine⟨m,v,x,ZZ,ZZ,λo len cap w g c e=>?_⟩;have b:J6 z ls env=.int i (m:Int):=b;have q:J6 z' ls env=.int A (v:Int):=q;simp only[ag8,hy,b,hy',q,u7,Instr.sliceBounds,Instr.sliceBound,asIntOf];cases o<;>simp[c,e]
def Bp{t e:cI}{es:Nat}(b:P.underlying t=some (.slice e))(hs:gV P e=some es)(a:Addr)(len cap:Nat)(k:cJ)(i:Nat)(hi:i<len)(w:cG):
   (Instr.indexAt t (.slice (some a) len cap) (.int k (i:Int))).run P w=.ok (.pointer (some (a.add (i*es)))) w:=by
 simp[Instr.indexAt,asIntOf,cC b,run_sizeOf hs,hi]
def LM{t e:cI}{es len:Nat}(b:P.underlying t=some (.array len e))(hs:gV P e=some es)(a:Addr)(k:cJ)(i:Nat)(hi:i<len)(w:cG):
   (Instr.indexAt t (.pointer (some a)) (.int k (i:Int))).run P w=.ok (.pointer (some (a.add (i*es)))) w:=by
 simp[Instr.indexAt,asIntOf,cC b,run_sizeOf hs,hi,Instr.sureAddr]
def Ra(a:Bool):∀(ys:cM) (x v:j5),fD n ys->x.lt n->QE a ys x=some v->v.lt n∧
   ∀w,((A9 ι ys).foldlM (if a then Builtin.max2 else Builtin.min2) (u7 ι x)).run P w=.ok (u7 ι v) w:=by
 intro ys;induction ys with
 |nil=>intro x v _ d h;cases h;exact⟨d,λw=>by simp[A9]⟩
 |cons y ys ih=>
  intro x v c d h;have h:ob (mm2 a x y) (λz=>QE a ys z)=some v:=h;let⟨z,b,j⟩:=D7 h;simp only[mm2]at b;let⟨k,p,e,b⟩:=oU b;let⟨l,q,f,b⟩:=oU b;cases b;let⟨g,i⟩:=ih _ v c.2 (by simp[j5.lt]) j;refine⟨g,λw=>?_⟩;subst e;subst f;simp only[A9,List.foldlM_cons,wu,u7];have:((if a=true then Builtin.max2 else Builtin.min2) (.int k p) (.int l q)).run P w=.ok (.int k (bi a (bi (mX p q) q p) (bi (mX q p) q p))) w:=by cases a;simp only[agY,if_false,Builtin.min2,aa2,bA,iY];by_cases hlt:q<p;simp[hlt];simp[hlt];simp only[if_true,Builtin.max2,aa2,aC,iY];by_cases hlt:p<q;simp[hlt];simp[hlt]
  rw[this];exact i w
end
section
variable {P:cH}{G:cD}{ι:Q0}{n:Nm}{cr:cR}{done:List (Option Nat)}{ls:cM}{env:T j5}{a:Act}
def dZ{x y:POp}(h:(pure (Db.p x):Option Db)=some (.p y)):x=y:=by cases h;rfl
set_option maxHeartbeats 1000000 in
def wE(s:St P ι n cr done ls env a.tmps){J:Op}{T:POp}(h:jT P cr done J=some (.p T)){v:j5}(F:qW T ls env=some v):
   v.lt n∧Gives P a.eval J (u7 ι v):=by
 cases J with
 |move x=>let⟨x',A,h⟩:=cq h;obtain rfl:=dZ h;cases F;let⟨B,E⟩:=D9 s A;exact⟨E,λo C w=>by simp[execOp,C,B]⟩
 |assign x=>let⟨x',A,h⟩:=cq h;obtain rfl:=dZ h;cases F;let⟨B,E⟩:=D9 s A;exact⟨E,λo C w=>by simp[execOp,C,B]⟩
 |pick c x y=>
  let⟨c',hc,h⟩:=cq h;let⟨x',A,h⟩:=cq h;let⟨y',hy,h⟩:=cq h;obtain rfl:=dZ h;let⟨b,d,D⟩:=uY F;have d:J6 c' ls env=.bool b:=d;let⟨B,_⟩:=D9 s hc;let⟨E,ab⟩:=D9 s A;let⟨U,ac⟩:=D9 s hy;rw[d]at B;cases b with
  |true=>cases D;exact⟨ab,λo C w=>by simp[execOp,C,B,E,u7,asBool]⟩
  |false=>cases D;exact⟨ac,λo C w=>by simp[execOp,C,B,U,u7,asBool]⟩
 |build t parts=>let⟨zero,ps,e,hb⟩:=QZ s (show BO P cr done t parts.toList=some (.p T)from h);cases e;exact hb v F
 |nilCheck x=>
  let⟨x',A,h⟩:=cq h;obtain rfl:=dZ h;let⟨B,E⟩:=D9 s A;have F:IQ (J6 x' ls env)=some v:=F;generalize J6 x' ls env=u at *;have:v=u∧∀o:Oper,o.op=.nilCheck x->∀w,(execOp a.eval o).run P w=.ok (.value (u7 ι u)) w:=by
   cases u<;>simp only[IQ,iE,reduceCtorEq]at F<;>try (refine⟨F.symm,λo C w=>?_⟩;simp[execOp,C,B,u7];done)
   rename_i fn p q;cases fn<;>simp only[iE,reduceCtorEq]at F
   refine⟨F.symm,λo C w=>?_⟩;simp[execOp,C,B,u7,lV]
  obtain⟨rfl,D⟩:=this;exact⟨E,D⟩
 |binOp J t x y yt=>
  simp only[jT]at h;by_cases d:J=.eql∨J=.neq
  ·have O:∃k x' y',aag P (Bn x||Bn y) t=some k∧aD P cr done x=some x'∧aD P cr done y=some y'∧
     ((k=.prim .i∨k=.prim .s)∧T=.ib J x' y'∨(k≠.prim .i∧k≠.prim .s)∧T=.eq (decide (J=.neq)) k x' y'):=by
    rcases d with rfl|rfl <;>
    ·simp only at h;let⟨k,L,h⟩:=cq h;cases k with
     |prim p=>
      cases p <;>
      ·simp only at h;let⟨x',A,h⟩:=cq h;let⟨y',hy,h⟩:=cq h;have:=dZ h;exact⟨_,x',y',L,A,hy,by simp[this]⟩
     |_=>simp only at h;let⟨x',A,h⟩:=cq h;let⟨y',hy,h⟩:=cq h;have:=dZ h;exact⟨_,x',y',L,A,hy,by simp[this]⟩
   let⟨k,x',y',L,A,hy,O⟩:=O;let⟨B,_⟩:=D9 s A;let⟨E,_⟩:=D9 s hy;rcases O with⟨_,rfl⟩|⟨⟨hk1,hk2⟩,rfl⟩;have Z:J≠.shl:=by rcases d with rfl|rfl<;>simp
   have a0:J≠.shr:=by rcases d with rfl|rfl<;>simp
   have F:Bb (Og J) (Oh J) (J6 x' ls env) (J6 y' ls env)=some v:=by rcases d with rfl|rfl<;>exact F
   refine⟨(wz (P:=P) (ι:=ι) Z a0 F t default).2,vg (λw=>?_) (λw=>by rw[B,E];exact(wz (n:=n) Z a0 F t w).1)⟩;rw[B,E];rcases Yl F with⟨k,p,hf⟩|⟨p,hf⟩<;>rw[hf]<;>exact wo (by simp[u7]) (by simp[u7])
   ·have F:∃r,xO k (J6 x' ls env) (J6 y' ls env)=some r∧v=.bool (if J=.neq then !r else r):=by
     rcases d with rfl|rfl <;>
     ·let⟨r,d,D⟩:=D7 F;cases D;exact⟨r,d,rfl⟩
    obtain⟨r,hr,rfl⟩:=F;refine⟨by simp[j5.lt],vg (λw=>?_) (λw=>?_)⟩
    ·rw[B,E];cases k with
     |prim p=>
      cases p with
      |b=>let⟨p,q,H,Q,_⟩:=mG hr;rw[H,Q];exact wo (by simp[u7]) (by simp[u7])
      |i=>exact cj rfl hk1
      |s=>exact cj rfl hk2
     |flat ks=>
      let⟨l,H,Q⟩:=jV hr;let⟨m,h5,h6⟩:=jV Q;rw[H,h5];refine QY ?_;rcases(BS L).symm with L|L;let⟨_,_,_,_,_,_,h7,_⟩:=Fb L;exact h7;simp only[eqT]at L;split at L<;>first|(simp at L;done)|skip
      split at L;split at L;assumption;cases L;cases L
     |iface=>
      have hc:Bn x=true∨Bn y=true:=by
       rcases(BS L).symm with L|L;let⟨_,_,_,_,_,_,_,h7⟩:=Fb L;cases h7;simp only[eqT]at L;split at L<;>first|(simp at L;done)|skip
       split at L;split at L<;>simp at L
       simp at L;split at L;rename_i hc;simpa using hc;simp at L
      exact wo (λp q=>by cases A:J6 x' ls env<;>simp_all[xO,kI,u7]) (hc.elim (λh=>.inr (.inr (.inl h))) (λh=>.inr (.inr (.inr h))))
     |_=>refine wo (λp q=>?_) (.inl ?_)<;>cases A:J6 x' ls env<;>simp_all[xO,xW,iR,QC,IK,u7]
    rw[B,E];have:=Yo L hk1 hk2 (ι:=ι) hr w;rcases d with rfl|rfl;simpa[u7]using this.1;simpa[u7]using this.2
  ·have I:J≠.eql∧J≠.neq:=⟨λe=>d (.inl e),λe=>d (.inr e)⟩;have O:∃x' y',aD P cr done x=some x'∧aD P cr done y=some y'∧T=.ib J x' y':=by
    cases J<;>first
     |exact cj rfl I.1
     |exact cj rfl I.2
     |(simp only at h
       let⟨x',A,h⟩:=cq h;let⟨y',hy,h⟩:=cq h;exact⟨x',y',A,hy,(dZ h).symm⟩)
   obtain⟨x',y',A,hy,rfl⟩:=O;let⟨B,_⟩:=D9 s A;let⟨E,_⟩:=D9 s hy;by_cases Z:J=.shl;subst Z;refine⟨(Mr (P:=P) (ι:=ι) F t default).2,vg (λw=>qy ZZ ZZ) (λw=>by rw[B,E];exact(Mr (n:=n) F t w).1)⟩;by_cases a0:J=.shr;subst a0;refine⟨(Ms (P:=P) (ι:=ι) F t default).2,vg (λw=>qy ZZ ZZ) (λw=>by rw[B,E];exact(Ms (n:=n) F t w).1)⟩;have F:Bb (Og J) (Oh J) (J6 x' ls env) (J6 y' ls env)=some v:=by cases J<;>first|exact cj rfl Z|exact cj rfl a0|exact F
   exact⟨(wz (P:=P) (ι:=ι) Z a0 F t default).2,vg (λw=>qy I.1 I.2) (λw=>by rw[B,E];exact(wz (n:=n) Z a0 F t w).1)⟩
 |unOp J t x=>
  have O:∃x',aD P cr done x=some x'∧(J=.not∧T=.not x'∨J=.neg∧T=.neg x'):=by
   simp only[jT]at h;cases J<;>simp only at h<;>first
    |(cases h;done)
    |(let⟨x',A,h⟩:=cq h
      exact⟨x',A,by simp[dZ h]⟩)
  let⟨x',A,O⟩:=O;let⟨B,_⟩:=D9 s A;rcases O with⟨rfl,rfl⟩|⟨rfl,rfl⟩;let⟨b,d,D⟩:=uY F;have d:J6 x' ls env=.bool b:=d;cases D;exact⟨by simp[j5.lt],λo C w=>by simp[execOp,C,B,d,u7,Op.unary]⟩;let⟨k,m,d,D⟩:=oU F;have d:J6 x' ls env=.int k m:=d;cases D;exact⟨by simp[j5.lt],λo C w=>by simp[execOp,C,B,d,u7,Op.unary,Op.intArith,yR]⟩
 |convert src dst x=>
  simp only[jT]at h;let⟨us,ae,h⟩:=cq h;let⟨ud,ad,h⟩:=cq h;have O:∃x',aD P cr done x=some x'∧∃j k,us=.int j∧ud=.int k∧T=.conv k x':=by split at h;let⟨x',A,h⟩:=cq h;exact⟨x',A,_,_,rfl,rfl,(dZ h).symm⟩;let⟨ue,_,h⟩:=cq h;split at h;let⟨x',A,h⟩:=cq h;cases h;cases h;let⟨ue,_,h⟩:=cq h;split at h;let⟨x',A,h⟩:=cq h;cases h;cases h;cases h
  obtain⟨x',A,j,k,rfl,rfl,rfl⟩:=O;let⟨B,E⟩:=D9 s A;let⟨k',m,d,D⟩:=oU F;have d:J6 x' ls env=.int k' m:=d;cases D;exact⟨by simp[j5.lt],λo C w=>by simp[execOp,C,convert,cC ae,cC ad,B,d,u7,Conv.intToInt,yR]⟩
 |makeInterface t x=>
  simp only[jT]at h;let⟨u,K,h⟩:=cq h;have O:∃x',aD P cr done x=some x'∧T=.mkIface t x'∧∀ms,u≠.interface ms:=by split at h;cases h;rename_i I;let⟨x',A,h⟩:=cq h;exact⟨x',A,(dZ h).symm,λms e=>I ms e⟩
  obtain⟨x',A,rfl,I⟩:=O;let⟨B,E⟩:=D9 s A;cases F;refine⟨by simpa[j5.lt]using E,λo C w=>?_⟩;simp only[execOp,C,Instr.makeInterface,wu,cC K,nM,B];cases u<;>first|exact cj rfl (I _)|simp[u7]
 |typeAssert x xt t ok=>
  simp only[jT]at h;let⟨u,K,h⟩:=cq h;have O:∃z x',zeroV P t=some z∧aD P cr done x=some x'∧T=.assert t z ok x'∧∀ms,u≠.interface ms:=by split at h;cases h;rename_i I;let⟨z,hz,h⟩:=cq h;let⟨x',A,h⟩:=cq h;exact⟨z,x',hz,A,(dZ h).symm,λms e=>I ms e⟩
  obtain⟨z,x',hz,A,rfl,I⟩:=O;let⟨B,E⟩:=D9 s A;have G:WI t z ok (J6 x' ls env)=some v:=F;clear F;generalize J6 x' ls env=y at *;cases y with
  |nilIface=>
   cases ok with
   |false=>cases G
   |true=>have G:some (j5.tuple [z,.bool false])=some v:=G;cases G;refine⟨⟨(uX (w:=default) hz ι).2 n,trivial,trivial⟩,λo C w=>?_⟩;have a7:=(uX (w:=w) hz ι).1;simp only[execOp,C,Instr.typeAssert,wu,cC K,nM,B,u7];cases u<;>first|exact cj rfl (I _)|simp[a7,A9,u7]
  |iface t' y=>
   have G:bi (beq t' t) (some (bi ok (.tuple [y,.bool true]) y)) (bi ok (some (.tuple [z,.bool false])) none)=some v:=G;cases hb:beq t' t with
   |true=>
    have he:=nA hb;rw[hb]at G;have G:some (bi ok (.tuple [y,.bool true]) y)=some v:=G;cases ok with
    |false=>have G:some y=some v:=G;cases G;refine⟨E,λo C w=>?_⟩;simp only[execOp,C,Instr.typeAssert,wu,cC K,nM,B,u7];cases u<;>first|exact cj rfl (I _)|simp[he]
    |true=>have G:some (j5.tuple [y,.bool true])=some v:=G;cases G;refine⟨⟨E,trivial,trivial⟩,λo C w=>?_⟩;simp only[execOp,C,Instr.typeAssert,wu,cC K,nM,B,u7];cases u<;>first|exact cj rfl (I _)|simp[he,A9,u7]
   |false=>
    have he:t'≠t:=Nat.ne_of_beq_eq_false hb;rw[hb]at G;cases ok with
    |false=>cases G
    |true=>have G:some (j5.tuple [z,.bool false])=some v:=G;cases G;refine⟨⟨(uX (w:=default) hz ι).2 n,trivial,trivial⟩,λo C w=>?_⟩;have a7:=(uX (w:=w) hz ι).1;simp only[execOp,C,Instr.typeAssert,wu,cC K,nM,B,u7];cases u<;>first|exact cj rfl (I _)|simp[a7,he,A9,u7]
  |_=>cases G
 |makeFunc fn f c=>
  simp only[jT]at h;have O:∃g f' c',fn=.func g∧mF P cr done f.toList=some f'∧mF P cr done c.toList=some c'∧T=.mkFunc (.func g) f' c':=by split at h;let⟨f',hf,h⟩:=cq h;let⟨c',hc,h⟩:=cq h;exact⟨_,f',c',rfl,hf,hc,(dZ h).symm⟩;cases h
  obtain⟨g,f',c',rfl,hf,hc,rfl⟩:=O;cases F;let⟨B,E⟩:=oG s hf;let⟨U,e4⟩:=oG s hc;refine⟨⟨trivial,E,e4⟩,λo C w=>?_⟩;have q1:f.map a.eval=(A9 ι (evs (jD f') ls env)).toArray:=by apply axI.1;rw[axC];exact B
  have q2:c.map a.eval=(A9 ι (evs (jD c') ls env)).toArray:=by apply axI.1;rw[axC];exact U
  simp[execOp,C,Instr.makeFunc,q1,q2,u7,lV]
 |slice t x lo hi mx=>
  simp only[jT]at h;cases mx with
  |some _=>simp at h
  |none=>
  simp only at h;let⟨u,K,h⟩:=cq h;split at h;let⟨x',A,h⟩:=cq h;let⟨aa,a3,h⟩:=cq h;let⟨a8,a2,h⟩:=cq h;obtain rfl:=dZ h;let⟨B,E⟩:=D9 s A;let⟨str,d,D⟩:=sU F;have d:J6 x' ls env=.str str:=d;let⟨l,h,H,_,_,Q⟩:=wD s a3 a2 D;let⟨X,H⟩:=K4 H;let⟨Y,H⟩:=K4 H;let⟨r,h5,h6⟩:=D7 H;cases h6;have X:=D5 X;have Y:=D5 Y;simp only[K7,fC]at *;obtain⟨rfl,_⟩:=oF _ _ _ h5;refine⟨by simp[j5.lt],λo C w=>?_⟩;simp only[execOp,C,Instr.sliceAt,wu,cC K,nM,Instr.slice,B,d,u7];simp only[awh,Option.isSome_none,agY,if_false,wu,uZ,aa2,nM];rw[Q false str.length str.length w rfl X Y];simp only[nM,aa2];congr 3;apply ByteArray.ext;simp[ByteArray.data_extract,awi];let⟨es,_,h⟩:=cq h;let⟨x',A,h⟩:=cq h;let⟨aa,a3,h⟩:=cq h;let⟨a8,a2,h⟩:=cq h;cases h;rename_i n' e';let⟨es,S,h⟩:=cq h;let⟨x',A,h⟩:=cq h;let⟨aa,a3,h⟩:=cq h;let⟨a8,a2,h⟩:=cq h;obtain rfl:=dZ h;let⟨B,E⟩:=D9 s A;let⟨i,o,d,D⟩:=lS F;have d:J6 x' ls env=.ptr i o:=d;rw[d]at B E;let⟨l,h,H,_,_,Q⟩:=wD s a3 a2 D;let⟨X,H⟩:=K4 H;let⟨Y,H⟩:=K4 H;cases H;have X:=D5 X;have Y:=D5 Y;refine⟨E,λJ C w=>?_⟩;simp only[execOp,C,Instr.sliceAt,wu,cC K,nM,B,u7,Instr.sureAddr,aa2,awh];rw[Q false _ _ w rfl X Y];simp only[nM,wu,run_sizeOf S,aa2];rw[yV,Q0.rO];by_cases hl:n'=l;rw[cg hl,cg hl.symm];rfl;rw[aE hl,aE (λe=>hl e.symm)];rfl;cases h
 |fieldAddr t x f=>
  simp only[jT]at h;let⟨u,K,h⟩:=cq h;have O:∃fs W x' V,u=.struct fs∧fs[f]?=some W∧gV P W.type=some V∧V≠0∧aD P cr done x=some x'∧T=.fAddr W.offset x':=by split at h;let⟨W,hf,h⟩:=cq h;let⟨V,R,h⟩:=cq h;split at h;cases h;let⟨x',A,h⟩:=cq h;exact⟨_,W,x',V,rfl,hf,R,by assumption,A,(dZ h).symm⟩;cases h
  obtain⟨fs,W,x',V,rfl,hf,R,I,A,rfl⟩:=O;let⟨B,E⟩:=D9 s A;let⟨i,o,d,D⟩:=lS F;have d:J6 x' ls env=.ptr i o:=d;cases D;rw[d]at B E;refine⟨E,λJ C w=>?_⟩;simp only[execOp,C,Instr.fieldAt,wu,cC K,nM,hf,B,u7,Instr.sureAddr,aa2,fieldPlace,run_sizeOf R,aE I,Q0.rO];rfl
 |field t x f=>
  simp only[jT]at h;let⟨u,K,h⟩:=cq h;have O:∃fs W x' V,u=.struct fs∧fs[f]?=some W∧partT P W.type=some V∧aD P cr done x=some x'∧T=.fld W.offset V x':=by split at h;let⟨W,hf,h⟩:=cq h;let⟨V,R,h⟩:=cq h;let⟨x',A,h⟩:=cq h;exact⟨_,W,x',V,rfl,hf,R,A,(dZ h).symm⟩;cases h
  obtain⟨fs,W,x',V,rfl,hf,R,A,rfl⟩:=O;let⟨B,E⟩:=D9 s A;have a5:∃l,J6 x' ls env=.agg l∧Du V l W.offset=some v:=by
   cases V with
   |none=>let⟨l,d,D⟩:=jV F;exact⟨l,d,by simpa[Du]using D⟩
   |some k=>let⟨l,d,D⟩:=jV F;exact⟨l,d,by simpa[Du]using D⟩
  let⟨l,d,D⟩:=a5;rw[d]at B E;let⟨X,Y⟩:=Jo (ι:=ι) R (show fD n l from E) W.offset D;refine⟨X,λJ C w=>?_⟩;simp[execOp,C,Instr.field,cC K,hf,B,u7,asAgg,Y]
 |indexAddr t x i=>simp only[jT]at h;let⟨u,K,h⟩:=cq h;split at h;let⟨es,S,h⟩:=cq h;let⟨x',A,h⟩:=cq h;let⟨i',hi,h⟩:=cq h;obtain rfl:=dZ h;let⟨B,E⟩:=D9 s A;let⟨U,_⟩:=D9 s hi;rcases yS F with⟨_,D⟩|⟨id,off,N,cap,d,D⟩|⟨id,off,N,es',d,D⟩;cases D;let⟨k,m,H,M,Q⟩:=idx_eq D;cases Q;have d:J6 x' ls env=.slice id off N cap:=d;have H:J6 i' ls env=.int k (m:Int):=H;rw[d]at B E;refine⟨E,λJ C w=>?_⟩;simp only[execOp,C,wu,B,U,H,u7,Bp K S _ _ _ _ _ M,Q0.rO,nM,aa2];rfl;let⟨k,m,H,M,Q⟩:=idx_eq D;cases Q;have d:J6 x' ls env=.sliceU id off N es':=d;have H:J6 i' ls env=.int k (m:Int):=H;rw[d]at B E;refine⟨E.1,λJ C w=>?_⟩;simp only[execOp,C,wu,B,U,H,u7,Bp K S _ _ _ _ _ M,Q0.rO,nM,aa2];rfl;let⟨es,S,h⟩:=cq h;let⟨x',A,h⟩:=cq h;let⟨i',hi,h⟩:=cq h;obtain rfl:=dZ h;let⟨B,E⟩:=D9 s A;let⟨U,_⟩:=D9 s hi;let⟨id,off,d,D⟩:=lS F;let⟨k,m,H,M,Q⟩:=idx_eq D;cases Q;have d:J6 x' ls env=.ptr id off:=d;have H:J6 i' ls env=.int k (m:Int):=H;rw[d]at B E;refine⟨E,λJ C w=>?_⟩;simp only[execOp,C,wu,B,U,H,u7,LM K S _ _ _ M,Q0.rO,nM,aa2];rfl;cases h
 |index t x i=>
  simp only[jT]at h;let⟨u,K,h⟩:=cq h;split at h;let⟨x',A,h⟩:=cq h;let⟨i',hi,h⟩:=cq h;obtain rfl:=dZ h;let⟨B,E⟩:=D9 s A;let⟨U,_⟩:=D9 s hi;let⟨str,d,D⟩:=sU F;let⟨k,m,H,Q⟩:=jm D;let⟨b,h5,h6⟩:=D7 Q;cases h6;have d:J6 x' ls env=.str str:=d;have H:J6 i' ls env=.int k (m:Int):=H;rw[nu]at h5;refine⟨by simp[j5.lt],λJ C w=>?_⟩;let⟨M,hb⟩:=gB.1 h5;have a9:(⟨str.toArray⟩:ByteArray)[m]?=some b:=by rw[ByteArray.getElem?_lt' _ _ (by rw[uZ];exact M)];congr 1
  simp only[execOp,C,Instr.index,wu,cC K,B,d,U,H,u7,asIntOf,aa2,nM];rw[cg (Int.natCast_nonneg m),axw,a9];rfl;rename_i N ag;let⟨es,S,h⟩:=cq h;let⟨V,R,h⟩:=cq h;let⟨x',A,h⟩:=cq h;let⟨i',hi,h⟩:=cq h;obtain rfl:=dZ h;let⟨B,E⟩:=D9 s A;let⟨U,_⟩:=D9 s hi;have a5:∃l k,∃m:Nat,J6 x' ls env=.agg l∧J6 i' ls env=.int k (m:Int)∧m<N∧Du V l (m*es)=some v:=by
   cases V with
   |none=>let⟨l,d,D⟩:=jV F;let⟨k,m,H,M,Q⟩:=idx_eq D;exact⟨l,k,m,d,H,M,by simpa[Du]using Q⟩
   |some k=>let⟨l,d,D⟩:=jV F;let⟨k',m,H,M,Q⟩:=idx_eq D;exact⟨l,k',m,d,H,M,by simpa[Du]using Q⟩
  let⟨l,k,m,d,H,M,D⟩:=a5;rw[d]at B E;let⟨X,Y⟩:=Jo (ι:=ι) R (show fD n l from E) (m*es) D;refine⟨X,λJ C w=>?_⟩;simp[execOp,C,Instr.index,cC K,run_sizeOf S,B,U,H,u7,asIntOf,M,Y];cases h
 |extract x i=>simp only[jT]at h;let⟨x',A,h⟩:=cq h;obtain rfl:=dZ h;let⟨B,E⟩:=D9 s A;let⟨l,d,D⟩:=adx F;have d:J6 x' ls env=.tuple l:=d;rw[nu]at D;rw[d]at B E;refine⟨aj (show fD n l from E) (O5 D),λJ C w=>?_⟩;simp[execOp,C,Instr.extract,B,u7,eU,D]
 |call c=>
  let⟨a1,a4,ts⟩:=c;simp only[jT]at h;cases a1 with
  |invoke _ _=>cases h
  |value f=>
   cases f with
   |func f=>let⟨fn,_,h⟩:=cq h;split at h;let⟨os,_,h⟩:=cq h;cases h;cases h
   |_=>let⟨x',_,h⟩:=cq h;let⟨os,_,h⟩:=cq h;cases h
  |builtin b=>
   let⟨a4⟩:=a4;let⟨ts⟩:=ts;simp only[yN]at h;split at h
   ·
    rename_i t x;let⟨u,K,h⟩:=cq h;have O:∃x',(aD P cr done x=some x'∧u=.string∧T=.lenS x')∨(aD P cr done x=some x'∧(∃e,u=.slice e)∧T=.len x')∨∃k e,u=.array k e∧T=.mov (.con (.int .i64 k)):=by split at h;let⟨x',A,h⟩:=cq h;exact⟨x',.inl ⟨A,rfl,(dZ h).symm⟩⟩;let⟨x',A,h⟩:=cq h;exact⟨x',.inr (.inl ⟨A,⟨_,rfl⟩,(dZ h).symm⟩)⟩;exact⟨default,.inr (.inr ⟨_,_,rfl,(dZ h).symm⟩)⟩;let⟨x',A,h⟩:=cq h;cases h;cases h
    obtain⟨x',⟨A,rfl,rfl⟩|⟨A,⟨e,rfl⟩,rfl⟩|⟨k,e,rfl,rfl⟩⟩:=O;let⟨B,_⟩:=D9 s A;let⟨str,d,D⟩:=sU F;have d:J6 x' ls env=.str str:=d;cases D;exact⟨by simp[j5.lt],λo C w=>by simp[execOp,C,resolve,invoke,builtin,Builtin.len_,cC K,B,d,u7,goInt,uZ]⟩;let⟨B,_⟩:=D9 s A;rcases yS F with⟨d,D⟩|⟨id,off,N,cap,d,D⟩|⟨id,off,N,cap,d,D⟩;have d:J6 x' ls env=.nilSlice:=d;cases D;exact⟨by simp[j5.lt],λo C w=>by simp[execOp,C,resolve,invoke,builtin,Builtin.len_,cC K,B,d,u7,goInt]⟩;have d:J6 x' ls env=.slice id off N cap:=d;cases D;exact⟨by simp[j5.lt],λo C w=>by simp[execOp,C,resolve,invoke,builtin,Builtin.len_,cC K,B,d,u7,goInt]⟩;have d:J6 x' ls env=.sliceU id off N cap:=d;cases D;exact⟨by simp[j5.lt],λo C w=>by simp[execOp,C,resolve,invoke,builtin,Builtin.len_,cC K,B,d,u7,goInt]⟩;cases F;refine⟨by simp[J6,bO,j5.lt],λo C w=>?_⟩;simp[execOp,C,resolve,invoke,builtin,Builtin.len_,cC K,J6,bO,u7,goInt]
   ·
    rename_i t x;let⟨u,K,h⟩:=cq h;split at h;let⟨x',A,h⟩:=cq h;obtain rfl:=dZ h;let⟨B,_⟩:=D9 s A;rcases yS F with⟨d,D⟩|⟨id,off,N,cap,d,D⟩|⟨_,_,_,_,_,D⟩;have d:J6 x' ls env=.nilSlice:=d;cases D;exact⟨by simp[j5.lt],λo C w=>by simp[execOp,C,resolve,invoke,builtin,Builtin.cap_,cC K,B,d,u7,goInt]⟩;have d:J6 x' ls env=.slice id off N cap:=d;cases D;exact⟨by simp[j5.lt],λo C w=>by simp[execOp,C,resolve,invoke,builtin,Builtin.cap_,cC K,B,d,u7,goInt]⟩;cases D;cases h
   let⟨u,K,h⟩:=cq h;split at h;let⟨_,_,h⟩:=cq h;let⟨_,_,h⟩:=cq h;let⟨_,_,h⟩:=cq h;let⟨_,_,h⟩:=cq h;let⟨_,_,h⟩:=cq h;let⟨_,_,h⟩:=cq h;cases h;cases h;let⟨u,K,h⟩:=cq h;split at h;let⟨_,_,h⟩:=cq h;let⟨_,_,h⟩:=cq h;let⟨_,_,h⟩:=cq h;cases h;cases h;let⟨u,K,h⟩:=cq h;split at h;let⟨_,_,h⟩:=cq h;let⟨_,_,h⟩:=cq h;cases h;cases h
   ·
    rename_i x xs;let⟨x',A,h⟩:=cq h;let⟨af,a6,h⟩:=cq h;obtain rfl:=dZ h;let⟨B,E⟩:=D9 s A;let⟨U,e4⟩:=oG s a6;let⟨X,Y⟩:=Ra (P:=P) (ι:=ι) true _ _ v e4 E F;refine⟨X,λo C w=>?_⟩;have:=Y w;simp only[if_true]at this;simp[execOp,C,resolve,invoke,builtin,Builtin.max_,B,U,this]
   rename_i x xs;let⟨x',A,h⟩:=cq h;let⟨af,a6,h⟩:=cq h;obtain rfl:=dZ h;let⟨B,E⟩:=D9 s A;let⟨U,e4⟩:=oG s a6;let⟨X,Y⟩:=Ra (P:=P) (ι:=ι) false _ _ v e4 E F;refine⟨X,λo C w=>?_⟩;have:=Y w;simp only[agY,if_false]at this;simp[execOp,C,resolve,invoke,builtin,Builtin.min_,B,U,this];cases h;cases h
 |alloc t=>simp only[jT]at h;let⟨_,_,h⟩:=cq h;cases h
 |box t x=>simp only[jT]at h;let⟨_,_,h⟩:=cq h;cases h
 |buildSlice t N parts=>simp only[jT]at h;let⟨_,_,h⟩:=cq h;split at h;let⟨_,_,h⟩:=cq h;let⟨_,_,h⟩:=cq h;split at h;let⟨_,_,h⟩:=cq h;cases h;cases h;cases h
 |insert t m k x=>simp only[jT]at h;let⟨_,_,h⟩:=cq h;split at h;let⟨_,_,h⟩:=cq h;let⟨_,_,h⟩:=cq h;let⟨_,_,h⟩:=cq h;let⟨_,_,h⟩:=cq h;cases h;cases h
 |mapUpdate t m k x=>simp only[jT]at h;let⟨_,_,h⟩:=cq h;split at h;let⟨_,_,h⟩:=cq h;let⟨_,_,h⟩:=cq h;let⟨_,_,h⟩:=cq h;let⟨_,_,h⟩:=cq h;cases h;cases h
 |load t x=>simp only[jT]at h;let⟨_,_,h⟩:=cq h;let⟨_,_,h⟩:=cq h;cases h
 |store t x y=>simp only[jT]at h;let⟨_,_,h⟩:=cq h;let⟨_,_,h⟩:=cq h;let⟨_,_,h⟩:=cq h;cases h
 |makeMap t r=>simp only[jT]at h;repeat' (first|(cases h;done)|split at h)
 |makeSlice t l c=>simp only[jT]at h;let⟨_,_,h⟩:=cq h;split at h;let⟨_,_,h⟩:=cq h;let⟨_,_,h⟩:=cq h;let⟨_,_,h⟩:=cq h;let⟨_,_,h⟩:=cq h;let⟨_,_,h⟩:=cq h;cases h;cases h
 |lookup t x k ok=>simp only[jT]at h;let⟨_,_,h⟩:=cq h;split at h;let⟨_,_,h⟩:=cq h;let⟨_,_,h⟩:=cq h;let⟨_,_,h⟩:=cq h;let⟨_,_,h⟩:=cq h;cases h;cases h
 |range t x=>simp only[jT]at h;let⟨_,_,h⟩:=cq h;split at h;let⟨_,_,h⟩:=cq h;cases h;cases h
 |next it is=>cases is;simp only[jT]at h;let⟨_,_,h⟩:=cq h;cases h;simp only[jT]at h;cases h
 |entry it=>simp only[jT]at h;let⟨_,_,h⟩:=cq h;cases h
 |panic x=>simp only[jT]at h;let⟨_,_,h⟩:=cq h;cases h
 |defer c=>simp only[jT]at h;split at h;let⟨_,_,h⟩:=cq h;let⟨_,_,h⟩:=cq h;cases h;cases h
 |_=>simp only[jT]at h;cases h
end
variable {off rs:Nat}{cF:T cM}
section
variable {P:cH}{G:cD}{ι:Q0}{m:cD}{w:cG}
def qY{b:Option Y9}{k:Nat->Nat->T cM->Option β}{r:β}(h:aY b k=some r):∃rs n cF,b=some (.cells rs n cF)∧k rs n cF=some r:=by
 match b,h with
 |some (.cells rs n cF),h=>exact⟨rs,n,cF,rfl,h⟩
def BU{b:Option Y9}{k:List (j5×j5)->Option β}{r:β}(h:ZT b k=some r):∃es,b=some (.map es)∧k es=some r:=by
 match b,h with
 |some (.map es),h=>exact⟨es,rfl,h⟩
def OH(d:RM P G ι m w.heap){id k:Nat}(b:m.get id=some (.cells rs k cF)){i j:Nat}(hi:i<k)(p:j<rs){row:cM}
   (q:cF.get i=some row) {v:j5} (f:row[j]?=some v):w.cell? (ι.at id (i*rs+j))=some (u7 ι v)∧v.lt (m.nm ι):=by
 let⟨c,e,r,n,t,u,o⟩:=d.blk id _ b;let⟨g,a,s,h,l⟩:=o i hi;rw[q]at a;cases a;have:=l j p;rw[f]at this;refine⟨?_,aj h (O5 f)⟩;simp only[World.cell?,Q0.at,n,d.spot id _ b rfl];simpa using this
def Uk{n:Nat}{v:j5}(h:cell1 rs n cF off=some v):
   off / rs<n∧∃row,cF.get (off / rs)=some row∧row[off%rs]?=some v:=by
 let⟨b,c⟩:=K4 h;let⟨row,d,a⟩:=D7 c;rw[nu]at a;exact⟨Eq.mp O8 b,row,d,a⟩
def Gy(j:RM P G ι m w.heap){id k:Nat}(i:m.get id=some (.cells rs k cF)){v:j5}(h:cell1 rs k cF off=some v):
   w.cell? (ι.at id off)=some (u7 ι v)∧v.lt (m.nm ι):=by
 let⟨d,p,f,g⟩:=Uk h;let⟨c,e,q,_,_,_,o⟩:=j.blk id _ i;let⟨l,b,n,_,_⟩:=o _ d;rw[f]at b;cases b;have a:off%rs<rs:=awH (gB.1 g).1 n;have:=OH j i d a f g
 rwa [show off / rs*rs+off%rs=off from by rw[ajr];exact awy off rs]at this
def rP(ι:Q0)(w:cG)(id off:Nat)(l:cM):Prop:=∀j v,l[j]?=some v->w.cell? (ι.at id (off+j))=some (u7 ι v)
def OI(s:RM P G ι m w.heap){id n k:Nat}(p:m.get id=some (.cells rs n cF)){l:cM}(h:qp rs n cF off k=some l):
   l.length=k∧fD (m.nm ι) l∧rP ι w id off l:=by
 let⟨f,z⟩:=K4 h;let⟨row,g,a⟩:=D7 z;have f:off / rs<n:=Eq.mp O8 f;let⟨c,e,C,_,_,_,A⟩:=s.blk id _ p;let⟨u,o,x,y,_⟩:=A _ f;have g:cF.get (off / rs)=some row:=g;rw[g]at o;cases o;have i:l=(row.drop (off%rs)).take k∧(off%rs+k<=rs∨k=0):=by have b:Nat.mod off rs=off%rs:=rfl;rw[b]at a;rw[yV]at a;split at a;rename_i t;rw[yV]at a;split at a;rename_i q;have e:row=l:=rW a;rw[t,q,← e];refine⟨?_,Zs⟩;rw[W9,← x,arO];let⟨e,r⟩:=oF _ _ _ a;rw[t];exact⟨by rw[W9];exact e,Zs⟩;let⟨e,r⟩:=oF _ _ _ a;simp only[fC,asa]at r e;exact⟨e,Zs⟩
 obtain⟨rfl,q⟩:=i;refine⟨ZD,gK.2 λv d=>aj y (ahh (adn d)),λj v d=>?_⟩;have B:j<k:=by have:=(gB.1 d).1;simp at this;omega
 rw[ahO,cg B,akv]at d;have:=(OH s p f (show off%rs+j<rs by omega) g d).1
 rwa [show off / rs*rs+(off%rs+j)=off+j from by have:=awy off rs;rw[ajr]at this;omega]at this
def LP(rs n:Nat)(cF:T cM)(off:Nat):J7 rs n cF 0 off=some []:=rfl
def LQ(rs n:Nat)(cF:T cM)(k off:Nat):J7 rs n cF (k+1) off=ob (cell1 rs n cF off) λv=>ob (J7 rs n cF k (off+1)) λl=>some (v::l):=rfl
def yX(p:RM P G ι m w.heap){id n:Nat}(o:m.get id=some (.cells rs n cF)):
   ∀(k off:Nat) (l:cM),J7 rs n cF k off=some l->l.length=k∧fD (m.nm ι) l∧rP ι w id off l:=by
 intro k;induction k with
 |zero=>intro off l h;rw[LP]at h;cases h;exact⟨rfl,trivial,λj v q=>by simp at q⟩
 |succ k ih=>
  intro off l h;rw[LQ]at h;let⟨v,g,h⟩:=D7 h;let⟨r,i,h⟩:=D7 h;cases h;let⟨b,c⟩:=Gy p o g;let⟨d,e,f⟩:=ih _ _ i;refine⟨by simp[d],⟨c,e⟩,λj u a=>?_⟩;cases j with
  |zero=>simp at a;subst a;exact b
  |succ j=>rw[show off+(j+1)=off+1+j from by omega];exact f j u (by simpa using a)
def nC(e:RM P G ι m w.heap){id k:Nat}{l:cM}(h:Z6 m id off k=some l):
   l.length=k∧fD (m.nm ι) l∧rP ι w id off l:=by
 cases k with
 |zero=>cases h;exact⟨rfl,trivial,λj v f=>by simp at f⟩
 |succ k=>have h:aY (m.get id) (λb n a=>J7 b n a (k+1) off)=some l:=h;let⟨b,n,a,c,d⟩:=qY h;exact yX e c _ _ _ d
def Rb{a:Addr}{v:Value}(h:w.cell? a=some v):(load a).run P w=.ok v w:=by simp[h]
def Dv{id:Nat}:∀(l:cM) (i:Nat) (acc:Array Value),(∀j v,l[j]?=some v->w.cell? (ι.at id (off+(i+j)))=some (u7 ι v))->
   (loadCellsFrom (ι.at id off) i l.length acc).run P w=.ok (acc++(A9 ι l).toArray) w:=by
 intro l;induction l with
 |nil=>intro i acc _;simp[loadCellsFrom,A9]
 |cons v l ih=>intro i acc h;have a:w.cell? (ι.at id (off+i))=some (u7 ι v):=h 0 v rfl;simp only[aa5,loadCellsFrom,wu,Q0.rO];rw[Rb a,nM,ih (i+1) _ (λj u b=>by rw[show i+1+j=i+(j+1)from by omega];exact h (j+1) u (by simpa using b))];simp[A9]
def uy{id:Nat}{l:cM}(h:rP ι w id off l):(loadCells (ι.at id off) l.length).run P w=.ok (A9 ι l).toArray w:=by have:=Dv (P:=P) (ι:=ι) (w:=w) (id:=id) (off:=off) l 0 #[] (λj v a=>by simpa using h j v a);simpa[loadCells]using this
def nD{id len cap es n:Nat}{l:cM}(a:l.length=n*es)(h:rP ι w id off l):
   (Builtin.firstCells es n (.slice (some (ι.at id off)) len cap)).run P w=.ok (A9 ι l).toArray w:=by
 simp only[Builtin.firstCells];rw[← a];exact uy h
end
section
variable {P:cH}{G:cD}{ι:Q0}{m:cD}{w:cG}{cr:cR}{done:List (Option Nat)}{ls:cM}{env:T j5}{a:Act}
def Bq{t:cI}{e:Option Nat}(j:partT P t=some e)(d:RM P G ι m w.heap){id:Nat}{v:j5}
   (o:aY (m.get id) (λrs n cF=>match e with|none=>cell1 rs n cF off|some k=>ob (qp rs n cF off k) λl=>some (.agg l))=some v):
   (loadVar t (ι.at id off)).run P w=.ok (u7 ι v) w∧v.lt (m.nm ι):=by
 let⟨rs,n,cF,c,h⟩:=qY o;rcases Jj j with⟨rfl,ha,k,hk⟩|⟨k,rfl,ha,hk⟩;let⟨a,b⟩:=Gy d c h;exact⟨by simp[loadVar,uW ha,a],b⟩;let⟨l,a,b⟩:=D7 h;cases b;let⟨f,g,i⟩:=OI d c a;refine⟨?_,g⟩;have:=uy (P:=P) i;rw[f]at this;simp[loadVar,uW ha,run_sizeOf hk,this,u7]
def jK{t:cI}(h:P.underlying t=some .bool∨(∃k,P.underlying t=some (.int k))∨P.underlying t=some .string)(e:Bool)(d:Nat)(v:Value)(w:cG):
   (Instr.checkKey e (d+1) t v).run P w=.ok () w:=by
 rcases h with h|⟨k,h⟩|h<;>simp[Instr.checkKey,cC h]
def sZ(e:Bool)(d:Nat)(X:Array Value):List Field->Sem Unit
 |[]=>pure ()
 |f::l=>do
  if f.name≠ "_" then Instr.checkKey e d f.type (← part f.type X f.offset)
  sZ e d X l
def Ul(e:Bool)(d:Nat)(X:Array Value)(l:List Field):
   (forIn l PUnit.unit λf _=>do
     if f.name≠ "_" then Instr.checkKey e d f.type (← part f.type X f.offset)
     pure (ForInStep.yield PUnit.unit):Sem PUnit)=sZ e d X l:=by
 induction l with
 |nil=>simp[sZ]
 | cons f l ih=>rw [axe];simp only [sZ];rw [← ih];by_cases hf:f.name= "_";simp [hf];simp [hf]
def Ia{t:cI}{a:Array Field}(h:P.underlying t=some (.struct a))(e:Bool)(d:Nat)(X:Array Value)(w:cG):
   (Instr.checkKey e (d+1) t (.agg X)).run P w=(sZ e d X a.toList).run P w:=by
 simp only[Instr.checkKey,wu,cC h,nM];rw[← axj,← Ul];generalize (forIn a.toList PUnit.unit _:Sem PUnit)=r;simp;cases r.run P w<;>rfl
def Um:∀(d:Nat) (t:cI) (ks:List PK),jl P d t=some ks->∃agg,Bd P t=some agg∧gV P t=some ks.length∧(agg=false->ks.length=1)∧
   ∀D,d<=D->∀(l:cM),ks.length<=l.length->∀(e:Bool) w,(Instr.checkKey e D t (mkV ι agg l)).run P w=.ok () w:=by
 intro d;induction d with
 |zero=>intro t ks h;simp[jl]at h
 |succ d ih=>
  intro t ks h;let⟨agg,k,i,n,_⟩:=Mt (P:=P) (ι:=ι) (d+1) t ks h;refine⟨agg,k,i,n,λD s l v e w=>?_⟩;obtain⟨D,rfl⟩:∃D',D=D'+1:=⟨D-1,Zs⟩;simp only[jl]at h;cases hu:P.underlying t with
  |none=>simp[hu]at h
  |some u=>
   rw[hu]at h;cases u<;>try (simp at h;done)
   exact jK (.inl hu) e D _ w;exact jK (.inr (.inl ⟨_,hu⟩)) e D _ w;exact jK (.inr (.inr hu)) e D _ w;rename_i p;rw[sV hu]at k;cases k;simp only at h;cases hf:rH (jl P d) p.toList 0 with
   |none=>simp[hf]at h
   |some ks'=>
    simp only[hf]at h;split at h;rename_i x;cases h;simp only[mkV,if_true];rw[Ia hu];have o:∀(j:List Field) (c:Nat) (a:List PK),c+a.length<=l.length->rH (jl P d) j c=some a->
      (sZ e D (A9 ι l).toArray j).run P w=.ok () w:=by
     intro j;induction j with
     |nil=>intro c a _ _;simp[sZ]
     |cons f j ihl=>
      intro c a m b;simp only[rH]at b;split at b;rename_i q;cases hk:jl P d f.type with
      |none=>simp[hk]at b
      |some kf=>
       simp only[hk]at b;cases hrest:rH (jl P d) j (c+kf.length)with
       |none=>simp[hrest]at b
       |some kr=>
        simp only[hrest,iE]at b;subst b;simp only[aaf]at m;let⟨agg,k,i,n,r⟩:=ih f.type kf hk;simp only[sZ,cg q.1,wu];rw[q.2,yT k i _ _ (λg=>⟨by have:=n g;omega,n g⟩),nM,
         r D Zs _ ZD e w,nM]
        exact ihl (c+kf.length) kr Zs hrest
      cases b
    exact o p.toList 0 _ Zs hf;cases h
end
variable {r:Option (Nat×j5)}
section
variable {P:cH}{G:cD}{ι:Q0}
def Mx{t:cI}{k:Ig}(h:Dj P t=some k):eqT P false t=some k∧((∃j,k=.prim j)∨∃ks,k=.flat ks):=by simp only[Dj]at h;split at h;cases h;exact⟨by assumption,.inl ⟨_,rfl⟩⟩;cases h;exact⟨by assumption,.inr ⟨_,rfl⟩⟩;cases h
def T9(f:IL)(k:j5)(i:Nat):findKey f k [] i=some none:=rfl
def Q6(f:IL)(k:j5)(e:j5×j5)(es:List (j5×j5))(i:Nat):
   findKey f k (e::es) i=ob (f k e.1) λb=>bi b (some (some (i,e.2))) (findKey f k es (i+1)):=rfl
def xH(ι:Q0)(r:Option (Nat×j5)):Option (Nat×Value):=r.map λp=>(p.1,u7 ι p.2)
def Br{f:IL}{d:TypeDesc}(hs:∀x y r,f x y=some r->Instr.sameNow d (u7 ι x) (u7 ι y)=some r)(k:j5):
   ∀(es:List (j5×j5)) (i j:Nat) (r:Option (Nat×j5)),findKey f k es i=some r->Instr.findNow d (u7 ι k) (L8 ι es j) i=some (xH ι r)
 |[],i,j,r,h=>by rw[T9]at h;cases h;rfl
 |e::es,i,j,r,h=>by
  rw[Q6]at h;let⟨b,h1,h2⟩:=D7 h;simp only[L8,Instr.findNow,hs _ _ _ h1];cases b with
  |true=>cases h2;rfl
  |false=>exact Br hs k es (i+1) (j+1) r h2
def vk{f:IL}{t:cI}(hs:∀x y r,f x y=some r->∀w,(Op.equal t (u7 ι x) (u7 ι y)).run P w=.ok r w)(k:j5)(w:cG):
   ∀(es:List (j5×j5)) (i j:Nat) (r:Option (Nat×j5)),findKey f k es i=some r->(Instr.findAsking t (u7 ι k) (L8 ι es j) i).run P w=.ok (xH ι r) w
 |[],i,j,r,h=>by rw[T9]at h;cases h;simp[L8,Instr.findAsking,xH]
 |e::es,i,j,r,h=>by
  rw[Q6]at h;let⟨b,h1,h2⟩:=D7 h;simp only[L8,Instr.findAsking,wu,hs _ _ _ h1 w,nM];cases b with
  |true=>cases h2;simp[xH]
  |false=>simpa using vk hs k w es (i+1) (j+1) r h2
def Dw{f:IL}{n:Nat}{k:j5}{es:List (j5×j5)}(h:gD f n k es=some r):
   k.cells.length=n∧(∃y b,f k y=some b)∧findKey f k es 0=some r:=by
 let⟨a,h⟩:=K4 h;have a:=nA a;rw[K7]at a;refine⟨a,?_⟩;cases es with
 |nil=>let⟨b,c,d⟩:=D7 (show ob (f k k) (λ_=>some none)=some r from h);exact⟨⟨_,_,c⟩,by rw[T9];exact d⟩
 |cons e es=>have h:findKey f k (e::es) 0=some r:=h;refine⟨?_,h⟩;rw[Q6]at h;let⟨b,c,_⟩:=D7 h;exact⟨_,_,c⟩
def Fh{kk:Ig}{t:cI}(d:Dj P t=some kk):
   (kk=.prim .b∧P.underlying t=some .bool)∨(∃k,kk=.prim .i∧P.underlying t=some (.int k))∨(kk=.prim .s∧P.underlying t=some .string)∨
   ∃fs ks,kk=.flat ks∧P.underlying t=some (.struct fs)∧jl P 10 t=some ks:=by
 let⟨a,c⟩:=Mx d;simp only[eqT]at a;cases hu:P.underlying t with
 |none=>simp[hu]at a
 |some u=>
  rw[hu]at a;cases u<;>try (simp at a;done)
  simp only[iE]at a;subst a;simp;simp only[iE]at a;subst a;simp;simp only[iE]at a;subst a;simp;simp only[iE]at a;subst a;rcases c with⟨_,c⟩|⟨_,c⟩<;>cases c
  simp only[iE]at a;subst a;rcases c with⟨_,c⟩|⟨_,c⟩<;>cases c
  simp only[iE]at a;subst a;rcases c with⟨_,c⟩|⟨_,c⟩<;>cases c
  rename_i fs;simp only at a;cases hf:jl P 10 t with
  |none=>simp[hf]at a
  |some ks=>simp only[hf]at a;split at a;cases a;exact .inr (.inr (.inr ⟨fs,ks,rfl,rfl,rfl⟩));cases a
  simp only[iE]at a;subst a;rcases c with⟨_,c⟩|⟨_,c⟩<;>cases c
def WL{kk:Ig}{t:cI}(f:Dj P t=some kk){k y:j5}{b:Bool}(hn:k.cells.length=Oj kk)(h:xO kk k y=some b)(e:Bool)(w:cG):
   (Instr.checkKey e 10000 t (u7 ι k)).run P w=.ok () w:=by
 rcases Fh f with⟨rfl,hu⟩|⟨_,rfl,hu⟩|⟨rfl,hu⟩|⟨fs,ks,rfl,hu,hf⟩;exact jK (.inl hu) e _ _ w;exact jK (.inr (.inl ⟨_,hu⟩)) e _ _ w;exact jK (.inr (.inr hu)) e _ _ w;obtain⟨l,rfl,_⟩:=jV h;let⟨c,a,_,_,d⟩:=Um (P:=P) (ι:=ι) 10 t ks hf;rw[sV hu]at a;cases a;have:=d 10000 ZS l (Nat.le_of_eq hn.symm) e w;simpa[mkV,u7]using this
def Yp{kk:Ig}{d:TypeDesc}(h:(kk=.prim .b∧d=.bool)∨(∃k,kk=.prim .i∧d=.int k)∨(kk=.prim .s∧d=.string))(x y:j5)(r:Bool)(c:xO kk x y=some r):
   Instr.sameNow d (u7 ι x) (u7 ι y)=some r:=by
 rcases h with⟨rfl,rfl⟩|⟨k,rfl,rfl⟩|⟨rfl,rfl⟩;obtain⟨a,b,rfl,rfl,rfl⟩:=mG c;simp[u7,Instr.sameNow];obtain⟨k,a,b,rfl,rfl,rfl⟩:=wB c;simp[u7,Instr.sameNow];obtain⟨a,b,rfl,rfl,rfl⟩:=wC c;simp[u7,Instr.sameNow,uw]
def Bt{kk:Ig}{t:cI}(f:Dj P t=some kk){k:j5}{es:List (j5×j5)}(h:findKey (xO kk) k es 0=some r)(w:cG):
   (Instr.findKey t (u7 ι k) (L8 ι es 0)).run P w=.ok (xH ι r) w:=by
 have a:∀d,P.underlying t=some d->((kk=.prim .b∧d=.bool)∨(∃k,kk=.prim .i∧d=.int k)∨(kk=.prim .s∧d=.string))->
   (Instr.findKey t (u7 ι k) (L8 ι es 0)).run P w=.ok (xH ι r) w:=by
  intro d c j;simp[Instr.findKey,cC c,Br (Yp j) k es 0 0 r h]
 rcases Fh f with⟨rfl,c⟩|⟨_,rfl,c⟩|⟨rfl,c⟩|⟨fs,ks,rfl,c,hf⟩;exact a _ c (.inl ⟨rfl,rfl⟩);exact a _ c (.inr (.inl ⟨_,rfl,rfl⟩));exact a _ c (.inr (.inr ⟨rfl,rfl⟩));have g:=vk (P:=P) (ι:=ι) (t:=t) (λx y r l w=>Gx (Mx f).1 l w) k w es 0 0 r h;cases es with
 |nil=>rw[T9]at h;cases h;simp[Instr.findKey,cC c,L8,Instr.findNow,xH]
 |cons e es=>simp only[Instr.findKey,wu,cC c,nM];simp only[L8,Instr.findNow,Instr.sameNow];exact g
def BX{f:IL}{k:j5}:∀{es:List (j5×j5)} {i:Nat} {p:Nat×j5},findKey f k es i=some (some p)->
   ∃j e,p.1=i+j∧es[j]?=some e∧e.2=p.2∧f k e.1=some true
 |[],i,p,h=>by rw[T9]at h;cases h
 |e::es,i,p,h=>by
  rw[Q6]at h;let⟨b,h1,h2⟩:=D7 h;cases b with
  |true=>cases h2;exact⟨0,e,rfl,rfl,rfl,h1⟩
  |false=>let⟨j,e',h3,h4,h5⟩:=BX h2;exact⟨j+1,e',Zs,by simpa using h4,h5⟩
end
section
variable {P:cH}{G:cD}{cr:cR}{done:List (Option Nat)}
inductive BZ(P:cH)(cr:cR)(done:List (Option Nat)):Op->TN->Prop
 |load {t x sz x'}:partT P t=some sz->aD P cr done x=some x'->BZ P cr done (.load t x) (.load sz x')
 |look {t kt e kk z ok x k x' k'}:P.underlying t=some (.map kt e)->Dj P kt=some kk->zeroV P e=some z->aD P cr done x=some x'->aD P cr done k=some k'->
  BZ P cr done (.lookup t x k ok) (.look kk z ok x' k')
 |lenM {c t kt e x x'}:c.callee=.builtin .len->c.argTypes.toList=[t]->c.args.toList=[x]->P.underlying t=some (.map kt e)->aD P cr done x=some x'->
  BZ P cr done (.call c) (.lenM x')
 |bytesStr {a b e x x'}:P.underlying a=some (.slice e)->P.underlying b=some .string->P.underlying e=some (.int .u8)->aD P cr done x=some x'->
  BZ P cr done (.convert a b x) (.bytesStr x')
 |entry {x x'}:aD P cr done x=some x'->BZ P cr done (.entry x) (.entry x')
set_option maxHeartbeats 1000000 in
def yY{j:Op}{ro:TN}(h:jT P cr done j=some (.r ro)):BZ P cr done j ro:=by
 cases j with
 |load t x=>let⟨A,e,h⟩:=cq h;let⟨g,d,h⟩:=cq h;cases h;exact .load e d
 |lookup t x k ok=>let⟨u,f,h⟩:=cq h;split at h;let⟨y,e,h⟩:=cq h;let⟨z,d,h⟩:=cq h;let⟨g,l,h⟩:=cq h;let⟨s,n,h⟩:=cq h;cases h;exact .look f e d l n;cases h
 |entry x=>let⟨g,d,h⟩:=cq h;cases h;exact .entry d
 |convert a b x=>let⟨u,f,h⟩:=cq h;let⟨v,p,h⟩:=cq h;split at h;let⟨_,_,h⟩:=cq h;cases h;let⟨_,_,h⟩:=cq h;split at h;let⟨_,_,h⟩:=cq h;cases h;cases h;let⟨w,q,h⟩:=cq h;split at h;let⟨g,i,h⟩:=cq h;cases h;exact .bytesStr f p q i;cases h;cases h
 |call c=>
  simp only[jT]at h;split at h
  ·rename_i b o;simp only[yN]at h;split at h;rename_i e d;let⟨u,f,h⟩:=cq h;split at h;let⟨_,_,h⟩:=cq h;cases h;let⟨_,_,h⟩:=cq h;cases h;cases h;let⟨g,i,h⟩:=cq h;cases h;exact .lenM o e d f i;cases h;all_goals (repeat' (first|(cases h;done)|(let⟨_,_,h⟩:=cq h)|split at h))
  let⟨_,_,h⟩:=cq h;split at h;let⟨_,_,h⟩:=cq h;cases h;cases h;let⟨_,_,h⟩:=cq h;let⟨_,_,h⟩:=cq h;cases h;cases h
 |build t parts=>simp only[jT,BO]at h;repeat' (first|(cases h;done)|split at h)
 |slice t x lo hi mx=>
  cases mx with
  |some m=>simp only[jT]at h;cases h
  |none=>simp only[jT]at h;repeat' (first|(cases h;done)|(let⟨_,_,h⟩:=cq h)|split at h)
 |next it str=>
  cases str with
  |true=>simp only[jT]at h;cases h
  |false=>simp only[jT]at h;let⟨_,_,h⟩:=cq h;cases h
 |_=>simp only[jT]at h;repeat' (first|(cases h;done)|(let⟨_,_,h⟩:=cq h)|split at h)
inductive uz(P:cH)(cr:cR)(done:List (Option Nat)):Op->Yf->Prop
 |alloc {t z}:uT P t=some z->uz P cr done (.alloc t) (.alloc z)
 |box {t x x'}:aD P cr done x=some x'->uz P cr done (.box t x) (.box x')
 |buildSlice {t len parts e es ps z}:P.underlying t=some (.slice e)->gV P e=some es->yM P cr done (λi=>some (i*es,es)) parts.toList=some ps->len*es<=16777216->
  uT P e=some z->uz P cr done (.buildSlice t len parts) (.buildSlice es len z ps)
 |mkMap {t}:uz P cr done (.makeMap t none) .mkMap
 |mkMapN {t k n kt e}:P.underlying t=some (.map kt e)->uz P cr done (.makeMap t (some (.const (.int k n)))) .mkMap
 |mkSlice {t l c e es by' z l' c'}:P.underlying t=some (.slice e)->gV P e=some es->lG P e=some by'->QK P e=some z->aD P cr done l=some l'->aD P cr done c=some c'->
  uz P cr done (.makeSlice t l c) (.mkSlice es by' z l' c')
 |strBytes {a b e x x'}:P.underlying a=some .string->P.underlying b=some (.slice e)->P.underlying e=some (.int .u8)->aD P cr done x=some x'->
  uz P cr done (.convert a b x) (.strBytes x')
 |sl {t x lo hi e es x' lo' hi'}:P.underlying t=some (.slice e)->gV P e=some es->aD P cr done x=some x'->cOpt P cr done lo=some lo'->cOpt P cr done hi=some hi'->
  uz P cr done (.slice t x lo hi none) (.sl es x' lo' hi')
set_option maxHeartbeats 1000000 in
def Dx{k:Op}{lo:Yf}(h:jT P cr done k=some (.a lo)):uz P cr done k lo:=by
 cases k with
 |alloc t=>let⟨z,d,h⟩:=cq h;cases h;exact .alloc d
 |box t x=>let⟨z,d,h⟩:=cq h;cases h;exact .box d
 |buildSlice t len parts=>let⟨u,e,h⟩:=cq h;split at h;let⟨s,d,h⟩:=cq h;let⟨y,f,h⟩:=cq h;split at h;rename_i j;let⟨z,g,h⟩:=cq h;cases h;exact .buildSlice e d f j g;cases h;cases h
 |makeMap t r=>simp only[jT]at h;split at h;cases h;exact .mkMap;split at h;rename_i e;cases h;exact .mkMapN e;cases h;cases h
 |makeSlice t l c=>let⟨u,e,h⟩:=cq h;split at h;let⟨_,d,h⟩:=cq h;let⟨_,f,h⟩:=cq h;let⟨_,g,h⟩:=cq h;let⟨_,i,h⟩:=cq h;let⟨_,p,h⟩:=cq h;cases h;exact .mkSlice e d f g i p;cases h
 |convert a b x=>let⟨u,e,h⟩:=cq h;let⟨v,q,h⟩:=cq h;split at h;let⟨_,_,h⟩:=cq h;cases h;let⟨w,n,h⟩:=cq h;split at h;let⟨_,o,h⟩:=cq h;cases h;exact .strBytes e q n o;cases h;let⟨w,n,h⟩:=cq h;split at h;let⟨A,o,h⟩:=cq h;cases h;cases h;cases h
 |slice t x lo hi mx=>
  cases mx with
  |some m=>simp only[jT]at h;cases h
  |none=>simp only[jT]at h;let⟨u,e,h⟩:=cq h;split at h;let⟨_,_,h⟩:=cq h;let⟨_,_,h⟩:=cq h;let⟨_,_,h⟩:=cq h;cases h;let⟨_,d,h⟩:=cq h;let⟨_,f,h⟩:=cq h;let⟨_,g,h⟩:=cq h;let⟨_,i,h⟩:=cq h;cases h;exact .sl e d f g i;let⟨_,_,h⟩:=cq h;let⟨_,_,h⟩:=cq h;let⟨_,_,h⟩:=cq h;let⟨_,_,h⟩:=cq h;cases h;cases h
 |call c=>
  simp only[jT]at h;split at h
  ·simp only[yN]at h;split at h;all_goals (repeat' (first|(cases h;done)|(let⟨_,_,h⟩:=cq h)|split at h))
  let⟨_,_,h⟩:=cq h;split at h;let⟨_,_,h⟩:=cq h;cases h;cases h;let⟨_,_,h⟩:=cq h;let⟨_,_,h⟩:=cq h;cases h;cases h
 |build t parts=>simp only[jT,BO]at h;repeat' (first|(cases h;done)|split at h)
 |next it str=>
  cases str with
  |true=>simp only[jT]at h;cases h
  |false=>simp only[jT]at h;let⟨_,_,h⟩:=cq h;cases h
 |_=>simp only[jT]at h;repeat' (first|(cases h;done)|(let⟨_,_,h⟩:=cq h)|split at h)
inductive tq(P:cH)(cr:cR)(done:List (Option Nat)):Op->ZR->Prop
 |store {t a x k a' x'}:gV P t=some k->aD P cr done a=some a'->aD P cr done x=some x'->tq P cr done (.store t a x) (.store k a' x')
 |mapUpdate {t m k x kt e kk m' k' x'}:P.underlying t=some (.map kt e)->Dj P kt=some kk->aD P cr done m=some m'->aD P cr done k=some k'->aD P cr done x=some x'->
  tq P cr done (.mapUpdate t m k x) (.mapSet kk m' k' x')
 |insert {t m k x kt e kk m' k' x'}:P.underlying t=some (.map kt e)->Dj P kt=some kk->aD P cr done m=some m'->aD P cr done k=some k'->aD P cr done x=some x'->
  tq P cr done (.insert t m k x) (.mapSet kk m' k' x')
 |range {t x k e x'}:P.underlying t=some (.map k e)->aD P cr done x=some x'->tq P cr done (.range t x) (.range x')
 |next {x x'}:aD P cr done x=some x'->tq P cr done (.next x false) (.next x')
 |app {c t u s x e es z by' s' x' d}:P.underlying u=some d->c.callee=.builtin .append->c.argTypes.toList=[t,u]->c.args.toList=[s,x]->P.underlying t=some (.slice e)->
  gV P e=some es->QK P e=some z->lG P e=some by'->aD P cr done s=some s'->aD P cr done x=some x'->
  tq P cr done (.call c) (.app es (match d with|.int _=>true|_=>false) z by' s' x')
 |copy {c t u d s e es d' s'}:c.callee=.builtin .copy->c.argTypes.toList=[t,u]->c.args.toList=[d,s]->P.underlying t=some (.slice e)->
  gV P e=some es->aD P cr done d=some d'->aD P cr done s=some s'->tq P cr done (.call c) (.copy es d' s')
 |clear {c t x e z x'}:c.callee=.builtin .clear->c.argTypes.toList=[t]->c.args.toList=[x]->P.underlying t=some (.slice e)->
  uT P e=some z->aD P cr done x=some x'->tq P cr done (.call c) (.clear z x')
 | call {c f fn as}:c.callee=.value (.func f)->P.funcs[f]?=some fn->fn.body.isSome=true->fn.name≠ "runtime.NumGoroutine"->mF P cr done c.args.toList=some as->
   tq P cr done (.call c) (.call f as)
 |panic {x x'}:aD P cr done x=some x'->tq P cr done (.panic x) (.panic x')
 |defer {c f f' as}:c.callee=.value f->aD P cr done f=some f'->mF P cr done c.args.toList=some as->tq P cr done (.defer c) (.defer f' as)
 |recover {c}:c.callee=.builtin .recover->tq P cr done (.call c) .recover
 |callv {c f f' as}:c.callee=.value f->aD P cr done f=some f'->mF P cr done c.args.toList=some as->
  tq P cr done (.call c) (.callv f' as)
set_option maxHeartbeats 1000000 in
def Dy{q:Op}{eo:ZR}(h:jT P cr done q=some (.e eo)):tq P cr done q eo:=by
 cases q with
 |store t a x=>let⟨_,d,h⟩:=cq h;let⟨_,g,h⟩:=cq h;let⟨_,j,h⟩:=cq h;cases h;exact .store d g j
 |mapUpdate t m k x=>let⟨u,i,h⟩:=cq h;split at h;let⟨_,d,h⟩:=cq h;let⟨_,g,h⟩:=cq h;let⟨_,j,h⟩:=cq h;let⟨_,l,h⟩:=cq h;cases h;exact .mapUpdate i d g j l;cases h
 |insert t m k x=>let⟨u,i,h⟩:=cq h;split at h;let⟨_,d,h⟩:=cq h;let⟨_,g,h⟩:=cq h;let⟨_,j,h⟩:=cq h;let⟨_,l,h⟩:=cq h;cases h;exact .insert i d g j l;cases h
 |range t x=>let⟨u,i,h⟩:=cq h;split at h;let⟨_,d,h⟩:=cq h;cases h;exact .range i d;cases h
 |next it str=>
  cases str with
  |true=>simp only[jT]at h;cases h
  |false=>simp only[jT]at h;let⟨_,d,h⟩:=cq h;cases h;exact .next d
 |panic x=>let⟨_,d,h⟩:=cq h;cases h;exact .panic d
 |defer c=>simp only[jT]at h;split at h;let⟨_,d,h⟩:=cq h;let⟨_,g,h⟩:=cq h;cases h;exact .defer (by assumption) d g;cases h
 |convert a b x=>let⟨u,i,h⟩:=cq h;let⟨v,B,h⟩:=cq h;repeat' (first|(cases h;done)|(let⟨_,_,h⟩:=cq h)|split at h)
 |slice t x lo hi mx=>
  cases mx with
  |some m=>simp only[jT]at h;cases h
  |none=>simp only[jT]at h;repeat' (first|(cases h;done)|(let⟨_,_,h⟩:=cq h)|split at h)
 |call c=>
  simp only[jT]at h;split at h
  ·rename_i b n;simp only[yN]at h;split at h
   ·repeat' (first|(cases h;done)|(let⟨_,_,h⟩:=cq h)|split at h)
   ·repeat' (first|(cases h;done)|(let⟨_,_,h⟩:=cq h)|split at h)
   rename_i d g;let⟨u,i,h⟩:=cq h;split at h;let⟨_,y,h⟩:=cq h;let⟨_,j,h⟩:=cq h;let⟨_,l,h⟩:=cq h;let⟨_,o,h⟩:=cq h;let⟨_,s,h⟩:=cq h;let⟨_,w,h⟩:=cq h;cases h;exact .app y n d g i j l o s w;cases h;rename_i d g;let⟨u,i,h⟩:=cq h;split at h;let⟨_,j,h⟩:=cq h;let⟨_,l,h⟩:=cq h;let⟨_,o,h⟩:=cq h;cases h;exact .copy n d g i j l o;cases h;rename_i d g;let⟨u,i,h⟩:=cq h;split at h;let⟨_,j,h⟩:=cq h;let⟨_,l,h⟩:=cq h;cases h;exact .clear n d g i j l;cases h;all_goals (first|(cases h;exact .recover n;done)|(repeat' (first|(cases h;done)|(let⟨_,_,h⟩:=cq h)|split at h)))
  rename_i f r;let⟨A,d,h⟩:=cq h;split at h;rename_i p;let⟨z,g,h⟩:=cq h;cases h;simp only[oo,bne_iff_ne,ne_eq]at p;exact .call r d p.1 p.2 g;cases h;rename_i f r _;let⟨_,d,h⟩:=cq h;let⟨_,g,h⟩:=cq h;cases h;exact .callv (by assumption) d g;cases h
 |build t parts=>simp only[jT,BO]at h;repeat' (first|(cases h;done)|split at h)
 |_=>simp only[jT]at h;repeat' (first|(cases h;done)|(let⟨_,_,h⟩:=cq h)|split at h)
end
section
variable {P:cH}{G:cD}{ι:Q0}{m:cD}{w:cG}{cr:cR}{done:List (Option Nat)}{ls:cM}{env:T j5}{a:Act}
def WM(P:cH)(ρ:Operand->Value)(op:Op)(v:Value)(w:cG):Prop:=
 ∀(o:Oper),o.op=op->(execOp ρ o).run P w=.ok (.value v) w
def oI{r:Nat}{o:Obj}(h:w.heap[r]?=some o)(a:∀c e fz,o≠.cells c e fz):(getObj r).run P w=.ok o w:=by simp only[getObj,Sem.run,h]
def OJ(f:RM P G ι m w.heap){id:Nat}{es:List (j5×j5)}(d:m.get id=some (.map es)):
   (getObj (ι id).b).run P w=.ok (.map (L8 ι es 0).toArray es.length) w∧∀e∈es,e.1.lt (m.nm ι)∧e.2.lt (m.nm ι):=by
 let⟨a,c⟩:=f.blk id _ d;exact⟨oI a (by intro _ _ _ e;cases e),c⟩
def Fj(ι:Q0)(ok:Bool)(z:j5)(r:Option (Nat×j5)):Value:=match r with
 |some p=>if ok then .tuple #[u7 ι p.2,.bool true]else u7 ι p.2
 |none=>if ok then .tuple #[u7 ι z,.bool false]else u7 ι z
def Rc{ok:Bool}{z v:j5}(h:found ok z r=some v){n:Nm}(b:z.lt n)(a:∀p,r=some p->p.2.lt n):
   v.lt n∧u7 ι v=Fj ι ok z r:=by
 cases r with
 |none=>have h:some (bi ok (.tuple [z,.bool false]) z)=some v:=h;cases h;cases ok<;>simp[bi,j5.lt,fD,u7,A9,b,Fj]
 |some p=>have h:some (bi ok (.tuple [p.2,.bool true]) p.2)=some v:=h;cases h;have:=a p rfl;cases ok<;>simp[bi,j5.lt,fD,u7,A9,this,Fj]
def Dz(w:cG){t f e:cI}{kk:Ig}{z:j5}(o:P.underlying t=some (.map f e))(m:Dj P f=some kk)(H:zeroV P e=some z){ok:Bool}{k v:j5}
   {es:List (j5×j5)}  {n:Nm} (h:∀e∈es,e.1.lt n∧e.2.lt n) (hf:gD (xO kk) (Oj kk) k es=some r) (F:found ok z r=some v):
   v.lt n∧∀x,(x=.map none∧es=[])∨(∃b,x=.map (some b)∧∀w',w'=w->(getObj b).run P w'=.ok (.map (L8 ι es 0).toArray es.length) w')->
    (Instr.lookup t x (u7 ι k) ok).run P w=.ok (u7 ι v) w:=by
 let⟨A,⟨y,b,B⟩,d⟩:=Dw hf;let⟨c,i⟩:=uX (w:=w) H ι;let⟨u,g⟩:=Rc (ι:=ι) F (i n) (λp E=>by
  subst E;let⟨j,s,_,C,D,_⟩:=BX d;rw[← D];exact(h s (O5 C)).2)
 refine⟨u,λx G=>?_⟩;have l:=λq=>WL (ι:=ι) m A B q w;have a:=Bt (ι:=ι) m d w;rcases G with⟨rfl,rfl⟩|⟨b,rfl,hb⟩;simp only[Instr.lookup,wu,cC o,nM,aa2,l];rw[show Instr.findKey f (u7 ι k) []=Instr.findKey f (u7 ι k) (L8 ι [] 0)from rfl,a];simp only[nM];rw[T9]at d;cases d;simp[xH,c,g,Fj];simp only[Instr.lookup,wu,cC o,nM,hb w rfl,aa2,l];rw[a];simp only[nM];cases r with
 |none=>simp[xH,c,g,Fj]
 |some p=>simp[xH,g,Fj]
def DF:∀(l:cM) (s:List cL),byteOf l=some s->∀(acc:ByteArray) (w:cG),
   (forIn (A9 ι l) acc (λc (r:ByteArray)=>match c with
    |.int .u8 n=>pure (ForInStep.yield (r.push (UInt8.ofNat n.toNat)))
    | _=>do stuck "bytesToString: byte expected";pure (ForInStep.yield r)):Sem ByteArray).run P w=.ok ⟨acc.data++s.toArray⟩ w
 |[],s,h,acc,w=>by simp[byteOf]at h;subst h;simp[A9]
 |v::l,s,h,acc,w=>by
  cases v<;>try (simp[byteOf]at h;done)
  rename_i k n;cases k<;>try (simp[byteOf]at h;done)
  cases n with
  |negSucc n=>simp[byteOf]at h
  |ofNat n=>
   simp only[byteOf]at h;cases hb:byteOf l with
   |none=>simp[hb]at h
   |some s'=>simp only[hb,iE]at h;subst h;simp only[A9,u7,axe,wu,aa2,nM];rw[DF l s' hb];congr 1;simp[ByteArray.push]
def qD{x:Value}{m:cD}(f:RM P G ι m w.heap){id len c:Nat}(g:x=.slice (some (ι.at id off)) len c){l:cM}{s:List cL}
   (d:Z6 m id off len=some l) (e:byteOf l=some s):(Conv.bytesToString x).run P w=.ok (u7 ι (.str s)) w:=by
 let⟨a,_,b⟩:=nC f d;have h:=uy (P:=P) b;rw[a]at h;subst g;have:=DF (P:=P) (ι:=ι) l s e ByteArray.empty w;simp only[Conv.bytesToString,wu,h,nM];rw[← axj]
 erw [this]
 simp[u7,aa2]
def DI(ι:Q0):∀(es:List (j5×j5)) (i j:Nat),(L8 ι es j).find? (λe=>e.born==j+i)=(es[i]?).map λe=>{key:=u7 ι e.1,val:=u7 ι e.2,born:=j+i}
 |[],i,j=>by simp[L8]
 |e::es,0,j=>by simp[L8]
 |e::es,i+1,j=>by simp only[L8,axO];rw[show(j==j+(i+1))=false from by simp];simp only[ajp];have:=DI ι es i (j+1);rw[show j+1+i=j+(i+1)from by omega]at this;exact this
def Jp{b:Option Y9}{a:Option β}{k:Nat->Nat->cR->Option β}{r:β}(h:WJ b a k=some r):
   (∃s l,b=some (.iter none s l)∧a=some r)∨∃mp s l,b=some (.iter (some mp) s l)∧k mp s l=some r:=by
 match b,h with
 |some (.iter none s l),h=>exact .inl ⟨s,l,rfl,h⟩
 |some (.iter (some mp) s l),h=>exact .inr ⟨mp,s,l,rfl,h⟩
def wF(s:St P ι (m.nm ι) cr done ls env a.tmps)(B:RM P G ι m w.heap){W:Op}{X:TN}(h:BZ P cr done W X){v:j5}(J:xX X ls env m=some v):
   v.lt (m.nm ι)∧WM P a.eval W (u7 ι v) w:=by
 cases h with
 |@load t x sz x' j p=>
  let⟨f,_⟩:=D9 s p;have key:∀id off,J6 x' ls env=.ptr id off->aY (m.get id) (λY n C=>match sz with|none=>cell1 Y n C off|some k=>ob (qp Y n C off k) λl=>some (.agg l))=some v->
     v.lt (m.nm ι)∧WM P a.eval (.load t x) (u7 ι v) w:=by
   intro id off d A;let⟨K,L⟩:=Bq j B A;refine⟨L,λo g=>?_⟩;simp[execOp,g,f,d,u7,Instr.loadAt,Instr.sureAddr,K]
  cases sz with
  |none=>let⟨id,off,d,A⟩:=lS J;exact key id off d A
  |some k=>let⟨id,off,d,A⟩:=lS J;exact key id off d A
 |@look t kt e kk z ok x k x' k' hu hk hz d hkk=>let⟨f,a0⟩:=D9 s d;let⟨U,_⟩:=D9 s hkk;rcases Al J with⟨d,h⟩|⟨id,d,h⟩;let⟨r,E,F⟩:=D7 h;let⟨K,L⟩:=Dz (ι:=ι) w hu hk hz (n:=(m.nm ι)) ZZ E F;refine⟨K,λo g=>?_⟩;have:=L (.map none) (.inl ⟨rfl,rfl⟩);have d:J6 x' ls env=.nilMap:=d;simp[execOp,g,f,d,u7,U,this];let⟨D,j,p⟩:=BU h;let⟨r,E,F⟩:=D7 p;let⟨S,V⟩:=OJ B j;let⟨K,L⟩:=Dz (ι:=ι) w hu hk hz V E F;refine⟨K,λo g=>?_⟩;have:=L (.map (some (ι id).b)) (.inr ⟨_,rfl,λw' hw=>by subst hw;exact S⟩);have d:J6 x' ls env=.map id:=d;simp[execOp,g,f,d,u7,U,this]
 |@lenM c t kt e x x' A y q hu d=>
  let⟨f,_⟩:=D9 s d;have y:c.argTypes=#[t]:=by rw[← y,ahg]
  have q:c.args=#[x]:=by rw[← q,ahg]
  rcases Al J with⟨d,h⟩|⟨id,d,h⟩;cases h;have d:J6 x' ls env=.nilMap:=d;exact⟨by simp[j5.lt],λo g=>by simp[execOp,g,resolve,A,q,y,invoke,builtin,Builtin.len_,cC hu,f,d,u7,goInt]⟩;let⟨D,j,p⟩:=BU h;let⟨S,V⟩:=OJ B j;cases p;have d:J6 x' ls env=.map id:=d;exact⟨by simp[j5.lt],λo g=>by simp[execOp,g,resolve,A,q,y,invoke,builtin,Builtin.len_,cC hu,f,d,u7,goInt,S]⟩
 |@bytesStr t b e x x' j p E d=>let⟨f,_⟩:=D9 s d;rcases yS J with⟨d,h⟩|⟨id,off,len,cap,d,h⟩|⟨id,off,len,cap,d,h⟩;cases h;have d:J6 x' ls env=.nilSlice:=d;refine⟨by simp[j5.lt],λo g=>?_⟩;simp[execOp,g,f,d,u7,convert,cC j,cC p,cC E,Conv.bytesToString];rfl;let⟨l,F,h⟩:=D7 h;let⟨T,M,h⟩:=D7 h;cases h;have d:J6 x' ls env=.slice id off len cap:=d;have:=qD B (x:=a.eval x) (by rw[f,d];rfl) F M;refine⟨by simp[j5.lt],λo g=>?_⟩;rw[f,d]at this;simp only[u7]at this;simp[execOp,g,f,d,u7,convert,cC j,cC p,cC E,this];let⟨l,F,h⟩:=D7 h;let⟨T,M,h⟩:=D7 h;cases h;have d:J6 x' ls env=.sliceU id off len cap:=d;have:=qD B (x:=a.eval x) (by rw[f,d];rfl) F M;refine⟨by simp[j5.lt],λo g=>?_⟩;rw[f,d]at this;simp only[u7]at this;simp[execOp,g,f,d,u7,convert,cC j,cC p,cC E,this]
 |@entry x x' d=>
  let⟨f,_⟩:=D9 s d;let⟨id,off,d,h⟩:=lS J;have d:J6 x' ls env=.ptr id off:=d;let⟨h0,h⟩:=K4 h;obtain rfl:off=0:=nA h0;rcases Jp h with⟨_,_,_,h⟩|⟨mp,since,seen,u,h⟩;cases h;cases seen with
  |nil=>cases h
  |cons i seen=>
   have h:ZT (m.get mp) (λD=>bi (beq (len' D) since) (ob (vU i D) λe=>some (.tuple [e.1,e.2])) none)=some v:=h;let⟨D,N,h⟩:=BU h;let⟨j,h⟩:=K4 h;have j:=nA j;rw[K7]at j;let⟨e,p,h⟩:=D7 h;rw[nu]at p;cases h;let⟨Z,b2,sn,st,b3,b4,b5⟩:=B.blk id _ u;have Q:=B.spot id _ u rfl;let⟨c1,c2⟩:=OJ B N;have he:=c2 e (O5 p);refine⟨by simp[j5.lt,fD,he],λo g=>?_⟩;have R:st=since:=b5 ZZ;have H:sn.back?=some i:=by have:=ci List.head? b4;simpa[List.head?_reverse]using this
   have I:(L8 ι D 0).toArray.find? (λe=>e.born==i)=some {key:=u7 ι e.1,val:=u7 ι e.2,born:=i}:=by have:=DI ι D i 0;rw[p]at this;simpa using this
   have u:=oI (P:=P) b3 (by intro _ _ _ e;cases e);have O:a.eval x=.pointer (some ⟨(ι id).b,0,none⟩):=by rw[f,d];simp[u7,Q0.at,Z,Q]
   simp[execOp,g,O,Instr.entry,u,H,c1,R,j,I,u7,A9]
end
variable {cs:cM}{nid:Nat}{h:Array Obj}
section
variable {P:cH}{G:cD}{ι:Q0}{n:Nm}{cr:cR}{done:List (Option Nat)}{ls:cM}{env:T j5}{a:Act}
def Rf(rs:Nat)(l:cM)(r:List cM)(h:rowsOf rs 0 l=some r):l=[]∧r=[]:=by
 cases l with
 |nil=>cases h;exact⟨rfl,rfl⟩
 |cons=>cases h
def Rh(rs k:Nat)(l:cM):rowsOf rs (k+1) l=ob (takeN rs l) λr=>ob (rowsOf rs k (iA rs l)) λrest=>some (r::rest):=rfl
def kg(rs:Nat):∀(k:Nat) (l:cM) (r:List cM),rowsOf rs k l=some r->
   l.length=k*rs∧r.length=k∧∀i,i<k->∃row,r[i]?=some row∧row.length=rs∧∀j,j<rs->row[j]?=l[i*rs+j]?:=by
 intro k;induction k with
 |zero=>intro l r h;obtain⟨rfl,rfl⟩:=Rf rs l r h;simp
 |succ k ih=>
  intro l r h;rw[Rh]at h;let⟨x,n,h⟩:=D7 h;let⟨y,b,h⟩:=D7 h;cases h;obtain⟨rfl,p⟩:=oF _ _ _ n;rw[fC]at b;let⟨f,g,m⟩:=ih _ _ b;rw[asa]at f;refine⟨by rw[aic];omega,by simp[g],λi o=>?_⟩;cases i with
  |zero=>exact⟨_,rfl,ZD,λj a=>by simp[a]⟩
  |succ i=>let⟨row,c,d,e⟩:=m i Zs;refine⟨row,by simpa using c,d,λj a=>?_⟩;rw[e j a,akv];congr 1;rw[aic];omega
def Ri{l:Loc}{es k:Nat}{a:cM}{f:List cM}(B:rowsOf es k a=some f){c:Array Value}{e:cI}{q:Nat×Nat}
   (A:h[l.b]?=some (Obj.cells c e q)) (h0:l.base=0) (E:l.cap=c.size) (o:fD n a) (g:∀(j:Nat) (v:j5),a[j]?=some v->c[j]?=some (u7 ι v)) (w:a.length<=c.size):
   iF P ι n h l (.cells es k (T.ofList f)):=by
 let⟨y,D,z⟩:=kg _ _ _ _ B;refine⟨c,e,q,A,Zs,⟨Zs,f.length,Zs,T.kL f⟩,λi u=>?_⟩;let⟨p,x,r,s⟩:=z i u;refine⟨p,by rw[T.bV];exact x,r,gK.2 λv C=>?_,λj d=>?_⟩;let⟨j,d⟩:=adi C;have m:j<es:=awH (gB.1 d).1 r;rw[s j m]at d;exact aj o (O5 d);rw[s j d,h0,P7];have t:i*es+j<a.length:=by
  rw[y]
  calc i*es+j<i*es+es:=Zs
   _=(i+1)*es:=by rw[aic]
   _<=k*es:=U0 _ u
 rw[cB t];exact g _ _ (cB t)
def aao{l:Loc}{e:cI}{c:Nat×Nat}
   (d:h[l.b]?=some (.cells (A9 ι cs).toArray e c)) (h0:l.base=0) (f:l.cap=cs.length) (a:fD n cs):iF P ι n h l (j6 cs):=by
 refine⟨_,e,c,d,ZD,⟨ZD,1,aA 1,.nd .e .e⟩,λi g=>?_⟩;obtain rfl:i=0:=Zs
 refine⟨cs,rfl,(K7 cs).symm,a,λj k=>?_⟩;rw[h0];simp[eU]
def MB{l:Loc}(hn:¬ n nid)(h:fD n cs):A9 (ι.upd nid l) cs=A9 ι cs:=
 jg (n:=n) (λi a=>ι.upd_ne l (λe=>hn (by subst e;exact a))) cs h
def Rj{l:Loc}{v:j5}(hn:¬ n nid)(h:v.lt n):u7 (ι.upd nid l) v=u7 ι v:=
 aZ (n:=n) (λi a=>ι.upd_ne l (λe=>hn (by subst e;exact a))) v h
structure Makes(P:cH)(ι:Q0)(n:Nm)(ρ:Operand->Value)(op:Op)(nid:Nat)(v:j5)(b:Y9)(w:cG)(l:Loc)(obj:Obj)(w':cG):Prop where
 loc:l.b=w.heap.size
 spot:l.spot=none
 run:∀o:Oper,o.op=op->(execOp ρ o).run P w=.ok (.value (u7 (ι.upd nid l) v)) w'
 grew:aaj w w' obj
 live:jU b=false
 free:∀c e fz,obj=.cells c e fz->∀k,k<c.size->¬ (fz.1<=k∧k<fz.2)
 blk:∀n':Nm,n.le n'->n' nid->n'.cap nid=l.cap->iF P (ι.upd nid l) n' (w.heap.push obj) l b∧v.lt n'
inductive vw(P:cH)(ι:Q0)(n:Nm)(ρ:Operand->Value)(op:Op)(nid:Nat)(w:cG):j5×Option Y9->Prop
 |none {v}:v.lt n->Gives P ρ op (u7 ι v)->vw P ι n ρ op nid w (v,none)
 |made {v b} (l:Loc) (obj:Obj) (w':cG):Makes P ι n ρ op nid v b w l obj w'->vw P ι n ρ op nid w (v,some b)
 |tail {v p} (l:Loc):n p->(l.cap=0∨(l.b=(ι p).b∧l.base+l.cap<=(ι p).base+(ι p).cap∧((ι p).spot=none->l.spot=none)))->Gives P ρ op (u7 (ι.upd nid l) v)->(∀n':Nm,n.le n'->n' nid->n'.cap nid=l.cap->v.lt n')->
  vw P ι n ρ op nid w (v,some (.tail p))
def kM{w:cG}{o:Obj}:(w.heap.push o)[w.heap.size]?=some o:=ZZ
def MC{g:Op}{w:cG}(hn:¬ n nid)(b:fD n cs){e:cI}
   (d:∀o:Oper,o.op=g->(execOp a.eval o).run P w=.ok (.value (.pointer (some ⟨w.heap.size,0,none⟩))) {w with heap:=w.heap.push (.cells (A9 ι cs).toArray e)}):
   vw P ι n a.eval g nid w (.ptr nid 0,some (j6 cs)):=by
 refine .made ⟨w.heap.size,0,cs.length,none⟩ (.cells (A9 ι cs).toArray e) {w with heap:=w.heap.push (.cells (A9 ι cs).toArray e)} ⟨rfl,rfl,λo j=>?_,⟨rfl,rfl,rfl,rfl⟩,rfl,λc m p h k q=>?_,λr i f _=>⟨?_,f⟩⟩;rw[d o j];simp[u7,Q0.at];cases h;simp;rw[← MB (l:=⟨w.heap.size,0,cs.length,none⟩) hn b];exact aao kM rfl rfl (iW i _ b)
def ko(e:cI)(cs:Array Value)(w:cG):(newRow e cs).run P w=.ok ⟨w.heap.size,0,none⟩ {w with heap:=w.heap.push (.cells cs e)}:=by simp[newRow,newObj,Sem.run]
def wG(z:cM)(k:Nat):U4 z (k+1)=z++U4 z k:=by show dK z (U4 z k)=_;rw[V9]
def DJ(z:cM):U4 z 0=[]:=rfl
def jc(z:cM):∀k,(U4 z k).length=k*z.length
 |0=>by simp[DJ]
 |k+1=>by rw[wG,aaf,jc z k,aic];omega
def wH{z:cM}(h:fD n z):∀k,fD n (U4 z k)
 |0=>trivial
 |k+1=>by rw[wG,gK];intro v hv;rcases LA.1 hv with hv|hv;exact aj h hv;exact aj (wH h k) hv
def yZ(z:cM):∀(k i:Nat),i<k*z.length->(U4 z k)[i]?=z[i%z.length]?
 |0,i,h=>by simp at h
 |k+1,i,h=>by rw[wG];by_cases hi:i<z.length;rw[adl hi,aju hi];have hi:z.length<=i:=avV hi;rw[ahf hi,yZ z k _ (by rw[aic]at h;omega),← Nat.mod_eq_sub_mod hi]
def Jq(z:cM)(k:Nat):(Array.range (k*z.length)).map (λi=>(A9 ι z).toArray[i%(A9 ι z).toArray.size]!)=(A9 ι (U4 z k)).toArray:=by
 apply Array.ext;simp[jc];intro i d f;have a:i<k*z.length:=by simpa using d
 have j:0<z.length:=axm λe=>by rw[e]at a;simp at a
 have c:i%z.length<z.length:=ajq _ j;have g:=yZ z k i a;rw[Array.getElem_map,Array.getElem_range];have h:(A9 ι (U4 z k))[i]?=some (A9 ι z)[i%z.length]!:=by rw[eU,g,cB c];simp[fF,c]
 have b:(A9 ι (U4 z k)).toArray[i]?=some ((A9 ι z).toArray[i%(A9 ι z).toArray.size]!):=by simpa using h
 rw[ado f]at b;exact(rW b).symm
def aap{i:Op}{w:cG}{b:cM}(hn:¬ n nid)(d:fD n b){e:cI}{es k len:Nat}{m:List cM}(s:rowsOf es k b=some m)
   (f:∀o:Oper,o.op=i->(execOp a.eval o).run P w=.ok (.value (.slice (some ⟨w.heap.size,0,none⟩) len k)) {w with heap:=w.heap.push (.cells (A9 ι b).toArray e)}):
   vw P ι n a.eval i nid w (.slice nid 0 len k,some (.cells es k (T.ofList m))):=by
 refine .made ⟨w.heap.size,0,b.length,none⟩ (.cells (A9 ι b).toArray e) {w with heap:=w.heap.push (.cells (A9 ι b).toArray e)} ⟨rfl,rfl,λo r=>?_,⟨rfl,rfl,rfl,rfl⟩,rfl,λc t u h k x=>?_,λy q g _=>⟨?_,g⟩⟩;rw[f o r];simp[u7,Q0.at];cases h;simp;rw[← MB (l:=⟨w.heap.size,0,b.length,none⟩) hn d];exact Ri s kM rfl ZZ (iW q _ d) (λj v p=>by simp[eU,p]) ZZ
def Fq{t:cI}{z:cM}(h:QK P t=some z):uT P t=some z∧gV P t=some z.length:=by simp only[QK]at h;split at h;split at h;cases h;rename_i a b c;exact⟨b,by rw[a,c]⟩;cases h;cases h
def run_askRoom(k:Nat)(w:cG):(askRoom k).run P w=.ok () w:=by unfold askRoom;split<;>simp[mark,Sem.run]
def DK(e:cI)(c:Array Value)(hp:Array Obj)(w:cG):
   (markStringish ⟨hp.size,0,none⟩).run P {w with heap:=hp.push (.cells c e)}=.ok () {w with heap:=hp.push (.cells c e (c.size,c.size+1))}:=by
 simp only[markStringish,wu,run_shape,World.shape?,nM];have d:∀(f:Obj->Obj),(hp.push (.cells c e)).modify hp.size f=hp.push (f (.cells c e)):=by
  intro f;apply Array.ext;simp;intro i a b;rw[Array.getElem_modify];simp only[Array.size_push,Array.size_modify]at a b;by_cases h:hp.size=i;subst h;simp;have:i<hp.size:=Zs
  simp[h,Array.getElem_push_lt this]
 simp[World.freeze,d]
def wI(s:St P ι n cr done ls env a.tmps)(D:∀i,n i->n.cap i=(ι i).cap)(hn:¬ n nid){op:Op}{lo:Yf}(h:uz P cr done op lo){r:j5×Option Y9}(y:Gr lo ls env nid=some r)(w:cG):
   vw P ι n a.eval op nid w r:=by
 cases h with
 |@alloc t z hz=>cases y;let⟨v,Q,N,h3⟩:=iX (w:=w) hz ι;exact MC (e:=t) hn (h3 n) λo A=>by simp[execOp,A,Instr.alloc,Q,newVar,ko,N]
 |@box t x x' hx=>cases y;let⟨e1,e2⟩:=D9 s hx;exact MC (e:=t) hn (Dn e2) λo A=>by simp[execOp,A,Instr.box,e1,newVar,ko,rM]
 |@mkMap t=>cases y;refine .made ⟨w.heap.size,0,0,none⟩ (.map #[] 0) {w with heap:=w.heap.push (.map #[] 0)} ⟨rfl,rfl,λo A=>?_,⟨rfl,rfl,rfl,rfl⟩,rfl,(λc e' fz h=>by cases h),λn' hm C _=>⟨⟨?_,ZZ⟩,C⟩⟩;simp[execOp,A,Instr.makeMap,u7,newObj,Sem.run];simp[L8]
 |@mkMapN t k m kt e hu=>cases y;refine .made ⟨w.heap.size,0,0,none⟩ (.map #[] 0) {w with heap:=w.heap.push (.map #[] 0)} ⟨rfl,rfl,λo A=>?_,⟨rfl,rfl,rfl,rfl⟩,rfl,(λc e' fz h=>by cases h),λn' hm C _=>⟨⟨?_,ZZ⟩,C⟩⟩;simp[execOp,A,Instr.makeMap,u7,newObj,Sem.run,cC hu,Act.eval,asInt,asIntOf];simp[L8]
 |@buildSlice t len parts e es ps z hu hes hps a1 hz=>
  let⟨cells,Q,y⟩:=D7 y;let⟨rl,N,y⟩:=D7 y;cases y;let⟨v,a2,a3,U⟩:=iX (P:=P) (w:=w) hz ι;let⟨g,M,g3⟩:=Fg s _ parts.toList ps hps _ cells (wH (U n) len) Q;let⟨r1,_,_⟩:=kg _ _ _ _ N;rw[jc]at g3;have Y:(parts.map λp=>(p.1,a.eval p.2)).toList=parts.toList.map λp=>(p.1,a.eval p.2):=ZZ
  refine aap (e:=e) hn M N λo A=>?_
  have ac:¬ len*es>2^24:=by have:(2:Nat)^24=16777216:=rfl
                            omega
  simp only[execOp,A,Instr.buildSlice,wu,cC hu,nM,run_sizeOf hes,aE ac,aa2];have V:∀Z:Array Value,(len*es=0∨Z=(A9 ι z).toArray)->(Array.range (len*es)).map (λi=>Z[i%Z.size]!)=(A9 ι (U4 z len)).toArray:=by
   intro Z hZ;by_cases L:len*es=0;have:U4 z len=[]:=axg (by rw[jc];omega);rw[this,L];simp[A9];rcases hZ with h|rfl;exact cj h L;have hm:len*z.length=len*es:=Zs
   have hp:0<len:=axm λe=>L (by rw[e,ah3]);have ag:z.length=es:=Nat.eq_of_mul_eq_mul_left hp hm;rw[← ag];exact Jq z len
  by_cases L:len*es=0;rw[cg L];simp only[wu,aa2,nM,Y,V #[] (.inl L),g];simp[ko];rw[aE L];simp only[wu,a2,aa2,nM,Y,a3,V _ (.inr rfl),g];simp[ko]
 |@mkSlice t l c e es by' z l' c' hu hes hby hz hl I=>
  let⟨af,a6⟩:=Fq hz;rw[hes]at a6;cases a6;let⟨i,len,Q,y⟩:=jm y;let⟨j,cap,N,y⟩:=jm y;let⟨g,y⟩:=K4 y;let⟨M,y⟩:=K4 y;let⟨g3,y⟩:=K4 y;cases y;have g:len<=cap:=D5 g;have M:by'*cap<=281474976710656:=D5 M;have g3:cap<9223372036854775808:=Eq.mp O8 g3;have Q:J6 l' ls env=.int i (len:Int):=Q;have N:J6 c' ls env=.int j (cap:Int):=N;let⟨e1,_⟩:=D9 s hl;let⟨e2,_⟩:=D9 s I;let⟨ai,a9,aa⟩:=Ak (w:=w) hby;let⟨v,a2,a3,U⟩:=iX (P:=P) (w:=w) af ι;have K:=jc z cap;have B:∀o:Oper,o.op=.makeSlice t l c->(execOp a.eval o).run P w=.ok (.value (.slice (some ⟨w.heap.size,0,none⟩) len cap)) {w with heap:=w.heap.push (.cells (A9 ι (U4 z cap)).toArray e)}:=by
   intro o A;have w1:IntKind.i64.wrap (len:Int)=len:=Dq _ ⟨Zs,Zs⟩;have w2:IntKind.i64.wrap (cap:Int)=cap:=Dq _ ⟨Zs,Zs⟩;have a4:¬ ((by':Int)*(cap:Int)>2^48):=by have:((by'*cap:Nat):Int)=(by':Int)*(cap:Int):=ZZ;rw[← this];have a7:(2:Int)^48=281474976710656:=rfl;rw[a7];omega
   simp only[execOp,A,Instr.makeSlice,wu,cC hu,nM,e1,e2,Q,N,u7,asInt,asIntOf,aa2,a9,aa,w1,w2];rw[aE (by simp only[ate,ck,not_or];exact⟨⟨⟨Zs,a4⟩,Zs⟩,Zs⟩)];simp only[wu,run_askRoom,nM,run_sizeOf hes,axw];by_cases L:cap*z.length=0;have a5:U4 z cap=[]:=axg (by rw[K];exact L);have ae:∀f:Nat->Value,(Array.range 0).map f=#[]:=by intro f;simp
   simp only[wu,aa2,nM,L,a5,if_true,ae];simp[ko,A9];have hk:=Jq (ι:=ι) z cap;simp only[aE L,wu,aa2,nM,a2,a3,hk];simp[ko]
  refine .made ⟨w.heap.size,0,(U4 z cap).length,none⟩ (.cells (A9 ι (U4 z cap)).toArray e) {w with heap:=w.heap.push (.cells (A9 ι (U4 z cap)).toArray e)} ⟨rfl,rfl,λo A=>?_,⟨rfl,rfl,rfl,rfl⟩,rfl,λc e' fz h k hk=>?_,λn' hm C _=>⟨?_,C⟩⟩;rw[B o A];simp[u7,Q0.at];cases h;simp;refine⟨_,_,_,kM,ZZ,⟨by simp[K],cap,aA _,by simpa using T.Ov z cap .e 0 .e⟩,λi hi=>⟨z,?_,rfl,U _,λj hj=>?_⟩⟩;rw[T.Ow _ _ _ _ T.Ok.e];simp[hi];have hb:i*z.length+j<cap*z.length:=by
   calc i*z.length+j<i*z.length+z.length:=Zs
    _=(i+1)*z.length:=by rw[aic]
    _<=cap*z.length:=U0 _ hi
  rw[P7,aqv,eU,yZ _ _ _ hb];rw[show(i*z.length+j)%z.length=j from by rw[ajr,axM,aju hj]];rw[cB hj];simp[Rj (l:=⟨w.heap.size,0,(U4 z cap).length,none⟩) hn (aj (U n) (ql hj))]
 |@strBytes t u e x x' Q N h3 hx=>
  let⟨str,h4,y⟩:=sU y;let⟨rl,h5,y⟩:=D7 y;cases y;have h4:J6 x' ls env=.str str:=h4;let⟨e1,_⟩:=D9 s hx;have R:∀l:List cL,bytesOf l=l.map λb=>j5.int .u8 b.toNat:=by
   intro l;induction l with
   |nil=>rfl
   |cons b l ih=>simp[bytesOf,ih]
  rw[K7]at *;generalize F:str.length+w.tape w.drawn (.appendCap str.length 0 e)%(2^63-str.length)=cap;have a1:str.length<=cap:=Zs
  let cells:Array Value:=(A9 ι (bytesOf str)).toArray++Array.replicate (cap-str.length) (.int .u8 0)
  have S:cells.size=cap:=by simp[cells,R];omega
  have H:fD n (bytesOf str):=by rw[R,gK];intro v y;obtain⟨b,_,rfl⟩:=adg.1 y;simp[j5.lt]
  have B:∀o:Oper,o.op=.convert t u x->(execOp a.eval o).run P w =
    .ok (.value (.slice (some ⟨w.heap.size,0,none⟩) str.length cap)) {w with heap:=w.heap.push (.cells cells e (cap,cap+1)),drawn:=w.drawn+1}:=by
   intro o A;simp only[execOp,A,wu,convert,cC Q,cC N,cC h3,nM,e1,h4,u7,Conv.stringToBytes];rw[run_choose];simp only[Question.forced,agY,if_false,nM,Question.cut,uZ,F];have I:(⟨str.toArray⟩:ByteArray).data.map (λb=>Value.int .u8 b.toNat)++Array.replicate (cap-str.length) (.int .u8 0)=cells:=by simp only[cells,R,fF,axH];congr 1;simp[u7,Function.comp_def]
   have I:str.toArray.map (λb=>Value.int .u8 b.toNat)++Array.replicate (cap-str.length) (.int .u8 0)=cells:=I;rw[I,ko];simp only[nM];rw[DK e cells w.heap {w with drawn:=w.drawn+1}];simp[S]
  refine .made ⟨w.heap.size,0,cap,none⟩ (.cells cells e (cap,cap+1)) {w with heap:=w.heap.push (.cells cells e (cap,cap+1)),drawn:=w.drawn+1} ⟨rfl,rfl,λo A=>?_,⟨rfl,rfl,rfl,rfl⟩,rfl,λc e' fz h k hk=>?_,λn' hm C D=>⟨?_,⟨C,aA 1,by rw[D];show 0+str.length*1<=cap;omega⟩⟩⟩;rw[B o A];simp[u7,Q0.at];cases h;rw[S]at hk;simp;omega;refine Ri h5 kM rfl S.symm (iW hm _ H) (λj v hj=>?_) (by rw[S,R];simpa using a1);have ab:j<(bytesOf str).length:=(gB.1 hj).1;have y:=aj H (O5 hj);rw[Rj (l:=⟨w.heap.size,0,cap,none⟩) hn y];simp only[cells];rw[axp (by simpa using ab)];simp[eU,hj]
 |@sl t x lo hi e es x' lo' hi' hu hes hx hlo hhi=>
  let⟨e1,e2⟩:=D9 s hx;have y:jk (om lo') 0 ls env (λl=>Option.rec (K6 nid es (J6 x' ls env) l none) (λh=>jC (h ls env) λh=>K6 nid es (J6 x' ls env) l (some h)) (om hi'))=some r:=y;generalize hX:J6 x' ls env=X at *;have hb:∀d,(∀l,K6 nid es X l none=K6 nid es X l (some d))->
     ∃l h,K6 nid es X l (some h)=some r∧∀cap w,l<=h->h<=cap->(Instr.sliceBounds true d cap (lo.map a.eval) (hi.map a.eval) none).run P w=.ok (l,h,cap) w:=by
   intro d hd;have h':jk (om lo') 0 ls env (λl=>jk (om hi') d ls env λh=>K6 nid es X l (some h))=some r:=by
    rw[← y];congr 1;funext l;cases hhi':om hi' with
    |none=>simp only[jk];exact(hd l).symm
    |some f=>rfl
   let⟨l,h,g,_,_,M⟩:=wD s hlo hhi h';exact⟨l,h,g,λcap w p q=>M true d cap w rfl p q⟩
  have E:∀(ad:Option Addr) (len cap l h:Nat) (w:cG),u7 ι X=.slice ad len cap->(Instr.sliceBounds true len cap (lo.map a.eval) (hi.map a.eval) none).run P w=.ok (l,h,cap) w->
    ∀o:Oper,o.op=.slice t x lo hi none->(execOp a.eval o).run P w=.ok (.value (.slice (if cap=l then ad else ad.map (·.add (l*es))) (h-l) (cap-l))) w:=by
   intro ad len cap l h w I a8 o A;simp[execOp,A,Instr.sliceAt,cC hu,Instr.slice,e1,I,a8,run_sizeOf hes]
  cases X with
  |nilSlice=>let⟨l,h,g,M⟩:=hb 0 (λl=>by simp[K6,xC,ah6]);have g:bi (beq l 0) (bi (beq h 0) (some (j5.nilSlice,none)) none) none=some r:=g;let⟨W,g⟩:=K4 g;let⟨O,g⟩:=K4 g;obtain rfl:=nA W;obtain rfl:=nA O;cases g;refine .none (by simp[j5.lt]) λo A w=>?_;rw[E none 0 0 0 0 w rfl (M 0 w (aA _) (aA _)) o A];rfl
  |slice id off len cap=>let⟨l,h,g,M⟩:=hb len (λl=>rfl);have g:K6.known es l id off cap h=some r:=g;simp only[K6.known]at g;let⟨W,g⟩:=K4 g;let⟨O,g⟩:=K4 g;have W:=D5 W;have O:=D5 O;cases g;refine .none e2 λo A w=>?_;rw[E _ len cap l h w rfl (M cap w W O) o A];simp only[u7,yV,ag8,Q0.rO];by_cases I:cap=l;rw[cg I,cg I.symm];rfl;rw[aE I,aE (λe=>I e.symm)];rfl
  |sliceU id off len es'=>
   let⟨l,h,g,M⟩:=hb len (λl=>rfl);have g:K6.unk nid es l id off len es' h=some r:=g;simp only[K6.unk]at g;let⟨W,p1⟩:=K4 g;let⟨O,p2⟩:=K4 p1;let⟨q3,p3⟩:=K4 p2;clear g p1 p2;have W:=D5 W;have O:=D5 O;obtain rfl:=nA q3;let⟨J,G,F⟩:=e2;have F:off+len*es<=(n.cap id):=F;rw[D id J]at F;have K:len<=((ι id).cap-off) / es:=(atc G).2 Zs;have hX:u7 ι (.sliceU id off len es)=.slice (some (ι.at id off)) len (((ι id).cap-off) / es):=by simp[u7]
   have B:=λw=>E _ _ _ l h w hX (M _ w W (dn O K));have a0:∀k,k*es<=(ι id).cap-off->((ι id).cap-(off+k*es)) / es=((ι id).cap-off) / es-k:=by intro k hk;rw[← Nat.sub_sub,ajr k es,Nat.sub_mul_div]
   cases H:blt l len with
   |true=>
    have g:some (j5.sliceU id (off+l*es) (h-l) es,none)=some r:=(by rw[H]at p3;exact p3);have al:l<len:=Eq.mp O8 H;cases g;have a1:h*es<=len*es:=U0 _ O;have ah:l*es+(h-l)*es=h*es:=(by rw[← ajx];congr 1;omega);refine .none ⟨J,G,by rw[D id J];omega⟩ λo A w=>?_;rw[B w o A,aE Zs];simp only[u7,ag8,Q0.rO]
    rw[a0 l (by have:l*es<=len*es:=U0 _ Zs
                omega)]
   |false=>
    have ak:len<=l:=by rcases asW l len with hh|hh;rw[(Eq.mpr O8 hh:blt l len=true)]at H;cases H;exact hh
    have g:bi (beq l 0) (some (j5.sliceU id off (h-l) es,none)) (some (.sliceU nid 0 0 es,some (.tail id)))=some r:=(by rw[H]at p3;exact p3);rw[yV]at g;split at g;rename_i L;subst L;cases g;obtain rfl:len=0:=Zs;obtain rfl:h=0:=Zs;refine .none ⟨J,G,by rw[D id J];omega⟩ λo A w=>?_;rw[B w o A];simp only[u7,ag8,Q0.rO,ah3,adh,Nat.sub_zero,ite_self];cases g;obtain rfl:l=len:=Zs;obtain rfl:h=l:=Zs;by_cases I:((ι id).cap-off) / es=h;refine .tail ⟨(ι id).b,(ι id).base+off,0,if off=0 then(ι id).spot else none⟩ J (.inl rfl) (λo A w=>?_) λn' hm C D=>⟨C,G,by rw[D];simp⟩;rw[B w o A,cg I,I];simp[u7,Q0.at];refine .tail ⟨(ι id).b,(ι id).base+(off+h*es),(ι id).cap-(off+h*es),if off+h*es=0 then(ι id).spot else none⟩ J (.inr ⟨rfl,by show(ι id).base+(off+h*es)+((ι id).cap-(off+h*es))<=(ι id).base+(ι id).cap;omega,λhh=>by show(if off+h*es=0 then(ι id).spot else none)=none;rw[hh];simp⟩) (λo A w=>?_) λn' hm C D=>⟨C,G,by rw[D];simp⟩;rw[B w o A,aE I,← a0 h Zs];have V:=Q0.rO ι id off (h*es);simp only[u7,ag8,V];simp[Q0.at]
  |_=>let⟨l,h,g,_⟩:=hb 0 (λl=>rfl);cases g
end
variable {b':Y9}
def cD.tu{m:cD}(h:T.Ok m.t m.nx){id:Nat}{b:Y9}(c:m.get id=some b)(a:jU b'=false)(i:Nat)(hi:m.has i):(m.set id b').has i:=by let⟨x,d,e⟩:=hi;by_cases he:i=id;subst he;exact⟨b',by rw[cD.R9 h (cD.Q9 h c),cg rfl],a⟩;exact⟨x,by rw[cD.R9 h (cD.Q9 h c),aE he];exact d,e⟩
def getElem?_set_ne(a:Array Obj)(i j:Nat)(o:Obj)(h:i≠j):(a.setIfInBounds i o)[j]?=a[j]?:=P5 h
structure Put(w w':cG)(b:Nat)(o:Obj):Prop where
 heap:w'.heap=w.heap.setIfInBounds b o
 os:w'.os=w.os
 out:w'.output=w.output
 tape:w'.tape=w.tape
variable {w':cG}
def Step.set{P:cH}{G:cD}{ι:Q0}{m:cD}{w:cG}(h:RM P G ι m w.heap){id:Nat}{b:Y9}(r:m.lim<=id)(q:m.get id=some b)(u:bN b=true)
   (L:jU b'=false) {o:Obj} (s:Put w w' (ι id).b o)
   (D:iF P ι ((m.set id b').nm ι) (w.heap.setIfInBounds (ι id).b o) (ι id) b')
   (hf:∀c e fz,o=.cells c e fz->∀k,k<c.size->¬ (fz.1<=k∧k<fz.2)):
   Step P G ι m w ι (m.set id b') w':=by
 have F:=cD.Q9 h.ok q;have a:=cD.R9 h.ok F b';have l:=λi p=>cD.tu h.ok q L i p;have v:=h.own id b r q u;have E:(ι id).b<w.heap.size:=iG (h.blk id b q) u;refine⟨⟨h.ok.put id b' F,?_,?_,h.glim,h.limn,h.gle,λi p=>by rw[a,aE (by have:=h.glim;omega)];exact h.base i p,λi p=>l i (h.ghas i p),h.glob,λi x d f=>by
   rw[a]at d;split at d;rename_i e;subst e;exact h.spot i b q u;exact h.spot i x d f,h.QT λt A O=>by
   rw[s.heap,getElem?_set_ne];intro e;exact O ⟨id,b,r,q,u,e⟩⟩,λ_ _=>rfl,l,aA _,rfl,?_,by rw[s.heap];simp,?_,?_,s.os,s.out,s.tape⟩
 intro i x d;rw[a]at d;rw[s.heap];split at d;rename_i e;subst e;cases d;exact D;rename_i e;exact(h.blk i x d).mono (n:=m.nm ι) (λ_ _=>rfl) (cD.dL l λ_ _=>rfl) (λf=>getElem?_set_ne _ _ _ _ (λK=>v.alone i x e d f K.symm));intro i x p d f;rw[a]at d;have I:∀j y,m.get j=some y->bN y=true->j≠i->∀(z:Y9),m.get i=some z->bN z=true->(ι j).b≠(ι i).b:=λj y H B N z C g=>(h.own i z p C g).alone j y N H B;have M:∃z,m.get i=some z∧bN z=true:=by split at d;rename_i e;subst e;exact⟨b,q,u⟩;exact⟨x,d,f⟩
 let⟨z,C,g⟩:=M;refine⟨λj y Q H B=>?_,λc e fz J=>?_⟩;rw[a]at H;split at H;rename_i R;subst R;exact I j b q u Q z C g;exact I j y H B Q z C g;by_cases he:i=id;subst he;rw[s.heap,P8 E]at J;exact hf c e fz (rW J);rw[s.heap,getElem?_set_ne _ _ _ _ (λK=>v.alone i z he C g K.symm)]at J;exact(h.own i z p C g).free c e fz J;intro i p;rw[a,aE Zs];intro t A O;rw[s.heap,getElem?_set_ne];intro e;exact O ⟨id,b,r,q,u,e⟩;rintro t ⟨i,x,p,d,f,rfl⟩;rw[a]at d;split at d;rename_i e;subst e;exact .inl ⟨i,b,r,q,u,rfl⟩;exact .inl ⟨i,x,p,d,f,rfl⟩
def Step.kill{P:cH}{G:cD}{ι:Q0}{m:cD}{w:cG}(h:RM P G ι m w.heap){id:Nat}{b:Y9}(q:m.lim<=id)(o:m.get id=some b):
   Step P G ι m w ι (m.set id .dead) w:=by
 have k:=cD.Q9 h.ok o;have d:=cD.R9 h.ok k .dead;have e:=λi f=>cD.tu (b':=.dead) h.ok o rfl i f;have g:∀i x,(m.set id .dead).get i=some x->bN x=true->m.get i=some x:=λi x c a=>by rw[d]at c;split at c;cases c;cases a;exact c
 refine⟨⟨h.ok.put id .dead k,?_,?_,h.glim,h.limn,h.gle,λi f=>by rw[d,aE (by have:=h.glim;omega)];exact h.base i f,λi f=>e i (h.ghas i f),h.glob,λi x c a=>h.spot i x (g i x c a) a,h.gsz⟩,λ_ _=>rfl,e,aA _,rfl,?_,aA _,λ_ _ _=>rfl,?_,rfl,rfl,rfl⟩;intro i x c;rw[d]at c;split at c;cases c;trivial;exact(h.blk i x c).mono (n:=m.nm ι) (λ_ _=>rfl) (cD.dL e λ_ _=>rfl) (λ_=>rfl);intro i x f c a;have p:=h.own i x f (g i x c a) a;exact⟨λj y r s l=>p.alone j y r (g j y s l) l,p.free⟩;intro i f;rw[d,aE Zs];rintro b₁ ⟨i,x,f,c,a,rfl⟩;exact .inl ⟨i,x,f,g i x c a,a,rfl⟩
variable {cf:G6}{rows':T cM}
section
variable {P:cH}{G:cD}{ι:Q0}{m:cD}{w:cG}{cr:cR}{done:List (Option Nat)}{ls:cM}{env:T j5}{a:Act}
def jo(P:cH)(G:cD)(ι:Q0)(m:cD)(w:cG)(outs:List VM)(v:Value)(w':cG):Prop:=
 ∃r∈outs,∃ι',Step P G ι m w ι' r.m w'∧r.v.lt (r.m.nm ι')∧v=u7 ι' r.v
def Does(P:cH)(ρ:Operand->Value)(o:Oper)(w:cG)(R:Value->cG->Prop):Prop:=
 match (execOp ρ o).run P w with
 |.ok (.value v) w'=>R v w'
 |.ok .skip w'=>R undef w'
 |.ok (.enter f args) w'=>CallsIn Fence.wide 0 P f args w' λe w''=>∃v,e=.returned v∧R v w''
 |.ok (.round l f tmps assign body) w'=>RoundIn Fence.wide 0 P l f tmps assign body w' λe w''=>∃v,e=.returned v∧R v w''
 |_=>False
def bG{a:Operand->Value}{o:Oper}{R:Value->cG->Prop}{v:Value}(h:(execOp a o).run P w=.ok (.value v) w')(b:R v w'):Does P a o w R:=by unfold Does;rw[h];exact b
def ME{a:Operand->Value}{o:Oper}{R:Value->cG->Prop}(h:(execOp a o).run P w=.ok .skip w')(b:R undef w'):Does P a o w R:=by unfold Does;rw[h];exact b
def ze:∀{l:cM},H8 l=true->∀v∈l,D8 v=true
 |[],_,v,hv=>by cases hv
 |x::l,h,v,hv=>by
  have h:bi (D8 x) (H8 l) false=true:=h;cases hx:D8 x with
  |false=>rw[hx]at h;cases h
  |true=>rw[hx]at h;rcases O4.1 hv with rfl|hv;exact hx;exact ze h v hv
def MF{v:j5}(h:D8 v=true):(∀l,u7 ι v≠.agg l)∧∀l,u7 ι v≠.tuple l:=by cases v<;>simp_all[D8,u7]
def run_store{a:Addr}{v x:Value}{w:cG}(d:w.cell? a=some x)(hf:w.frozen? a=false)(b:∀l,v≠.agg l)(c:∀l,v≠.tuple l):
   (store a v).run P w=.ok () (w.setCell a v):=by
 cases v<;>first|exact cj rfl (b _)|exact cj rfl (c _)|simp[store,Sem.run,d,hf]
def over(c:Array Value)(o:Nat):List Value->Array Value
 |[]=>c
 |v::l=>over (c.setIfInBounds o v) (o+1) l
@[simp] theorem ajw(l:List Value):∀(c:Array Value) (o:Nat),(over c o l).size=c.size:=by
 induction l with
 |nil=>intro c o;rfl
 |cons v l ih=>intro c o;rw[over,ih];simp
def Jr(l:List Value):∀(c:Array Value) (o:Nat),o+l.length<=c.size->∀i,(over c o l)[i]?=if i<o then c[i]? else if i<o+l.length then l[i-o]? else c[i]?:=by
 induction l with
 |nil=>intro c o h i;simp[over];omega
 |cons v l ih=>intro c o h i;simp only[aa5]at h ⊢;rw[over,ih _ _ ZD];by_cases h1:i<o;rw[cg h1,cg Zs,P5 Zs];by_cases h2:i=o;subst h2;rw[cg Zs,aE h1,cg Zs,P8 Zs];simp;rw[aE Zs,aE h1];by_cases h3:i<o+1+l.length;rw[cg h3,cg Zs,show i-o=(i-(o+1))+1 from by omega];simp;rw[aE h3,aE Zs,P5 Zs]
def zf{b:Nat}{e:cI}{d:Nat×Nat}:∀(vs:List Value) (c:Array Value) (base i:Nat) (w:cG),w.heap[b]?=some (.cells c e d)->
   base+i+vs.length<=c.size->(∀k,k<c.size->¬ (d.1<=k∧k<d.2))->(∀v∈vs,(∀l,v≠.agg l)∧∀l,v≠.tuple l)->
   (storeCells ⟨b,base,none⟩ vs i).run P w=.ok () {w with heap:=w.heap.setIfInBounds b (.cells (over c (base+i) vs) e d)}:=by
 intro vs;induction vs with
 |nil=>
  intro c base i w a p h n;have:w.heap.setIfInBounds b (.cells c e d)=w.heap:=by apply as4;intro j;by_cases hj:b=j;subst hj;rw[P8 (vo.1 a).1,a];rw[P5 hj]
  simp[storeCells,over,this]
 |cons v vs ih=>
  intro c base i w a p h n;simp only[aa5]at p;have f:base+i<c.size:=Zs
  have o:=n v ZZ;have q:w.cell? ⟨b,base+i,none⟩=some c[base+i]:=by simp[World.cell?,a,f]
  have m:w.frozen? ⟨b,base+i,none⟩=false:=by have:=h (base+i) f;simp only[World.frozen?,a,awZ,decide_eq_false_iff_not];omega
  simp only[storeCells,wu];rw[show(⟨b,base,none⟩:Addr).add i=⟨b,base+i,none⟩from by simp[Addr.add],run_store q m o.1 o.2,nM];have g:w.setCell ⟨b,base+i,none⟩ v={w with heap:=w.heap.setIfInBounds b (.cells (c.setIfInBounds (base+i) v) e d)}:=by simp only[World.setCell];congr 1;apply as4;intro j;rw[Array.getElem?_modify];by_cases hj:b=j;subst hj;rw[cg rfl,a,P8 (vo.1 a).1];simp;rw[aE hj,P5 hj]
  rw[g,ih (c.setIfInBounds (base+i) v) base (i+1) _ (by simp[P8 (vo.1 a).1]) ZD (by simpa using h) (λx r=>n x (by simp[r]))];congr 2;simp[over,aie]
def LU{n:Nat}{vs:cM}(h:bf rs n cF off vs=some rows'):
   off / rs<n∧∃row,cF.get (off / rs)=some row∧off%rs+vs.length<=rs∧rows'=cF.put (off / rs) (pK (off%rs) vs row):=by
 let⟨b,h⟩:=K4 h;let⟨row,c,h⟩:=D7 h;let⟨a,h⟩:=K4 h;have a:=D5 a;rw[K7]at a;cases h;exact⟨Eq.mp O8 b,row,c,a,rfl⟩
def DL{n:Nm}{h':Array Obj}{l:Loc}{k:Nat}{vs:cM}(hb:iF P ι n h l (.cells rs k cF))(K:bf rs k cF off vs=some rows')
   (s:fD n vs) {c:Array Value} {e:cI} {o:Nat×Nat} (H:h[l.b]?=some (.cells c e o)) (q:h'[l.b]?=some (.cells (over c (l.base+off) (A9 ι vs)) e o)):
   iF P ι n h' l (.cells rs k rows')∧l.base+off+vs.length<=c.size:=by
 let⟨t,u,p,y,E,⟨F,N,G,f⟩,z⟩:=hb;rw[H]at y;cases y;obtain⟨B,R,S,U,rfl⟩:=LU K;let⟨d,w,C,x,D⟩:=z _ B;rw[S]at w;cases w;have I:off / rs*rs+off%rs=off:=by rw[ajr];exact awy off rs
 have A:off / rs*rs+rs<=k*rs:=by
  calc off / rs*rs+rs=(off / rs+1)*rs:=by rw[aic]
   _<=k*rs:=U0 _ B
 have g:l.base+off+vs.length<=c.size:=Zs
 refine⟨⟨_,e,o,q,by simpa using E,⟨F,N,G,f.put _ _ Zs⟩,λi J=>?_⟩,g⟩;by_cases hi0:i=off / rs;subst hi0;refine⟨_,T.aN f _ _ Zs,by rw[Dl _ _ _ Zs];exact C,?_,λj r=>?_⟩;rw[pU _ _ _ Zs,gK];intro v a;rcases LA.1 a with a|a;exact aj x (adn a);rcases LA.1 a with a|a;exact aj s a;exact aj x (ahh a);have m:=D j r;rw[Jr _ _ _ ZD,Yj _ _ _ Zs];simp only[dN];by_cases c1:j<off%rs;rw[cg Zs,aE Zs];exact m;by_cases c2:j<off%rs+vs.length;rw[aE Zs,cg Zs,cg Zs,eU];congr 2;omega;rw[aE Zs,aE Zs,aE Zs];exact m;let⟨d,L,M,O,Q⟩:=z i J;refine⟨d,by rw[T.bU f _ _ _ Zs (λe=>hi0 e.symm)];exact L,M,O,λj r=>?_⟩;rw[Jr _ _ _ ZD,← Q j r];simp only[dN];rcases asW i (off / rs)with hlt|hge;have:i*rs+rs<=off / rs*rs:=by
  calc i*rs+rs=(i+1)*rs:=by rw[aic]
   _<=off / rs*rs:=U0 _ hlt
 rw[cg Zs];have:off / rs*rs+rs<=i*rs:=by
  calc off / rs*rs+rs=(off / rs+1)*rs:=by rw[aic]
   _<=i*rs:=U0 _ Zs
 rw[aE Zs,aE Zs]
def LV(rs n:Nat)(cF:T cM)(off:Nat):kH rs n [] cF off=some cF:=rfl
def Js(rs n:Nat)(v:j5)(vs:cM)(cF:T cM)(off:Nat):
   kH rs n (v::vs) cF off=ob (bf rs n cF off [v]) λrows'=>kH rs n vs rows' (off+1):=rfl
def oV{h:Array Obj}{b:Nat}{x o:Obj}(hb:h[b]?=some x):(h.setIfInBounds b o)[b]?=some o:=
 P8 (vo.1 hb).1
def set_set(h:Array Obj)(b:Nat)(x y:Obj):(h.setIfInBounds b x).setIfInBounds b y=h.setIfInBounds b y:=by apply as4;intro j;by_cases hj:b=j;subst hj;by_cases hb:b<h.size;rw[P8 (by simpa using hb),P8 hb];simp[avV hb];rw[P5 hj,P5 hj,P5 hj]
def LW{n:Nm}{l:Loc}{k:Nat}{e:cI}{g:Nat×Nat}:∀(vs:cM) (off:Nat) (cF rows':T cM) (h:Array Obj) (c:Array Value),
   iF P ι n h l (.cells rs k cF)->kH rs k vs cF off=some rows'->fD n vs->h[l.b]?=some (.cells c e g)->
   iF P ι n (h.setIfInBounds l.b (.cells (over c (l.base+off) (A9 ι vs)) e g)) l (.cells rs k rows')∧(vs≠[]->l.base+off+vs.length<=c.size):=by
 intro vs;induction vs with
 |nil=>intro off cF rows' h c i f _ a;rw[LV]at f;cases f;refine⟨i.mono (n:=n) (λ_ _=>rfl) (Nm.le_refl n) λ_=>?_,λh=>cj rfl h⟩;rw[oV a,a];rfl
 |cons v vs ih=>
  intro off cF rows' h c i f d a;rw[Js]at f;let⟨m,r,s⟩:=D7 f;let⟨o,p⟩:=DL (h':=h.setIfInBounds l.b (.cells (over c (l.base+off) (A9 ι [v])) e g)) i r ⟨d.1,trivial⟩ a (oV a);let⟨j,q⟩:=ih (off+1) _ _ _ _ o s d.2 (oV a);rw[set_set]at j;refine⟨?_,λ_=>?_⟩;simpa[A9,over,aie]using j;cases vs with
  |nil=>simpa using p
  |cons u vs=>have:=q ZZ;simp at this ⊢;omega
def MG(q:RM P G ι m w.heap){id k:Nat}(p:m.lim<=id)(o:m.get id=some (.cells rs k cF)){vs:cM}
   (x:H8 vs=true) (z:fD (m.nm ι) vs)
   (hb:∀c e fz,w.heap[(ι id).b]?=some (.cells c e fz)->iF P ι (m.nm ι) (w.heap.setIfInBounds (ι id).b (.cells (over c ((ι id).base+off) (A9 ι vs)) e fz)) (ι id) (.cells rs k rows')∧
    (vs≠[]->(ι id).base+off+vs.length<=c.size)):
   ∃w',(storeCells (ι.at id off) (A9 ι vs) 0).run P w=.ok () w'∧Step P G ι m w ι (m.set id (.cells rs k rows')) w':=by
 let⟨c,e,fz,f,_⟩:=q.blk id _ o;let⟨d,g⟩:=hb c e fz f;have a:=(q.own id _ p o rfl).free c e fz f;have r:∀v∈A9 ι vs,(∀l,v≠.agg l)∧∀l,v≠.tuple l:=by intro v s;rw[fF]at s;obtain⟨u,A,rfl⟩:=adg.1 s;exact MF (ze x u A)
 refine⟨{w with heap:=w.heap.setIfInBounds (ι id).b (.cells (over c ((ι id).base+off) (A9 ι vs)) e fz)},?_,?_⟩;cases vs with
 |nil=>
  have:w.heap.setIfInBounds (ι id).b (.cells c e fz)=w.heap:=by apply as4;intro j;by_cases hj:(ι id).b=j;subst hj;rw[oV f,f];rw[P5 hj]
  simp[A9,storeCells,over,this]
 |cons v vs=>have:=g ZZ;rw[Q0.Dm (q.spot id _ o rfl)];exact zf (A9 ι (v::vs)) c ((ι id).base+off) 0 w f (by simpa using this) a r
 refine Step.set q p o rfl rfl ⟨rfl,rfl,rfl,rfl⟩ ?_ (λB C t h=>by cases h;simpa using a);exact d.mono (n:=m.nm ι) (λ_ _=>rfl) (cD.dL (λi y=>cD.tu q.ok o rfl i y) λ_ _=>rfl) λ_=>rfl
def LX(j:RM P G ι m w.heap){id:Nat}{vs:cM}{k:cD->Option β}{r:β}(hs:storeAt m id off vs k=some r)(a:fD (m.nm ι) vs):
   ∃m' w',k m'=some r∧(storeCells (ι.at id off) (A9 ι vs) 0).run P w=.ok () w'∧Step P G ι m w ι m' w':=by
 let⟨f,hs⟩:=Dk hs;let⟨u,hs⟩:=K4 hs;let⟨y,n,l,i,hs⟩:=qY hs;let⟨rows',x,v⟩:=D7 hs;have d:m.lim<=id:=by rcases asW id m.lim with h|h;rw[(Eq.mpr O8 h:blt id m.lim=true)]at f;cases f;exact h
 let⟨w',s,t⟩:=MG (off:=off) (rows':=rows') j d i u a (λc e o g=>by
  let⟨p,q⟩:=DL (h':=w.heap.setIfInBounds (ι id).b (.cells (over c ((ι id).base+off) (A9 ι vs)) e o)) (j.blk id _ i) x a g (oV g);exact⟨p,λ_=>q⟩)
 exact⟨_,w',v,s,t⟩
def qz(f:RM P G ι m w.heap){id:Nat}{vs:cM}{k:cD->Option β}{r:β}(hs:gY m id off vs k=some r)(b:fD (m.nm ι) vs):
   ∃m' w',k m'=some r∧(storeCells (ι.at id off) (A9 ι vs) 0).run P w=.ok () w'∧Step P G ι m w ι m' w':=by
 cases vs with
 |nil=>exact⟨m,w,hs,by simp[A9,storeCells],Step.refl f⟩
 |cons v vs=>
  have hs:bi (blt id m.lim) none (bi (H8 (v::vs)) (aY (m.get id) λg n a=>ob (kH g n (v::vs) a off) λrows'=>k (m.set id (.cells g n rows'))) none)=some r:=hs;let⟨i,hs⟩:=Dk hs;let⟨p,hs⟩:=K4 hs;let⟨g,n,a,j,hs⟩:=qY hs;let⟨rows',t,s⟩:=D7 hs;have d:m.lim<=id:=by rcases asW id m.lim with h|h;rw[(Eq.mpr O8 h:blt id m.lim=true)]at i;cases i;exact h
  let⟨w',l,o⟩:=MG (off:=off) (rows':=rows') f d j p b (λc e u q=>LW (v::vs) off a rows' _ c (f.blk id _ j) t b q);exact⟨_,w',s,l,o⟩
def vC{a b:Nat}(h:blt a b=false):b<=a:=by rcases asW a b with g|g;rw[(Eq.mpr O8 g:blt a b=true)]at h;cases h;exact g
def Rk(s:St P ι (m.nm ι) cr done ls env a.tmps)(v:RM P G ι m w.heap){t:cI}{x:Operand}{k:Nat}{n d:aS}(u:gV P t=some k)
   (B:aD P cr done x=some n) (C:aD P cr done y=some d)  {b:List VM} (A:xD (.store k n d) cf ls env m=some b):
   ∀o:Oper,o.op=.store t x y->Does P a.eval o w (jo P G ι m w b):=by
 intro o z;let⟨id,off,g,h⟩:=lS A;have g:J6 n ls env=.ptr id off:=g;let⟨i,h⟩:=K4 h;have i:(J6 d ls env).cells.length=k:=by rw[← K7];exact nA i
 let⟨p,_⟩:=D9 s B;let⟨q,f⟩:=D9 s C;let⟨D,w',j,e,c⟩:=LX v h (Dn f);cases j;refine ME (w':=w') ?_ ⟨_,lM.2 rfl,ι,c,trivial,rfl⟩;have l:(u7 ι (J6 d ls env)).cells.size=k:=by rw[rM];simp[i]
 have r:(u7 ι (J6 d ls env)).cells.toList=A9 ι (J6 d ls env).cells:=by rw[rM]
 simp[execOp,z,Instr.storeAt,p,q,g,u7,Instr.sureAddr,storeVar,run_sizeOf u,l,r,e]
end
variable {seen:cR}{mp:Nat}
section
variable {P:cH}{G:cD}{ι:Q0}{m:cD}{w:cG}{cr:cR}{done:List (Option Nat)}{ls:cM}{env:T j5}{a:Act}
def Jt{r:Nat}{o x:Obj}(h:w.heap[r]?=some x)(a:∀c e fz,x≠.cells c e fz):(setObj r o).run P w=.ok () {w with heap:=w.heap.setIfInBounds r o}:=by simp only[setObj,Sem.run,h]
def oW{kk:PK}{x y:j5}(h:QB kk x y=some true)(n:Nat):Instr.sameBits n (u7 ι x) (u7 ι y)=true:=by
 cases kk with
 |i=>obtain⟨k,p,q,rfl,rfl,a⟩:=wB (show jQ x y=some true from h);simp[u7,Instr.sameBits];simpa using a.symm
 |b=>obtain⟨p,q,rfl,rfl,a⟩:=mG (show um x y=some true from h);simp[u7,Instr.sameBits];simpa using a.symm
 |s=>obtain⟨p,q,rfl,rfl,a⟩:=wC (show eqStr x y=some true from h);simp[u7,Instr.sameBits,uw];simpa using a.symm
def Bu:∀(ks:List PK) (x y:cM),gu ks x y=some true->x.length=ks.length->y.length=ks.length->∀n,
   ((A9 ι x).zip (A9 ι y)).all (λ(p:Value×Value)=>Instr.sameBits n p.1 p.2)=true
 |[],x,y,_,h1,h2,n=>by cases x<;>simp_all[A9]
 |k::ks,x,y,h,h1,h2,n=>by
  cases x with
  |nil=>simp at h1
  |cons a x=>
   cases y with
   |nil=>simp at h2
   |cons b y=>
    rw[mH]at h;let⟨r,h3,h4⟩:=D7 h;cases r with
    |false=>cases h4
    |true=>have ih:=Bu ks x y h4 (by simpa using h1) (by simpa using h2) n;simp only[A9,List.zip_cons_cons,axW,oW h3 n,ajy];exact ih
def OL{kk:Ig}{t:cI}(z:Dj P t=some kk){x y:j5}(h:xO kk x y=some true)(f:x.cells.length=Oj kk)(g:y.cells.length=Oj kk):
   Instr.sameBits 10000 (u7 ι y) (u7 ι x)=true:=by
 have c:∀kk x y,QB kk x y=some true->QB kk y x=some true:=by
  intro kk x y h;cases kk with
  |i=>obtain⟨k,p,q,rfl,rfl,d⟩:=wB (show jQ x y=some true from h)
      have:p=q:=(by simpa using d.symm);subst this;exact h
  |b=>obtain⟨p,q,rfl,rfl,d⟩:=mG (show um x y=some true from h)
      have:p=q:=(by simpa using d.symm);subst this;exact h
  |s=>obtain⟨p,q,rfl,rfl,d⟩:=wC (show eqStr x y=some true from h)
      have:p=q:=(by simpa using d.symm);subst this;exact h
 rcases Fh z with⟨rfl,_⟩|⟨_,rfl,_⟩|⟨rfl,_⟩|⟨fs,a,rfl,_,_⟩;exact oW (kk:=.b) (c .b x y h) _;exact oW (kk:=.i) (c .i x y h) _;exact oW (kk:=.s) (c .s x y h) _;obtain⟨l,rfl,n⟩:=jV h;obtain⟨j,rfl,o⟩:=jV n;have f:l.length=a.length:=f;have g:j.length=a.length:=g;have e:∀(a:List PK) (x y:cM),gu a x y=some true->gu a y x=some true:=by
  intro a;induction a with
  |nil=>intro x y h;exact oH y x
  |cons k a ih=>
   intro x y h;cases x with
   |nil=>cases h
   |cons u x=>
    cases y with
    |nil=>cases h
    |cons v y=>
     rw[mH]at h ⊢;let⟨r,w,m⟩:=D7 h;cases r with
     |false=>cases m
     |true=>rw[c k u v w];exact ih x y m
 have:=Bu (ι:=ι) a j l (e a l j o) g f 9999;simp only[u7,Instr.sameBits,ato,dN,f,g,beq_self_eq_true,ajy];exact this
def zi(ι:Q0)(e:j5×j5):∀(es:List (j5×j5)) (j:Nat),L8 ι (es++[e]) j=L8 ι es j++[{key:=u7 ι e.1,val:=u7 ι e.2,born:=j+es.length}]
 |[],j=>by simp[L8]
 |x::es,j=>by simp[L8,zi ι e es,aie,as2 1]
def Un(k v:j5)(i:Nat):mZ [] k v i=[]:=rfl
def zk(e:j5×j5)(es:List (j5×j5))(k v:j5):mZ (e::es) k v 0=(k,v)::es:=rfl
def zl(e:j5×j5)(es:List (j5×j5))(k v:j5)(i:Nat):mZ (e::es) k v (i+1)=e::mZ es k v i:=rfl
def Bv(k v:j5):∀(es:List (j5×j5)) (i:Nat),(mZ es k v i).length=es.length
 |[],i=>rfl
 |e::es,0=>by simp[zk]
 |e::es,i+1=>by simp[zl,Bv k v es]
def Ju{k v:j5}:∀{es:List (j5×j5)} {i:Nat} {x:j5×j5},x∈mZ es k v i->x=(k,v)∨x∈es
 |[],i,x,h=>by cases h
 |e::es,0,x,h=>by rw[zk]at h;rcases O4.1 h with h|h;exact .inl h;exact .inr (aa1 _ h)
 |e::es,i+1,x,h=>by rw[zl]at h;rcases O4.1 h with h|h;exact .inr (by rw[h];exact agD);rcases Ju h with h|h;exact .inl h;exact .inr (aa1 _ h)
def zm(ι:Q0)(k v:j5):∀(es:List (j5×j5)) (i j:Nat),
   (L8 ι es j).modify i (λe=>{e with key:=u7 ι k,val:=u7 ι v})=L8 ι (mZ es k v i) j
 |[],i,j=>by simp[L8,Un]
 |e::es,0,j=>by simp[L8,zk]
 |e::es,i+1,j=>by simp[L8,zl,zm ι k v es]
def Ib(D:RM P G ι m w.heap){t Q e:cI}{kk:Ig}(O:P.underlying t=some (.map Q e))(K:Dj P Q=some kk){id:Nat}{k x:j5}{es:List (j5×j5)}
   (A:m.lim<=id) (z:m.get id=some (.map es))  (hf:gD (xO kk) (Oj kk) k es=some r) (C:k.lt (m.nm ι)) (E:x.lt (m.nm ι)) {n:List VM}
   (s:Option.rec (one .undef (m.set id (.map (dK es [(k,x)])))) (λp=>ob (vU p.1 es) λe=>
    bi (beq (len' e.1.cells) (Oj kk)) (one .undef (m.set id (.map (mZ es k x p.1)))) none) r=some n):
   ∃w',(Instr.mapUpdate t (.map (some (ι id).b)) (u7 ι k) (u7 ι x)).run P w=.ok () w'∧jo P G ι m w n undef w':=by
 let⟨M,⟨y,b,S⟩,N⟩:=Dw hf;let⟨c,f⟩:=D.blk id _ z;have g:=oI (P:=P) c (by intro _ _ _ e;cases e);have l:=λo=>Jt (P:=P) (o:=o) c (by intro _ _ _ e;cases e);have v:=Bt (ι:=ι) K N w;have u:=WL (ι:=ι) K M S false w;cases r with
 |none=>cases s;refine⟨{w with heap:=w.heap.setIfInBounds (ι id).b (.map (L8 ι (es++[(k,x)]) 0).toArray (es++[(k,x)]).length)},?_,_,lM.2 rfl,ι,Step.set D A z rfl rfl (o:=.map (L8 ι (es++[(k,x)]) 0).toArray (es++[(k,x)]).length) ⟨rfl,rfl,rfl,rfl⟩ ?_ (by intro _ _ _ h;cases h),trivial,rfl⟩;simp only[Instr.mapUpdate,wu,cC O,g,nM,u,v,xH,awh,l];simp[zi];rw[V9];refine⟨oV c,λe d=>?_⟩;have a:=cD.dL (ι:=ι) (ι':=ι) (λi J=>cD.tu (b':=.map (es++[(k,x)])) D.ok z rfl i J) λ_ _=>rfl;rcases LA.1 d with d|d;exact⟨j5.aU a _ (f e d).1,j5.aU a _ (f e d).2⟩;rw[lM.1 d];exact⟨j5.aU a _ C,j5.aU a _ E⟩
 |some p=>
  let⟨e,H,s⟩:=D7 s;let⟨I,s⟩:=K4 s;cases s;rw[nu]at H;have I:e.1.cells.length=Oj kk:=by rw[← K7];exact nA I
  let⟨j,T,F,L,_,R⟩:=BX N;rw[P7]at F;rw[F,L]at H;cases H;have q:=OL (ι:=ι) K R M I;refine⟨{w with heap:=w.heap.setIfInBounds (ι id).b (.map (L8 ι (mZ es k x p.1) 0).toArray es.length)},?_,_,lM.2 rfl,ι,Step.set D A z rfl rfl (o:=.map (L8 ι (mZ es k x p.1) 0).toArray es.length) ⟨rfl,rfl,rfl,rfl⟩ ?_ (by intro _ _ _ h;cases h),trivial,rfl⟩;have B:(((L8 ι es 0).toArray[p.1]?).map (·.key)).getD (u7 ι k)=u7 ι e.1:=by simp[pV,F,L]
  simp only[Instr.mapUpdate,wu,cC O,g,nM,u,v,xH,ag8,B,Instr.keyThatStays,q,if_true,aa2,l];rw[List.modify_toArray,zm];refine⟨by rw[Bv];exact oV c,λe d=>?_⟩;have a:=cD.dL (ι:=ι) (ι':=ι) (λi J=>cD.tu (b':=.map (mZ es k x p.1)) D.ok z rfl i J) λ_ _=>rfl;rcases Ju d with d|d;rw[d];exact⟨j5.aU a _ C,j5.aU a _ E⟩;exact⟨j5.aU a _ (f e d).1,j5.aU a _ (f e d).2⟩
def DN(s:St P ι (m.nm ι) cr done ls env a.tmps)(F:RM P G ι m w.heap){t n e:cI}{kk:Ig}(I:P.underlying t=some (.map n e))(E:Dj P n=some kk)
   {x k:Operand} {j l p:aS} (K:aD P cr done x=some j) (i:aD P cr done k=some l) (L:aD P cr done y=some p)
    {b:List VM} (J:xD (.mapSet kk j l p) cf ls env m=some b):
   ∀o:Oper,(o.op=.mapUpdate t x k y∨o.op=.insert t x k y)->Does P a.eval o w (jo P G ι m w b):=by
 intro o c;rcases Al J with⟨_,h⟩|⟨id,g,h⟩;cases h;let⟨B,h⟩:=Dk h;let⟨M,D,h⟩:=BU h;let⟨r,C,H⟩:=D7 h;have g:J6 j ls env=.map id:=g;let⟨q,_⟩:=D9 s K;let⟨u,d⟩:=D9 s i;let⟨v,f⟩:=D9 s L;let⟨w',z,A⟩:=Ib F I E (vC B) D C d f H;refine ME (w':=w') ?_ A;rcases c with c|c<;>simp[execOp,c,q,u,v,g,u7,z]
def Rm(d:RM P G ι m w.heap)(mp:Option Nat)(since:Nat)(a:∀x,mp=some x->m.has x):
   jo P G ι m w [⟨.ptr m.nx 0,m.new (.iter mp since [])⟩] (.pointer (some ⟨w.heap.size,0,none⟩)) {w with heap:=w.heap.push (.mapIter (mp.map λx=>(ι x).b) since #[] since)}:=by
 have c:=Laid.new d.ok d.limn (.iter mp since []) rfl;refine⟨_,lM.2 rfl,ι.upd m.nx ⟨w.heap.size,0,0,none⟩,Step.lay (w':={w with heap:=w.heap.push (.mapIter (mp.map λx=>(ι x).b) since #[] since)}) d c (o:=.mapIter (mp.map λx=>(ι x).b) since #[] since) ⟨rfl,rfl,rfl,rfl⟩ rfl rfl ?_ (by intro _ _ _ h;cases h),c.self,by simp[u7,Q0.at]⟩;refine⟨rfl,λx f=>c.has x (a x f),#[],since,?_,rfl,λ_=>rfl⟩;show(w.heap.push _)[w.heap.size]?=_;rw[kM];cases mp with
 |none=>rfl
 |some x=>simp[ι.upd_ne ⟨w.heap.size,0,0,none⟩ (λe=>c.free (e▸a x rfl):x≠m.nx)]
def Rn(s:St P ι (m.nm ι) cr done ls env a.tmps)(f:RM P G ι m w.heap){t k e:cI}(n:P.underlying t=some (.map k e))
   {x:Operand} {d:aS} (g:aD P cr done x=some d)  {b:List VM} (r:xD (.range d) cf ls env m=some b):
   ∀o:Oper,o.op=.range t x->Does P a.eval o w (jo P G ι m w b):=by
 intro o l;let⟨i,p⟩:=D9 s g;rcases Al r with⟨c,h⟩|⟨id,c,h⟩;cases h;have c:J6 d ls env=.nilMap:=c;refine bG (v:=.pointer (some ⟨w.heap.size,0,none⟩)) ?_ (Rm f none 0 ZZ);simp[execOp,l,Instr.range,cC n,i,c,u7];let⟨q,j,h⟩:=BU h;cases h;have c:J6 d ls env=.map id:=c;let⟨u,y⟩:=OJ f j;rw[K7];refine bG (v:=.pointer (some ⟨w.heap.size,0,none⟩)) ?_ (Rm f (some id) q.length (by intro x g;cases g;exact⟨_,j,rfl⟩));simp[execOp,l,Instr.range,cC n,i,c,u7,u]
def OM(n:Nat):∀l:cR,aa6 n l=l.contains n
 |[]=>rfl
 |x::l=>by show bi (beq x n) true (aa6 n l)=_;rw[OM n l,yV,List.contains_cons];by_cases h:x=n;subst h;simp;rw[aE h,beq_eq_false_iff_ne.2 (λe=>h e.symm),avY]
def Ca(m:cD)(id mp since:Nat)(a:cR)(e:j5×j5)(es:List (j5×j5))(i:Nat):
   nexts m id mp since a (e::es) i=bi (aa6 i a) (nexts m id mp since a es (i+1))
    (⟨.tuple [.bool true,e.1,e.2],m.set id (.iter (some mp) since (i::a))⟩::nexts m id mp since a es (i+1)):=rfl
def Fu{m:cD}{id mp since:Nat}{seen:cR}:∀{es:List (j5×j5)} {i j:Nat} {e:j5×j5},es[j]?=some e->seen.contains (i+j)=false->
   (⟨.tuple [.bool true,e.1,e.2],m.set id (.iter (some mp) since ((i+j)::seen))⟩:VM)∈nexts m id mp since seen es i
 |[],i,j,e,h,_=>by simp at h
 |x::es,i,0,e,h,hs=>by simp at h;subst h;rw[Ca,OM,show seen.contains i=false from hs];exact agD
 |x::es,i,j+1,e,h,hs=>by
  rw[Ca];have:=Fu (es:=es) (i:=i+1) (j:=j) (m:=m) (id:=id) (mp:=mp) (since:=since) (by simpa using h) (by rw[show i+1+j=i+(j+1)from by omega];exact hs);rw[show i+1+j=i+(j+1)from by omega]at this;cases aa6 i seen with
  |true=>exact this
  |false=>exact aa1 _ this
def Jv{m:cD}{id mp since:Nat}{seen:cR}:∀{es:List (j5×j5)} {i:Nat},(∀j,j<es.length->seen.contains (i+j)=true)->nexts m id mp since seen es i=[]
 |[],i,h=>rfl
 |e::es,i,h=>by rw[Ca,OM,show seen.contains i=true from h 0 ZZ];exact Jv λj hj=>by rw[show i+1+j=i+(j+1)from by omega];exact h (j+1) (by simpa using hj)
def Jw(n:Nat)(hn:0<n)(w:cG):∃k w',(choose (.mapNext n)).run P w=.ok k w'∧k<n∧(w'=w∨w'={w with drawn:=w.drawn+1}):=by rw[run_choose];by_cases h:n<=1;exact⟨0,w,by simp[Question.forced,h],hn,.inl rfl⟩;exact⟨_,_,by simp only[Question.forced,h,decide_false,agY,if_false];rfl,ajq _ hn,.inr rfl⟩
def aaq(u:RM P G ι m w.heap){id since:Nat}{es:List (j5×j5)}(V:m.lim<=id)(q:m.get id=some (.iter (some mp) since seen))
   (D:m.get mp=some (.map es)) (J:es.length=since) (t:cI):
   ∃v w',(Instr.next (.pointer (some ⟨(ι id).b,0,none⟩)) false t).run P w=.ok v w'∧jo P G ι m w (TV m (nexts m id mp since seen es 0)) v w':=by
 let⟨b1,b2,A,st,S,b4,b5⟩:=u.blk id _ q;let⟨c1,c2⟩:=u.blk mp _ D;have a1:st=since:=b5 ZZ;subst a1;subst J;have T:=oI (P:=P) S (by intro _ _ _ e;cases e);have U:=oI (P:=P) c1 (by intro _ _ _ e;cases e);generalize hL:L8 ι es 0=L at *;have a:∀x∈L,x.born<es.length:=by
  intro x p;let⟨j,g⟩:=adi p;rw[← hL,pV]at g;cases he:es[j]? with
  |none=>simp[he]at g
  |some e=>simp[he]at g;rw[← g];simpa using (gB.1 he).1
 have B:(!A.isEmpty && !L.toArray.isEmpty&&L.toArray.all (λe=>decide (e.born≥es.length)))=false:=by
  cases L with
  |nil=>simp
  |cons x L=>have:=a x ZZ;simp;intro _ h;omega
 have O:∀l:List MapEntry,(∀x∈l,x∈L)->l.filter (λe=>decide (e.born<es.length))=l:=λl Y=>avr.2 λx p=>by simpa using a x (Y x p)
 have N:∀l:List MapEntry,(∀x∈l,x∈L)->l.filter (λe=>decide (e.born≥es.length))=[]:=λl Y=>awV.2 λx p=>by have:=a x (Y x p);simp;omega
 have n:=λx (p:x∈L.filter (λe=>!A.contains e.born))=>(ag4.1 p).1;simp only[Instr.next,wu,T,nM,ag8,U];rw[aE (by rw[B];simp)];simp only[List.filter_toArray,O _ n,N _ n];generalize hlf:L.filter (λe=>!A.contains e.born)=left at *;generalize hc:((if left.toArray.isEmpty=true then #[none]else #[])++Array.map some (left.toArray++[].toArray):Array (Option MapEntry))=cands;have c:cands=(if left=[]then #[none]else(left.map some).toArray):=by rw[← hc];cases left<;>simp
 have Q:0<cands.size:=by rw[c];split<;>simp_all;exact axm (by simp;assumption)
 let⟨k,w1,X,r,s⟩:=Jw (P:=P) cands.size Q w;simp only[wu,X,nM];have f:w1.heap=w.heap:=by rcases s with rfl|rfl<;>rfl
 have z:w1.os=w.os∧w1.output=w.output∧w1.tape=w.tape:=by rcases s with rfl|rfl<;>exact⟨rfl,rfl,rfl⟩
 have F:∀x,x∈A.toList↔x∈seen:=λx=>by rw[← b4];simp
 by_cases hl0:left=[];rw[cg hl0]at c;have W:k=0:=by rw[c]at r;simpa using r
 rw[c,W];have y:nexts m id mp es.length seen es 0=[]:=Jv λj g=>by
  have p:(L8 ι es 0)[j]?=some {key:=u7 ι es[j].1,val:=u7 ι es[j].2,born:=0+j}:=by rw[pV];simp[g]
  have d:({key:=u7 ι es[j].1,val:=u7 ι es[j].2,born:=0+j}:MapEntry)∈L:=by rw[← hL];exact O5 p
  rw[hl0]at hlf;have:=awV.1 hlf _ d;simp at this ⊢;rw[← F];simpa using this
 refine⟨.tuple #[.bool false],w1,ZZ,⟨.tuple [.bool false],m⟩,by rw[y];exact lM.2 rfl,ι,?_,by simp[j5.lt,fD],by simp[u7,A9]⟩;rcases s with rfl|rfl;exact Step.refl u;exact Step.drew u _;rw[aE hl0]at c;have H:k<left.length:=by rw[c]at r;simpa using r
 have E:cands[k]?=some (some left[k]):=by rw[c];simp[H]
 have d:left[k]∈L∧A.contains left[k].born=false:=by have:=ag4.1 (show left[k]∈L.filter (λe=>!A.contains e.born)from by rw[hlf];exact ql H);simpa using this
 generalize left[k]=x at *;let⟨j,g⟩:=adi d.1;rw[← hL,pV]at g;cases he:es[j]? with
 |none=>simp[he]at g
 |some e=>
  simp[he]at g;subst g;have M:seen.contains (0+j)=false:=by have h2:=d.2;rw[aa0]at h2 ⊢;intro C;apply h2;simp at C ⊢;have:=(F j).2 C;simpa using this
  have Z:(nexts m id mp es.length seen es 0)≠[]:=List.ne_nil_of_mem (Fu he M);have a0:TV m (nexts m id mp es.length seen es 0)=nexts m id mp es.length seen es 0:=by
   cases h:nexts m id mp es.length seen es 0 with
   |nil=>exact cj h Z
   |cons=>rfl
  have R:=Jt (P:=P) (w:=w1) (o:=.mapIter (some (ι mp).b) es.length (A.push j) es.length) (by rw[f];exact S) (by intro _ _ _ e;cases e);refine⟨.tuple #[.bool true,u7 ι e.1,u7 ι e.2],{w1 with heap:=w1.heap.setIfInBounds (ι id).b (.mapIter (some (ι mp).b) es.length (A.push j) es.length)},?_,_,by rw[a0];exact Fu he M,ι,Step.set (w':={w1 with heap:=w1.heap.setIfInBounds (ι id).b (.mapIter (some (ι mp).b) es.length (A.push j) es.length)}) u V q rfl rfl (o:=.mapIter (some (ι mp).b) es.length (A.push j) es.length) ⟨by rw[f],z.1,z.2.1,z.2.2⟩ ?_ (by intro _ _ _ h;cases h),?_,?_⟩;rw[E];simp[R];refine⟨b1,λx p=>?_,A.push j,es.length,?_,?_,λ_=>rfl⟩;cases p;exact cD.tu u.ok q rfl mp ⟨_,D,rfl⟩;simpa using oV S;simp[b4];have K:=c2 e (O5 he);have I:=cD.dL (ι:=ι) (ι':=ι) (λi hi=>cD.tu (b':=.iter (some mp) es.length ((0+j)::seen)) u.ok q rfl i hi) λ_ _=>rfl;exact⟨trivial,j5.aU I _ K.1,j5.aU I _ K.2,trivial⟩;simp[u7,A9]
def Uo(s:St P ι (m.nm ι) cr done ls env a.tmps)(f:RM P G ι m w.heap)
   {x:Operand} {p:aS} (D:aD P cr done x=some p)  {c:List VM} (C:xD (.next p) cf ls env m=some c):
   ∀o:Oper,o.op=.next x false->Does P a.eval o w (jo P G ι m w c):=by
 intro o r;let⟨q,u⟩:=D9 s D;let⟨id,off,g,h⟩:=lS C;have g:J6 p ls env=.ptr id off:=g;let⟨B,h⟩:=K4 h;obtain rfl:off=0:=nA B;let⟨n,h⟩:=Dk h;rcases Jp h with⟨sn',l',hit,h⟩|⟨mp,since,seen,hit,h⟩;cases h;let⟨i,E,I,J,t,F,H⟩:=f.blk id _ hit;have l:=oI (P:=P) t (by intro _ _ _ e;cases e);have d:a.eval x=.pointer (some ⟨(ι id).b,0,none⟩):=by rw[q,g];simp[u7,Q0.at,i,f.spot _ _ hit rfl]
 refine bG (v:=.tuple #[.bool false]) (w':=w) ?_ ⟨_,lM.2 rfl,ι,Step.refl f,by simp[j5.lt,fD],by simp[u7,A9]⟩;simp[execOp,r,d,Instr.next,l];let⟨y,k,h⟩:=BU h;let⟨j,h⟩:=K4 h;have j:y.length=since:=by rw[← K7];exact nA j
 cases h;let⟨i,_⟩:=f.blk id _ hit;have d:a.eval x=.pointer (some ⟨(ι id).b,0,none⟩):=by rw[q,g];simp[u7,Q0.at,i,f.spot _ _ hit rfl]
 let⟨v,w',z,A⟩:=aaq f (vC n) hit k j o.type;refine bG (v:=v) (w':=w') ?_ A;simp[execOp,r,d,z]
end
section
variable {P:cH}{G:cD}{ι:Q0}{m:cD}{w:cG}{cr:cR}{done:List (Option Nat)}{ls:cM}{env:T j5}{a:Act}
def Jy(l:List cL):bytesOf l=l.map λb=>j5.int .u8 b.toNat:=by
 induction l with
 |nil=>rfl
 |cons b l ih=>simp[bytesOf,ih]
def Gz{v:j5}{n:Nat}(h:lenOf v=some n)(w:cG):(Builtin.lenOf (u7 ι v)).run P w=.ok n w:=by cases v<;>simp only[lenOf,iE,reduceCtorEq]at h<;>subst h<;>simp[u7,Builtin.lenOf,uZ]
def oZ(e:RM P G ι m w.heap){es n:Nat}{v:j5}{l:cM}(h:Z8 m es n v=some l):
   (Builtin.firstCells es n (u7 ι v)).run P w=.ok (A9 ι l).toArray w∧fD (m.nm ι) l:=by
 cases v<;>simp only[Z8,iE,reduceCtorEq]at h
 subst h;refine⟨?_,by rw[Jy,gK];intro v f;obtain⟨b,_,rfl⟩:=adg.1 f;simp[j5.lt]⟩;simp only[u7,Builtin.firstCells,aa2];congr 1;simp[Jy,fF,u7,Function.comp_def,ByteArray.data_extract,awi];subst h;exact⟨by simp[u7,Builtin.firstCells,A9],trivial⟩;let⟨a,c,d⟩:=nC e h;exact⟨nD a d,c⟩;let⟨a,c,d⟩:=nC e h;exact⟨nD a d,c⟩
def Uq(s:St P ι (m.nm ι) cr done ls env a.tmps)(A:RM P G ι m w.heap){c:Call}{t u e:cI}{x:Operand}{p q:aS}{es:Nat}(J:c.callee=.builtin .copy)
   (k:c.argTypes.toList=[t,u]) (j:c.args.toList=[x,y]) (M:P.underlying t=some (.slice e)) (r:gV P e=some es)
   (V:aD P cr done x=some p) (W:aD P cr done y=some q)  {f:List VM} (E:xD (.copy es p q) cf ls env m=some f):
   ∀o:Oper,o.op=.call c->Does P a.eval o w (jo P G ι m w f):=by
 intro o L;have k:c.argTypes=#[t,u]:=by rw[← k,ahg]
 have j:c.args=#[x,y]:=by rw[← j,ahg]
 let⟨F,_⟩:=D9 s V;let⟨H,_⟩:=D9 s W;let⟨n,D,E⟩:=D7 E;have K:=Gz (P:=P) (ι:=ι) D w;have I:∀id b d cap,u7 ι (J6 p ls env)=.slice (some (ι.at id b)) d cap->IZ.go es m n id b d (J6 q ls env)=some f->Does P a.eval o w (jo P G ι m w f):=by intro id b d cap g h;let⟨B,R,h⟩:=D7 h;let⟨N,O⟩:=oZ A R;let⟨Y,w',U,z,l⟩:=qz A h O;cases U;refine bG (v:=.int .i64 (Nat.min n d)) (w':=w') ?_ ⟨_,lM.2 rfl,ι,l,trivial,rfl⟩;simp[execOp,L,resolve,J,j,k,invoke,builtin,Builtin.copy_,cC M,F,H,g,K,run_sizeOf r,N,z,goInt]
 rcases yS E with⟨g,h⟩|⟨id,b,d,cap,g,h⟩|⟨id,b,d,cap,g,h⟩;cases h;have g:J6 p ls env=.nilSlice:=g;have T:∃C,(Builtin.firstCells es 0 (u7 ι (J6 q ls env))).run P w=.ok C w:=by
  have X:Z8 m es 0 (J6 q ls env)=some []:=by generalize J6 q ls env=v at D;have Q:∀i b,Z6 m i b 0=some []:=λi b=>rfl;cases v<;>simp only[lenOf,reduceCtorEq]at D<;>simp[Z8,bytesOf,Q]
  exact⟨_,(oZ A X).1⟩
 let⟨C,S⟩:=T;refine bG (v:=.int .i64 0) (w':=w) ?_ ⟨_,lM.2 rfl,ι,Step.refl A,trivial,rfl⟩;simp[execOp,L,resolve,J,j,k,invoke,builtin,Builtin.copy_,cC M,F,H,g,K,run_sizeOf r,u7,goInt,S];have g:J6 p ls env=.slice id b d cap:=g;exact I id b d cap (by rw[g];rfl) h;have g:J6 p ls env=.sliceU id b d cap:=g;exact I id b d (((ι id).cap-b) / cap) (by rw[g];simp only[u7]) h
def DR(z:cM)(k:Nat):Builtin.zeroCells (A9 ι z).toArray k=(A9 ι (U4 z k)).toArray:=by have:=Jq (ι:=ι) z k;rw[← this];simp[Builtin.zeroCells]
def Ro(s:St P ι (m.nm ι) cr done ls env a.tmps)(D:RM P G ι m w.heap){c:Call}{t e:cI}{x:Operand}{n:aS}{z:cM}(q:c.callee=.builtin .clear)
   (k:c.argTypes.toList=[t]) (j:c.args.toList=[x]) (u:P.underlying t=some (.slice e)) (J:uT P e=some z)
   (I:aD P cr done x=some n)  {i:List VM} (H:xD (.clear z n) cf ls env m=some i):
   ∀o:Oper,o.op=.call c->Does P a.eval o w (jo P G ι m w i):=by
 intro o r;have k:c.argTypes=#[t]:=by rw[← k,ahg]
 have j:c.args=#[x]:=by rw[← j,ahg]
 let⟨p,_⟩:=D9 s I;let⟨K,y,A,B⟩:=iX (P:=P) (w:=w) J ι;have C:∀id d b cap,u7 ι (J6 n ls env)=.slice (some (ι.at id d)) b cap->gY m id d (U4 z b) (λE=>one (.tuple []) E)=some i->Does P a.eval o w (jo P G ι m w i):=by
  intro id d b cap f h;let⟨E,w',F,g,l⟩:=qz D h (wH (B _) b);cases F;refine bG (v:=.tuple #[]) (w':=w') ?_ ⟨_,lM.2 rfl,ι,l,by simp[j5.lt,fD],by simp[u7,A9]⟩;cases b with
  |zero=>
   rw[DJ]at g;have:w'=w:=by simp[A9,storeCells]at g;exact g.symm
   subst this;simp[execOp,r,resolve,q,j,k,invoke,builtin,Builtin.clear_,cC u,p,f]
  |succ b=>simp[execOp,r,resolve,q,j,k,invoke,builtin,Builtin.clear_,cC u,p,f,y,A,DR,g]
 rcases yS H with⟨f,h⟩|⟨id,d,b,cap,f,h⟩|⟨id,d,b,cap,f,h⟩;cases h;have f:J6 n ls env=.nilSlice:=f;refine bG (v:=.tuple #[]) (w':=w) ?_ ⟨_,lM.2 rfl,ι,Step.refl D,by simp[j5.lt,fD],by simp[u7,A9]⟩;simp[execOp,r,resolve,q,j,k,invoke,builtin,Builtin.clear_,cC u,p,f,u7];have f:J6 n ls env=.slice id d b cap:=f;exact C id d b cap (by rw[f];rfl) h;have f:J6 n ls env=.sliceU id d b cap:=f;exact C id d b (((ι id).cap-d) / cap) (by rw[f];simp only[u7]) h
end
section
variable {P:cH}{G:cD}{ι:Q0}{m:cD}{w:cG}
def Step.akq{G:cD}(h:RM P G ι m w.heap){id:Nat}{b:Y9}(A:m.lim<=id)(E:m.get id=some b)(H:bN b=true)(V:jU b'=false){o:Obj}
   (C:Put w w' (ι id).b o) {l:Loc} (B:l.b=(ι id).b) (Q:l.spot=none)
   (I:iF P (ι.upd m.nx l) ((((m.set id .dead).new b')).nm (ι.upd m.nx l)) (w.heap.setIfInBounds (ι id).b o) l b')
   (hf:∀c e fz,o=.cells c e fz->∀k,k<c.size->¬ (fz.1<=k∧k<fz.2)):
   Step P G ι m w (ι.upd m.nx l) ((m.set id .dead).new b') w':=by
 have L:=cD.Q9 h.ok E;have s:=cD.R9 h.ok L .dead;have r:T.Ok (m.set id .dead).t (m.set id .dead).nx:=h.ok.put id .dead L;have g:∀i,((m.set id .dead).new b').get i=if i=m.nx then some b' else if i=id then some .dead else m.get i:=λi=>by rw[cD.Q5 r,s];rfl
 have F:∀i x,m.get i=some x->i≠m.nx:=λi x d e=>by have:=cD.Q9 h.ok d;omega
 have q:∀j,m.has j->ι.upd m.nx l j=ι j:=λj ⟨x,d,_⟩=>ι.upd_ne l (F j x d);have u:∀i,m.has i->((m.set id .dead).new b').has i:=λi ⟨x,d,hv⟩=>by by_cases he:i=id;exact⟨.dead,by rw[g,aE (F i x d),cg he],rfl⟩;exact⟨x,by rw[g,aE (F i x d),aE he];exact d,hv⟩
 have z:=h.own id b A E H;have J:(ι id).b<w.heap.size:=iG (h.blk id b E) H;have f:∀i x,((m.set id .dead).new b').get i=some x->bN x=true->(i=m.nx∧x=b')∨(i≠m.nx∧i≠id∧m.get i=some x):=λi x d a=>by rw[g]at d;split at d;cases d;exact .inl ⟨by assumption,rfl⟩;split at d;cases d;cases a;exact .inr ⟨by assumption,by assumption,d⟩
 refine⟨⟨r.push b',?_,?_,h.glim,axt h.limn,h.gle,λi p=>by rw[g,aE (by have:=h.glim;have:=h.limn;omega),aE (by have:=h.glim;omega)];exact h.base i p,λi p=>u i (h.ghas i p),λi p=>by rw[q i (h.ghas i p)];exact h.glob i p,λi x d a=>by
   rcases f i x d a with⟨rfl,_⟩|⟨h1,_,h3⟩;rw[ι.aF];exact Q;rw[ι.upd_ne l h1];exact h.spot i x h3 a,h.QT λD N R=>by
   rw[C.heap,getElem?_set_ne];intro e;exact R ⟨id,b,A,E,H,e⟩⟩,q,u,Nat.le_succ _,rfl,?_,by rw[C.heap];simp,?_,?_,C.os,C.out,C.tape⟩
 intro i x d;rw[g]at d;rw[C.heap];split at d;rename_i e;subst e;cases d;simpa using I;rename_i e;split at d;cases d;trivial;rename_i U;rw[ι.upd_ne l e];exact(h.blk i x d).mono (n:=m.nm ι) q (cD.dL u q) (λa=>getElem?_set_ne _ _ _ _ (λM=>z.alone i x U d a M.symm));intro i x p d a;have p:m.lim<=i:=p;rcases f i x d a with⟨rfl,rfl⟩|⟨h1,h2,h3⟩;refine⟨λj y O S v=>?_,λc e fz K=>?_⟩;rcases f j y S v with⟨h4,_⟩|⟨h4,h5,h6⟩;exact cj h4 O;rw[ι.upd_ne l h4,ι.aF,B];exact z.alone j y h5 h6 v;rw[ι.aF,B,C.heap,P8 J]at K;exact hf c e fz (rW K);refine⟨λj y O S v=>?_,λc e fz K=>?_⟩;rw[ι.upd_ne l h1];rcases f j y S v with⟨rfl,_⟩|⟨h4,h5,h6⟩;rw[ι.aF,B];exact(h.own i x p h3 a).alone id b (λe=>h2 e.symm) E H;rw[ι.upd_ne l h4];exact(h.own i x p h3 a).alone j y O h6 v;rw[ι.upd_ne l h1,C.heap,getElem?_set_ne _ _ _ _ (λM=>z.alone i x h2 h3 a M.symm)]at K;exact(h.own i x p h3 a).free c e fz K;intro i p;rw[g,aE (by have:=h.limn;omega),aE Zs];intro D _ R;rw[C.heap,getElem?_set_ne];intro e;exact R ⟨id,b,A,E,H,e⟩;rintro D ⟨i,x,p,d,a,rfl⟩;rcases f i x d a with⟨rfl,rfl⟩|⟨h1,h2,h3⟩;rw[ι.aF,B];exact .inl ⟨id,b,A,E,H,rfl⟩;rw[ι.upd_ne l h1];exact .inl ⟨i,x,p,h3,a,rfl⟩
def Fits(P:cH)(ι:Q0)(m:cD)(es need:Nat)(cells:cM)(b':Y9):Prop:=
 jU b'=false∧∀(ι':Q0) (n':Nm) (h':Array Obj) (l':Loc) (c':Array Value) (e:cI) (fz:Nat×Nat),(m.nm ι).le n'->(∀i,m.has i->ι' i=ι i)->
  h'[l'.b]?=some (.cells c' e fz)->l'.base+l'.cap<=c'.size->need*es<=l'.cap->(∀(j:Nat) (v:j5),cells[j]?=some v->c'[l'.base+j]?=some (u7 ι v))->iF P ι' n' h' l' b'
def Am{es need:Nat}{a:cM}{k:List cM}(C:rowsOf es need a=some k)(g:fD (m.nm ι) a):Fits P ι m es need a (.cells es need (T.ofList k)):=by
 refine⟨rfl,λD H E G u e w p d B c b l=>?_⟩;let⟨y,F,z⟩:=kg _ _ _ _ C;refine⟨u,e,w,B,c,⟨b,k.length,Zs,T.kL k⟩,λi t=>?_⟩;let⟨q,x,r,s⟩:=z i t;refine⟨q,by rw[T.bV];exact x,r,gK.2 λv h=>?_,λj f=>?_⟩;let⟨j,f⟩:=adi h;have o:j<es:=awH (gB.1 f).1 r;rw[s j o]at f;exact j5.aU p _ (aj g (O5 f));rw[s j f];have A:i*es+j<a.length:=by
  rw[y]
  calc i*es+j<i*es+es:=Zs
   _=(i+1)*es:=by rw[aic]
   _<=need*es:=U0 _ t
 have h:=cB A;rw[l _ _ h,h,ag8,aZ (n:=m.nm ι) d _ (aj g (O5 h))]
def Yq(o:RM P G ι m w.heap){id es k:Nat}(n:m.get id=some (.cells es k cF)):∀len,len<=k->
   ∃l:cM,l.length=len*es∧fD (m.nm ι) l∧rP ι w id 0 l∧∀i,i<len->∃row,cF.get i=some row∧row.length=es∧∀j,j<es->l[i*es+j]?=row[j]?:=by
 intro len;induction len with
 |zero=>intro _;exact⟨[],ZZ,trivial,λj v a=>by simp at a,λi u=>Zs⟩
 |succ len ih=>
  intro y;let⟨l,h,q,r,s⟩:=ih Zs;let⟨c,e,C,_,_,_,t⟩:=o.blk id _ n;let⟨row,f,g,p,_⟩:=t len Zs;refine⟨l++row,by simp[h,g,aic],gK.2 λv a=>?_,λj v a=>?_,λi u=>?_⟩;rcases LA.1 a with a|a;exact aj q a;exact aj p a;by_cases d:j<l.length;rw[adl d]at a;exact r j v a;rw[ahf Zs]at a;have x:=(gB.1 a).1;have:=(OH o n (i:=len) Zs (by omega:j-l.length<es) f a).1
  rwa [show len*es+(j-l.length)=0+j from by omega]at this
  by_cases hil:i<len;let⟨b,z,A,B⟩:=s i hil;refine⟨b,z,A,λj d=>?_⟩;have:i*es+j<l.length:=by
   rw[h]
   calc i*es+j<i*es+es:=Zs
    _=(i+1)*es:=by rw[aic]
    _<=len*es:=U0 _ hil
  rw[adl this];exact B j d;obtain rfl:i=len:=Zs
  refine⟨row,f,g,λj d=>?_⟩;rw[ahf Zs];congr 1;omega
def aar(I:RM P G ι m w.heap){id es k len:Nat}(F:m.get id=some (.cells es k cF))(y:len<=k){l new:cM}(H:l.length=len*es)
   (p:∀i,i<len->∃row,cF.get i=some row∧row.length=es∧∀j,j<es->l[i*es+j]?=row[j]?) (x:new.length=es) (t:fD (m.nm ι) l) (g:fD (m.nm ι) new):
   Fits P ι m es (len+1) (l++new) (.cells es (len+1) (cF.put len new)):=by
 let⟨_,_,_,_,_,⟨_,N,M,c⟩,_⟩:=I.blk id _ F;refine⟨rfl,λK R L Q B e C s f E r o q=>⟨B,e,C,E,r,⟨o,?_⟩,λi O=>?_⟩⟩;rcases asW len N with h|h;exact⟨N,Zs,c.put _ _ h⟩;obtain rfl:len=N:=Zs
 exact⟨len+1,aA _,c.push _⟩;by_cases hil:i=len;subst hil;refine⟨new,T.aN c _ _ Zs,x,iW s _ g,λj a=>?_⟩;have d:new[j]?=some new[j]:=cB Zs;have:(l++new)[i*es+j]?=some new[j]:=by rw[ahf Zs,← d];congr 1;omega
 rw[q _ _ this,d,ag8,aZ (n:=m.nm ι) f _ (aj g (O5 d))];let⟨row,J,z,A⟩:=p i Zs;have b:∀j,j<es->i*es+j<l.length:=λj a=>by
  rw[H]
  calc i*es+j<i*es+es:=Zs
   _=(i+1)*es:=by rw[aic]
   _<=len*es:=U0 _ Zs
 refine⟨row,by rw[T.bU c _ _ _ Zs (λe=>hil e.symm)];exact J,z,gK.2 λv d=>?_,λj a=>?_⟩;let⟨j,a⟩:=adi d;have u:j<es:=awH (gB.1 a).1 z;rw[← A j u]at a;exact j5.aU s _ (aj t (O5 a));have d:l[i*es+j]?=some (l[i*es+j]'(b j a)):=cB (b j a);have D:(l++new)[i*es+j]?=some (l[i*es+j]'(b j a)):=by rw[adl (b j a)];exact d
 rw[q _ _ D,← A j a,d,ag8,aZ (n:=m.nm ι) f _ (aj t (O5 d))]
end
end Go.AM
