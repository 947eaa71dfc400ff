/- A part of an evaluator for the model, proved sound: what it answers holds of the model; it speaks of every program, no condition. -/
import Derived.Test.YtfnlnpllpfhhnaaGreatDoorPA1
import Derived.Laws.NewFold
import Derived.CallsIn
set_option linter.all false
namespace Go.AM
open Go
section
variable {P:Program}{G:Mem}{ι:K7}{n:Nm}{slots:List Nat}{done:List (Option Nat)}{ls:List d9}{env:T d9}{a:Act}
theorem wU {α:Type}(p q:Nat)(x y:α):bi (Nat.beq p q) x y=if p=q then x else y:=by by_cases h:p=q;subst h;rw [adH,if_pos rfl];rfl;rw [show Nat.beq p q=false from adj.2 λe=>h (rW e),if_neg h];rfl
theorem U5 {l:List d9}{v:d9}(h:dI n l)(a:v∈l):v.lt n:=eH.1 h v a
noncomputable def Ca (sz:Option Nat)(l:List d9)(o:Nat):Option d9:=match sz with
 | none=>l[o]?
 | some k=>ob (takeN k (l.drop o)) λr=>some (.agg r)
theorem HY {t:TypeId}{c:Option Nat}(f:partT P t=some c){l:List d9}(b:dI n l)(o:Nat){v:d9}
  (a:Ca c l o=some v):
  v.lt n∧∀w,(part t (A8 ι l).toArray o).run P w=.ok (o8 ι v) w:=by
 rcases Hw f with⟨rfl,ha,k,hk⟩ | ⟨k,rfl,ha,hk⟩;simp only [Ca] at a;refine⟨U5 b (O0 a),λw=>?_⟩;simp [part,sW ha,dB,a];simp only [Ca] at a;obtain⟨r,d,e⟩:=D7 a;cases e;obtain⟨rfl,_⟩:=mJ _ _ _ d;refine⟨eH.2 λv a=>U5 b (afP (adv a)),λw=>?_⟩;simp [part,sW ha,run_sizeOf hk,o8,dJ,amO,aAh]
theorem KC (s:St P ι n slots done ls env a.tmps){x:Option Operand}{o:Option V9}(h:cOpt P slots done x=some o):
  (x=none∧o=none)∨∃y z,x=some y∧o=some z∧a.eval y=o8 ι (H9 z ls env):=by
 cases x with
 | none=>simp only [cOpt,l7] at h;exact .inl ⟨rfl,h.symm⟩
 | some y=>
  simp only [cOpt] at h;cases hy:V5 P slots done y with
  | none=>simp [hy] at h
  | some z=>simp only [hy,l7] at h;exact .inr ⟨y,z,rfl,h.symm,(D9 s hy).1⟩
theorem uI (s:St P ι n slots done ls env a.tmps){lo hi:Option Operand}{p j:Option V9}(u:cOpt P slots done lo=some p)(t:cOpt P slots done hi=some j)
  {x:Type} {k:Nat->Nat->Option x} {d:Nat} {r:x} (h:iA (mq p) 0 ls env (λl=>iA (mq j) d ls env λh=>k l h)=some r):
  ∃l h,k l h=some r∧(hi=none->h=d)∧(lo=none->l=0)∧
   (∀(isSlice:Bool) (len cap:Nat) (w:World),len=d->l<=h->h<=cap->(Instr.sliceBounds isSlice len cap (lo.map a.eval) (hi.map a.eval) none).run P w=.ok (l,h,cap) w):=by
 rcases KC s u with⟨rfl,rfl⟩ | ⟨y,z,rfl,rfl,hy⟩<;>rcases KC s t with⟨rfl,rfl⟩ | ⟨y',z',rfl,rfl,hy'⟩
 exact⟨0,d,h,λ_=>rfl,λ_=>rfl,λo len cap w g _ _=>by subst g;simp [Instr.sliceBounds]⟩;obtain⟨i,m,b,f⟩:=iC h;refine⟨0,m,f,(by simp),(by simp),λo len cap w g c e=>?_⟩;have b:H9 z' ls env=.int i (m:Int):=b;simp only [adG,at1,hy',b,o8,Instr.sliceBounds,Instr.sliceBound,asIntOf];cases o<;>simp [e]
 obtain⟨i,m,b,f⟩:=iC h;refine⟨m,d,f,(by simp),(by simp),λo len cap w g c e=>?_⟩;have b:H9 z ls env=.int i (m:Int):=b;subst g;simp only [adG,at1,hy,b,o8,Instr.sliceBounds,Instr.sliceBound,asIntOf];simp [c];obtain⟨i,m,b,f⟩:=iC h;obtain⟨B,v,q,A⟩:=iC f;refine⟨m,v,A,(by simp),(by simp),λo len cap w g c e=>?_⟩;have b:H9 z ls env=.int i (m:Int):=b;have q:H9 z' ls env=.int B (v:Int):=q;simp only [adG,hy,b,hy',q,o8,Instr.sliceBounds,Instr.sliceBound,asIntOf];cases o<;>simp [c,e]
theorem Ab {t e:TypeId}{es:Nat}(b:P.underlying t=some (.slice e))(hs:eX P e=some es)(a:Addr)(len cap:Nat)(k:IntKind)(i:Nat)(hi:i<len)(w:World):
  (Instr.indexAt t (.slice (some a) len cap) (.int k (i:Int))).run P w=.ok (.pointer (some (a.add (i*es)))) w:=by
 simp [Instr.indexAt,asIntOf,run_underlying b,run_sizeOf hs,hi]
theorem Ke {t e:TypeId}{es len:Nat}(b:P.underlying t=some (.array len e))(hs:eX P e=some es)(a:Addr)(k:IntKind)(i:Nat)(hi:i<len)(w:World):
  (Instr.indexAt t (.pointer (some a)) (.int k (i:Int))).run P w=.ok (.pointer (some (a.add (i*es)))) w:=by
 simp [Instr.indexAt,asIntOf,run_underlying b,run_sizeOf hs,hi,Instr.sureAddr]
theorem Pe (a:Bool):∀(ys:List d9) (x v:d9),dI n ys->x.lt n->OE a ys x=some v->v.lt n∧
  ∀w,((A8 ι ys).foldlM (if a then Builtin.max2 else Builtin.min2) (o8 ι x)).run P w=.ok (o8 ι v) w:=by
 intro ys;induction ys with
 | nil=>intro x v _ d h;cases h;exact⟨d,λw=>by simp [A8]⟩
 | cons y ys ih=>
  intro x v c d h;have h:ob (mm2 a x y) (λz=>OE a ys z)=some v:=h;obtain⟨z,b,j⟩:=D7 h;simp only [mm2] at b;obtain⟨k,p,e,b⟩:=mY b;obtain⟨l,q,f,b⟩:=mY b;cases b;obtain⟨g,i⟩:=ih _ v c.2 (by simp [d9.lt]) j;refine⟨g,λw=>?_⟩;subst e;subst f;simp only [A8,List.foldlM_cons,M0,o8];have:((if a=true then Builtin.max2 else Builtin.min2) (.int k p) (.int l q)).run P w=.ok (.int k (bi a (bi (nJ p q) q p) (bi (nJ q p) q p))) w:=by cases a;simp only [ady,if_false,Builtin.min2,adg,aJ,iL];by_cases hlt:q<p;simp [hlt];simp [hlt];simp only [if_true,Builtin.max2,adg,Z6,iL];by_cases hlt:p<q;simp [hlt];simp [hlt]
  rw [this];exact i w
end
section
variable {P:Program}{G:Mem}{ι:K7}{n:Nm}{slots:List Nat}{done:List (Option Nat)}{ls:List d9}{env:T d9}{a:Act}
theorem bZ {x y:XQ}(h:(pure (BJ.p x):Option BJ)=some (.p y)):x=y:=by cases h;rfl
set_option maxHeartbeats 1000000 in
theorem uJ (s:St P ι n slots done ls env a.tmps){J:Op}{T:XQ}(h:jc P slots done J=some (.p T)){v:d9}(F:oQ T ls env=some v):
  v.lt n∧Gives P a.eval J (o8 ι v):=by
 cases J with
 | move x=>obtain⟨x',A,h⟩:=bind_eq h;obtain rfl:=bZ h;cases F;obtain⟨B,E⟩:=D9 s A;exact⟨E,λo C w=>by simp [execOp,C,B]⟩
 | assign x=>obtain⟨x',A,h⟩:=bind_eq h;obtain rfl:=bZ h;cases F;obtain⟨B,E⟩:=D9 s A;exact⟨E,λo C w=>by simp [execOp,C,B]⟩
 | pick c x y=>
  obtain⟨c',hc,h⟩:=bind_eq h;obtain⟨x',A,h⟩:=bind_eq h;obtain⟨y',hy,h⟩:=bind_eq h;obtain rfl:=bZ h;obtain⟨b,d,D⟩:=tq F;have d:H9 c' ls env=.bool b:=d;obtain⟨B,_⟩:=D9 s hc;obtain⟨E,ab⟩:=D9 s A;obtain⟨U,ac⟩:=D9 s hy;rw [d] at B;cases b with
  | true=>cases D;exact⟨ab,λo C w=>by simp [execOp,C,B,E,o8,asBool]⟩
  | false=>cases D;exact⟨ac,λo C w=>by simp [execOp,C,B,U,o8,asBool]⟩
 | build t parts=>obtain⟨zero,ps,e,hb⟩:=Pd s (show Av P slots done t parts.toList=some (.p T) from h);cases e;exact hb v F
 | nilCheck x=>
  obtain⟨x',A,h⟩:=bind_eq h;obtain rfl:=bZ h;obtain⟨B,E⟩:=D9 s A;have F:DZ (H9 x' ls env)=some v:=F;generalize H9 x' ls env=u at *;have:v=u∧∀o:Oper,o.op=.nilCheck x->∀w,(execOp a.eval o).run P w=.ok (.value (o8 ι u)) w:=by
   cases u<;>simp only [DZ,l7,reduceCtorEq] at F<;>try (refine⟨F.symm,λo C w=>?_⟩;simp [execOp,C,B,o8];done)
   rename_i fn p q;cases fn<;>simp only [l7,reduceCtorEq] at F
   refine⟨F.symm,λo C w=>?_⟩;simp [execOp,C,B,o8,jY]
  obtain⟨rfl,D⟩:=this;exact⟨E,D⟩
 | binOp J t x y yt=>
  simp only [jc] at h;by_cases d:J=.eql∨J=.neq
  ·have O:∃k x' y',Yg P (zZ x||zZ y) t=some k∧V5 P slots done x=some x'∧V5 P slots done y=some y'∧
     ((k=.prim .i∨k=.prim .s)∧T=.ib J x' y'∨(k≠.prim .i∧k≠.prim .s)∧T=.eq (decide (J=.neq)) k x' y'):=by
    rcases d with rfl | rfl <;>
    ·simp only at h;obtain⟨k,L,h⟩:=bind_eq h;cases k with
     | prim p=>
      cases p <;>
      ·simp only at h;obtain⟨x',A,h⟩:=bind_eq h;obtain⟨y',hy,h⟩:=bind_eq h;have:=bZ h;exact⟨_,x',y',L,A,hy,by simp [this]⟩
     | _=>simp only at h;obtain⟨x',A,h⟩:=bind_eq h;obtain⟨y',hy,h⟩:=bind_eq h;have:=bZ h;exact⟨_,x',y',L,A,hy,by simp [this]⟩
   obtain⟨k,x',y',L,A,hy,O⟩:=O;obtain⟨B,_⟩:=D9 s A;obtain⟨E,_⟩:=D9 s hy;rcases O with⟨_,rfl⟩ | ⟨⟨hk1,hk2⟩,rfl⟩;have Z:J≠.shl:=by rcases d with rfl | rfl<;>simp
   have a0:J≠.shr:=by rcases d with rfl | rfl<;>simp
   have F:BK (Mh J) (Mi J) (H9 x' ls env) (H9 y' ls env)=some v:=by rcases d with rfl | rfl<;>exact F
   refine⟨(uF (P:=P) (ι:=ι) Z a0 F t default).2,tC (λw=>?_) (λw=>by rw [B,E];exact (uF (n:=n) Z a0 F t w).1)⟩;rw [B,E];rcases VU F with⟨k,p,hf⟩ | ⟨p,hf⟩<;>rw [hf]<;>exact uE (by simp [o8]) (by simp [o8])
   ·have F:∃r,vU k (H9 x' ls env) (H9 y' ls env)=some r∧v=.bool (if J=.neq then !r else r):=by
     rcases d with rfl | rfl <;>
     ·obtain⟨r,d,D⟩:=D7 F;cases D;exact⟨r,d,rfl⟩
    obtain⟨r,hr,rfl⟩:=F;refine⟨by simp [d9.lt],tC (λw=>?_) (λw=>?_)⟩
    ·rw [B,E];cases k with
     | prim p=>
      cases p with
      | b=>obtain⟨p,q,H,Q,_⟩:=kJ hr;rw [H,Q];exact uE (by simp [o8]) (by simp [o8])
      | i=>exact absurd rfl hk1
      | s=>exact absurd rfl hk2
     | flat ks=>
      obtain⟨l,H,Q⟩:=je hr;obtain⟨m,h5,h6⟩:=je Q;rw [H,h5];refine Pb ?_;rcases (AA L).symm with L | L;obtain⟨_,_,_,_,_,_,h7,_⟩:=Eh L;exact h7;simp only [Yf] at L;split at L<;>first | (simp at L;done) | skip
      split at L;split at L;assumption;cases L;cases L
     | iface=>
      have hc:zZ x=true∨zZ y=true:=by
       rcases (AA L).symm with L | L;obtain⟨_,_,_,_,_,_,_,h7⟩:=Eh L;cases h7;simp only [Yf] at L;split at L<;>first | (simp at L;done) | skip
       split at L;split at L<;>simp at L
       simp at L;split at L;rename_i hc;simpa using hc;simp at L
      exact uE (λp q=>by cases A:H9 x' ls env<;>simp_all [vU,fC,o8]) (hc.elim (λh=>.inr (.inr (.inl h))) (λh=>.inr (.inr (.inr h))))
     | _=>refine uE (λp q=>?_) (.inl ?_)<;>cases A:H9 x' ls env<;>simp_all [vU,qL,bR,OD,GQ,o8]
    rw [B,E];have:=VY L hk1 hk2 (ι:=ι) hr w;rcases d with rfl | rfl;simpa [o8] using this.1;simpa [o8] using this.2
  ·have I:J≠.eql∧J≠.neq:=⟨λe=>d (.inl e),λe=>d (.inr e)⟩;have O:∃x' y',V5 P slots done x=some x'∧V5 P slots done y=some y'∧T=.ib J x' y':=by
    cases J<;>first
     | exact absurd rfl I.1
     | exact absurd rfl I.2
     | (simp only at h
        obtain⟨x',A,h⟩:=bind_eq h;obtain⟨y',hy,h⟩:=bind_eq h;exact⟨x',y',A,hy,(bZ h).symm⟩)
   obtain⟨x',y',A,hy,rfl⟩:=O;obtain⟨B,_⟩:=D9 s A;obtain⟨E,_⟩:=D9 s hy;by_cases Z:J=.shl;subst Z;refine⟨(Ky (P:=P) (ι:=ι) F t default).2,tC (λw=>nZ (by simp) (by simp)) (λw=>by rw [B,E];exact (Ky (n:=n) F t w).1)⟩;by_cases a0:J=.shr;subst a0;refine⟨(Kz (P:=P) (ι:=ι) F t default).2,tC (λw=>nZ (by simp) (by simp)) (λw=>by rw [B,E];exact (Kz (n:=n) F t w).1)⟩;have F:BK (Mh J) (Mi J) (H9 x' ls env) (H9 y' ls env)=some v:=by cases J<;>first | exact absurd rfl Z | exact absurd rfl a0 | exact F
   exact⟨(uF (P:=P) (ι:=ι) Z a0 F t default).2,tC (λw=>nZ I.1 I.2) (λw=>by rw [B,E];exact (uF (n:=n) Z a0 F t w).1)⟩
 | unOp J t x=>
  have O:∃x',V5 P slots done x=some x'∧(J=.not∧T=.not x'∨J=.neg∧T=.neg x'):=by
   simp only [jc] at h;cases J<;>simp only at h<;>first
    | (cases h;done)
    | (obtain⟨x',A,h⟩:=bind_eq h
       exact⟨x',A,by simp [bZ h]⟩)
  obtain⟨x',A,O⟩:=O;obtain⟨B,_⟩:=D9 s A;rcases O with⟨rfl,rfl⟩ | ⟨rfl,rfl⟩;obtain⟨b,d,D⟩:=tq F;have d:H9 x' ls env=.bool b:=d;cases D;exact⟨by simp [d9.lt],λo C w=>by simp [execOp,C,B,d,o8,Op.unary]⟩;obtain⟨k,m,d,D⟩:=mY F;have d:H9 x' ls env=.int k m:=d;cases D;exact⟨by simp [d9.lt],λo C w=>by simp [execOp,C,B,d,o8,Op.unary,Op.intArith,wQ]⟩
 | convert src dst x=>
  simp only [jc] at h;obtain⟨us,ae,h⟩:=bind_eq h;obtain⟨ud,ad,h⟩:=bind_eq h;have O:∃x',V5 P slots done x=some x'∧∃j k,us=.int j∧ud=.int k∧T=.conv k x':=by split at h;obtain⟨x',A,h⟩:=bind_eq h;exact⟨x',A,_,_,rfl,rfl,(bZ h).symm⟩;obtain⟨ue,_,h⟩:=bind_eq h;split at h;obtain⟨x',A,h⟩:=bind_eq h;cases h;cases h;obtain⟨ue,_,h⟩:=bind_eq h;split at h;obtain⟨x',A,h⟩:=bind_eq h;cases h;cases h;cases h
  obtain⟨x',A,j,k,rfl,rfl,rfl⟩:=O;obtain⟨B,E⟩:=D9 s A;obtain⟨k',m,d,D⟩:=mY F;have d:H9 x' ls env=.int k' m:=d;cases D;exact⟨by simp [d9.lt],λo C w=>by simp [execOp,C,convert,run_underlying ae,run_underlying ad,B,d,o8,Conv.intToInt,wQ]⟩
 | makeInterface t x=>
  simp only [jc] at h;obtain⟨u,K,h⟩:=bind_eq h;have O:∃x',V5 P slots done x=some x'∧T=.mkIface t x'∧∀ms,u≠.interface ms:=by split at h;cases h;rename_i I;obtain⟨x',A,h⟩:=bind_eq h;exact⟨x',A,(bZ h).symm,λms e=>I ms e⟩
  obtain⟨x',A,rfl,I⟩:=O;obtain⟨B,E⟩:=D9 s A;cases F;refine⟨by simpa [d9.lt] using E,λo C w=>?_⟩;simp only [execOp,C,Instr.makeInterface,M0,run_underlying K,su,B];cases u<;>first | exact absurd rfl (I _) | simp [o8]
 | typeAssert x xt t ok=>
  simp only [jc] at h;obtain⟨u,K,h⟩:=bind_eq h;have O:∃z x',zeroV P t=some z∧V5 P slots done x=some x'∧T=.assert t z ok x'∧∀ms,u≠.interface ms:=by split at h;cases h;rename_i I;obtain⟨z,hz,h⟩:=bind_eq h;obtain⟨x',A,h⟩:=bind_eq h;exact⟨z,x',hz,A,(bZ h).symm,λms e=>I ms e⟩
  obtain⟨z,x',hz,A,rfl,I⟩:=O;obtain⟨B,E⟩:=D9 s A;have G:UA t z ok (H9 x' ls env)=some v:=F;clear F;generalize H9 x' ls env=y at *;cases y with
  | nilIface=>
   cases ok with
   | false=>cases G
   | true=>have G:some (d9.tuple [z,.bool false])=some v:=G;cases G;refine⟨⟨(sZ (w:=default) hz ι).2 n,trivial,trivial⟩,λo C w=>?_⟩;have a7:=(sZ (w:=w) hz ι).1;simp only [execOp,C,Instr.typeAssert,M0,run_underlying K,su,B,o8];cases u<;>first | exact absurd rfl (I _) | simp [a7,A8,o8]
  | iface t' y=>
   have G:bi (Nat.beq t' t) (some (bi ok (.tuple [y,.bool true]) y)) (bi ok (some (.tuple [z,.bool false])) none)=some v:=G;cases hb:Nat.beq t' t with
   | true=>
    have he:=rW hb;rw [hb] at G;have G:some (bi ok (.tuple [y,.bool true]) y)=some v:=G;cases ok with
    | false=>have G:some y=some v:=G;cases G;refine⟨E,λo C w=>?_⟩;simp only [execOp,C,Instr.typeAssert,M0,run_underlying K,su,B,o8];cases u<;>first | exact absurd rfl (I _) | simp [he]
    | true=>have G:some (d9.tuple [y,.bool true])=some v:=G;cases G;refine⟨⟨E,trivial,trivial⟩,λo C w=>?_⟩;simp only [execOp,C,Instr.typeAssert,M0,run_underlying K,su,B,o8];cases u<;>first | exact absurd rfl (I _) | simp [he,A8,o8]
   | false=>
    have he:t'≠t:=Nat.ne_of_beq_eq_false hb;rw [hb] at G;cases ok with
    | false=>cases G
    | true=>have G:some (d9.tuple [z,.bool false])=some v:=G;cases G;refine⟨⟨(sZ (w:=default) hz ι).2 n,trivial,trivial⟩,λo C w=>?_⟩;have a7:=(sZ (w:=w) hz ι).1;simp only [execOp,C,Instr.typeAssert,M0,run_underlying K,su,B,o8];cases u<;>first | exact absurd rfl (I _) | simp [a7,he,A8,o8]
  | _=>cases G
 | makeFunc fn f c=>
  simp only [jc] at h;have O:∃g f' c',fn=.func g∧kI P slots done f.toList=some f'∧kI P slots done c.toList=some c'∧T=.mkFunc (.func g) f' c':=by split at h;obtain⟨f',hf,h⟩:=bind_eq h;obtain⟨c',hc,h⟩:=bind_eq h;exact⟨_,f',c',rfl,hf,hc,(bZ h).symm⟩;cases h
  obtain⟨g,f',c',rfl,hf,hc,rfl⟩:=O;cases F;obtain⟨B,E⟩:=mK s hf;obtain⟨U,e4⟩:=mK s hc;refine⟨⟨trivial,E,e4⟩,λo C w=>?_⟩;have q1:f.map a.eval=(A8 ι (evs (iH f') ls env)).toArray:=by apply aA9.1;rw [aA6];exact B
  have q2:c.map a.eval=(A8 ι (evs (iH c') ls env)).toArray:=by apply aA9.1;rw [aA6];exact U
  simp [execOp,C,Instr.makeFunc,q1,q2,o8,jY]
 | slice t x lo hi mx=>
  simp only [jc] at h;cases mx with
  | some _=>simp at h
  | none=>
  simp only at h;obtain⟨u,K,h⟩:=bind_eq h;split at h;obtain⟨x',A,h⟩:=bind_eq h;obtain⟨aa,a3,h⟩:=bind_eq h;obtain⟨a8,a2,h⟩:=bind_eq h;obtain rfl:=bZ h;obtain⟨B,E⟩:=D9 s A;obtain⟨str,d,D⟩:=qQ F;have d:H9 x' ls env=.str str:=d;obtain⟨l,h,H,_,_,Q⟩:=uI s a3 a2 D;obtain⟨X,H⟩:=I8 H;obtain⟨Y,H⟩:=I8 H;obtain⟨r,h5,h6⟩:=D7 H;cases h6;have X:=M8 X;have Y:=M8 Y;simp only [K4,gJ] at *;obtain⟨rfl,_⟩:=mJ _ _ _ h5;refine⟨by simp [d9.lt],λo C w=>?_⟩;simp only [execOp,C,Instr.sliceAt,M0,run_underlying K,su,Instr.slice,B,d,o8];simp only [at1,Option.isSome_none,ady,if_false,M0,tu,adg,su];rw [Q false str.length str.length w rfl X Y];simp only [su,adg];congr 3;apply ByteArray.ext;simp [ByteArray.data_extract,as4];obtain⟨es,_,h⟩:=bind_eq h;obtain⟨x',A,h⟩:=bind_eq h;obtain⟨aa,a3,h⟩:=bind_eq h;obtain⟨a8,a2,h⟩:=bind_eq h;cases h;rename_i n' e';obtain⟨es,S,h⟩:=bind_eq h;obtain⟨x',A,h⟩:=bind_eq h;obtain⟨aa,a3,h⟩:=bind_eq h;obtain⟨a8,a2,h⟩:=bind_eq h;obtain rfl:=bZ h;obtain⟨B,E⟩:=D9 s A;obtain⟨i,o,d,D⟩:=jV F;have d:H9 x' ls env=.ptr i o:=d;rw [d] at B E;obtain⟨l,h,H,_,_,Q⟩:=uI s a3 a2 D;obtain⟨X,H⟩:=I8 H;obtain⟨Y,H⟩:=I8 H;cases H;have X:=M8 X;have Y:=M8 Y;refine⟨E,λJ C w=>?_⟩;simp only [execOp,C,Instr.sliceAt,M0,run_underlying K,su,B,o8,Instr.sureAddr,adg,at1];rw [Q false _ _ w rfl X Y];simp only [su,M0,run_sizeOf S,adg];rw [wU,K7.qd];by_cases hl:n'=l;rw [if_pos hl,if_pos hl.symm];rfl;rw [if_neg hl,if_neg (λe=>hl e.symm)];rfl;cases h
 | fieldAddr t x f=>
  simp only [jc] at h;obtain⟨u,K,h⟩:=bind_eq h;have O:∃fs W x' V,u=.struct fs∧fs[f]?=some W∧eX P W.type=some V∧V≠0∧V5 P slots done x=some x'∧T=.fAddr W.offset x':=by split at h;obtain⟨W,hf,h⟩:=bind_eq h;obtain⟨V,R,h⟩:=bind_eq h;split at h;cases h;obtain⟨x',A,h⟩:=bind_eq h;exact⟨_,W,x',V,rfl,hf,R,by assumption,A,(bZ h).symm⟩;cases h
  obtain⟨fs,W,x',V,rfl,hf,R,I,A,rfl⟩:=O;obtain⟨B,E⟩:=D9 s A;obtain⟨i,o,d,D⟩:=jV F;have d:H9 x' ls env=.ptr i o:=d;cases D;rw [d] at B E;refine⟨E,λJ C w=>?_⟩;simp only [execOp,C,Instr.fieldAt,M0,run_underlying K,su,hf,B,o8,Instr.sureAddr,adg,fieldPlace,run_sizeOf R,if_neg I,K7.qd];rfl
 | field t x f=>
  simp only [jc] at h;obtain⟨u,K,h⟩:=bind_eq h;have O:∃fs W x' V,u=.struct fs∧fs[f]?=some W∧partT P W.type=some V∧V5 P slots done x=some x'∧T=.fld W.offset V x':=by split at h;obtain⟨W,hf,h⟩:=bind_eq h;obtain⟨V,R,h⟩:=bind_eq h;obtain⟨x',A,h⟩:=bind_eq h;exact⟨_,W,x',V,rfl,hf,R,A,(bZ h).symm⟩;cases h
  obtain⟨fs,W,x',V,rfl,hf,R,A,rfl⟩:=O;obtain⟨B,E⟩:=D9 s A;have a5:∃l,H9 x' ls env=.agg l∧Ca V l W.offset=some v:=by
   cases V with
   | none=>obtain⟨l,d,D⟩:=je F;exact⟨l,d,by simpa [Ca] using D⟩
   | some k=>obtain⟨l,d,D⟩:=je F;exact⟨l,d,by simpa [Ca] using D⟩
  obtain⟨l,d,D⟩:=a5;rw [d] at B E;obtain⟨X,Y⟩:=HY (ι:=ι) R (show dI n l from E) W.offset D;refine⟨X,λJ C w=>?_⟩;simp [execOp,C,Instr.field,run_underlying K,hf,B,o8,asAgg,Y]
 | indexAddr t x i=>simp only [jc] at h;obtain⟨u,K,h⟩:=bind_eq h;split at h;obtain⟨es,S,h⟩:=bind_eq h;obtain⟨x',A,h⟩:=bind_eq h;obtain⟨i',hi,h⟩:=bind_eq h;obtain rfl:=bZ h;obtain⟨B,E⟩:=D9 s A;obtain⟨U,_⟩:=D9 s hi;rcases wR F with⟨_,D⟩ | ⟨id,off,N,cap,d,D⟩ | ⟨id,off,N,es',d,D⟩;cases D;obtain⟨k,m,H,M,Q⟩:=idx_eq D;cases Q;have d:H9 x' ls env=.slice id off N cap:=d;have H:H9 i' ls env=.int k (m:Int):=H;rw [d] at B E;refine⟨E,λJ C w=>?_⟩;simp only [execOp,C,M0,B,U,H,o8,Ab K S _ _ _ _ _ M,K7.qd,su,adg];rfl;obtain⟨k,m,H,M,Q⟩:=idx_eq D;cases Q;have d:H9 x' ls env=.sliceU id off N es':=d;have H:H9 i' ls env=.int k (m:Int):=H;rw [d] at B E;refine⟨E.1,λJ C w=>?_⟩;simp only [execOp,C,M0,B,U,H,o8,Ab K S _ _ _ _ _ M,K7.qd,su,adg];rfl;obtain⟨es,S,h⟩:=bind_eq h;obtain⟨x',A,h⟩:=bind_eq h;obtain⟨i',hi,h⟩:=bind_eq h;obtain rfl:=bZ h;obtain⟨B,E⟩:=D9 s A;obtain⟨U,_⟩:=D9 s hi;obtain⟨id,off,d,D⟩:=jV F;obtain⟨k,m,H,M,Q⟩:=idx_eq D;cases Q;have d:H9 x' ls env=.ptr id off:=d;have H:H9 i' ls env=.int k (m:Int):=H;rw [d] at B E;refine⟨E,λJ C w=>?_⟩;simp only [execOp,C,M0,B,U,H,o8,Ke K S _ _ _ M,K7.qd,su,adg];rfl;cases h
 | index t x i=>
  simp only [jc] at h;obtain⟨u,K,h⟩:=bind_eq h;split at h;obtain⟨x',A,h⟩:=bind_eq h;obtain⟨i',hi,h⟩:=bind_eq h;obtain rfl:=bZ h;obtain⟨B,E⟩:=D9 s A;obtain⟨U,_⟩:=D9 s hi;obtain⟨str,d,D⟩:=qQ F;obtain⟨k,m,H,Q⟩:=iC D;obtain⟨b,h5,h6⟩:=D7 Q;cases h6;have d:H9 x' ls env=.str str:=d;have H:H9 i' ls env=.int k (m:Int):=H;rw [kZ] at h5;refine⟨by simp [d9.lt],λJ C w=>?_⟩;obtain⟨M,hb⟩:=eP.1 h5;have a9:(⟨str.toArray⟩:ByteArray)[m]?=some b:=by rw [ByteArray.getElem?_lt' _ _ (by rw [tu];exact M)];congr 1
  simp only [execOp,C,Instr.index,M0,run_underlying K,B,d,U,H,o8,asIntOf,adg,su];rw [if_pos (Int.natCast_nonneg m),aA1,a9];rfl;rename_i N ag;obtain⟨es,S,h⟩:=bind_eq h;obtain⟨V,R,h⟩:=bind_eq h;obtain⟨x',A,h⟩:=bind_eq h;obtain⟨i',hi,h⟩:=bind_eq h;obtain rfl:=bZ h;obtain⟨B,E⟩:=D9 s A;obtain⟨U,_⟩:=D9 s hi;have a5:∃l k,∃m:Nat,H9 x' ls env=.agg l∧H9 i' ls env=.int k (m:Int)∧m<N∧Ca V l (m*es)=some v:=by
   cases V with
   | none=>obtain⟨l,d,D⟩:=je F;obtain⟨k,m,H,M,Q⟩:=idx_eq D;exact⟨l,k,m,d,H,M,by simpa [Ca] using Q⟩
   | some k=>obtain⟨l,d,D⟩:=je F;obtain⟨k',m,H,M,Q⟩:=idx_eq D;exact⟨l,k',m,d,H,M,by simpa [Ca] using Q⟩
  obtain⟨l,k,m,d,H,M,D⟩:=a5;rw [d] at B E;obtain⟨X,Y⟩:=HY (ι:=ι) R (show dI n l from E) (m*es) D;refine⟨X,λJ C w=>?_⟩;simp [execOp,C,Instr.index,run_underlying K,run_sizeOf S,B,U,H,o8,asIntOf,M,Y];cases h
 | extract x i=>simp only [jc] at h;obtain⟨x',A,h⟩:=bind_eq h;obtain rfl:=bZ h;obtain⟨B,E⟩:=D9 s A;obtain⟨l,d,D⟩:=ae4 F;have d:H9 x' ls env=.tuple l:=d;rw [kZ] at D;rw [d] at B E;refine⟨U5 (show dI n l from E) (O0 D),λJ C w=>?_⟩;simp [execOp,C,Instr.extract,B,o8,dB,D]
 | call c=>
  obtain⟨a1,a4,ts⟩:=c;simp only [jc] at h;cases a1 with
  | invoke _ _=>cases h
  | value f=>
   cases f with
   | func f=>obtain⟨fn,_,h⟩:=bind_eq h;split at h;obtain⟨os,_,h⟩:=bind_eq h;cases h;cases h
   | _=>obtain⟨x',_,h⟩:=bind_eq h;obtain⟨os,_,h⟩:=bind_eq h;cases h
  | builtin b=>
   obtain⟨a4⟩:=a4;obtain⟨ts⟩:=ts;simp only [wM] at h;split at h
   ·
    rename_i t x;obtain⟨u,K,h⟩:=bind_eq h;have O:∃x',(V5 P slots done x=some x'∧u=.string∧T=.lenS x')∨(V5 P slots done x=some x'∧(∃e,u=.slice e)∧T=.len x')∨∃k e,u=.array k e∧T=.mov (.con (.int .i64 k)):=by split at h;obtain⟨x',A,h⟩:=bind_eq h;exact⟨x',.inl ⟨A,rfl,(bZ h).symm⟩⟩;obtain⟨x',A,h⟩:=bind_eq h;exact⟨x',.inr (.inl ⟨A,⟨_,rfl⟩,(bZ h).symm⟩)⟩;exact⟨default,.inr (.inr ⟨_,_,rfl,(bZ h).symm⟩)⟩;obtain⟨x',A,h⟩:=bind_eq h;cases h;cases h
    obtain⟨x',⟨A,rfl,rfl⟩ | ⟨A,⟨e,rfl⟩,rfl⟩ | ⟨k,e,rfl,rfl⟩⟩:=O;obtain⟨B,_⟩:=D9 s A;obtain⟨str,d,D⟩:=qQ F;have d:H9 x' ls env=.str str:=d;cases D;exact⟨by simp [d9.lt],λo C w=>by simp [execOp,C,resolve,invoke,builtin,Builtin.len_,run_underlying K,B,d,o8,goInt,tu]⟩;obtain⟨B,_⟩:=D9 s A;rcases wR F with⟨d,D⟩ | ⟨id,off,N,cap,d,D⟩ | ⟨id,off,N,cap,d,D⟩;have d:H9 x' ls env=.nilSlice:=d;cases D;exact⟨by simp [d9.lt],λo C w=>by simp [execOp,C,resolve,invoke,builtin,Builtin.len_,run_underlying K,B,d,o8,goInt]⟩;have d:H9 x' ls env=.slice id off N cap:=d;cases D;exact⟨by simp [d9.lt],λo C w=>by simp [execOp,C,resolve,invoke,builtin,Builtin.len_,run_underlying K,B,d,o8,goInt]⟩;have d:H9 x' ls env=.sliceU id off N cap:=d;cases D;exact⟨by simp [d9.lt],λo C w=>by simp [execOp,C,resolve,invoke,builtin,Builtin.len_,run_underlying K,B,d,o8,goInt]⟩;cases F;refine⟨by simp [H9,au,d9.lt],λo C w=>?_⟩;simp [execOp,C,resolve,invoke,builtin,Builtin.len_,run_underlying K,H9,au,o8,goInt]
   ·
    rename_i t x;obtain⟨u,K,h⟩:=bind_eq h;split at h;obtain⟨x',A,h⟩:=bind_eq h;obtain rfl:=bZ h;obtain⟨B,_⟩:=D9 s A;rcases wR F with⟨d,D⟩ | ⟨id,off,N,cap,d,D⟩ | ⟨_,_,_,_,_,D⟩;have d:H9 x' ls env=.nilSlice:=d;cases D;exact⟨by simp [d9.lt],λo C w=>by simp [execOp,C,resolve,invoke,builtin,Builtin.cap_,run_underlying K,B,d,o8,goInt]⟩;have d:H9 x' ls env=.slice id off N cap:=d;cases D;exact⟨by simp [d9.lt],λo C w=>by simp [execOp,C,resolve,invoke,builtin,Builtin.cap_,run_underlying K,B,d,o8,goInt]⟩;cases D;cases h
   obtain⟨u,K,h⟩:=bind_eq h;split at h;obtain⟨_,_,h⟩:=bind_eq h;obtain⟨_,_,h⟩:=bind_eq h;obtain⟨_,_,h⟩:=bind_eq h;obtain⟨_,_,h⟩:=bind_eq h;obtain⟨_,_,h⟩:=bind_eq h;obtain⟨_,_,h⟩:=bind_eq h;cases h;cases h;obtain⟨u,K,h⟩:=bind_eq h;split at h;obtain⟨_,_,h⟩:=bind_eq h;obtain⟨_,_,h⟩:=bind_eq h;obtain⟨_,_,h⟩:=bind_eq h;cases h;cases h;obtain⟨u,K,h⟩:=bind_eq h;split at h;obtain⟨_,_,h⟩:=bind_eq h;obtain⟨_,_,h⟩:=bind_eq h;cases h;cases h
   ·
    rename_i x xs;obtain⟨x',A,h⟩:=bind_eq h;obtain⟨af,a6,h⟩:=bind_eq h;obtain rfl:=bZ h;obtain⟨B,E⟩:=D9 s A;obtain⟨U,e4⟩:=mK s a6;obtain⟨X,Y⟩:=Pe (P:=P) (ι:=ι) true _ _ v e4 E F;refine⟨X,λo C w=>?_⟩;have:=Y w;simp only [if_true] at this;simp [execOp,C,resolve,invoke,builtin,Builtin.max_,B,U,this]
   rename_i x xs;obtain⟨x',A,h⟩:=bind_eq h;obtain⟨af,a6,h⟩:=bind_eq h;obtain rfl:=bZ h;obtain⟨B,E⟩:=D9 s A;obtain⟨U,e4⟩:=mK s a6;obtain⟨X,Y⟩:=Pe (P:=P) (ι:=ι) false _ _ v e4 E F;refine⟨X,λo C w=>?_⟩;have:=Y w;simp only [ady,if_false] at this;simp [execOp,C,resolve,invoke,builtin,Builtin.min_,B,U,this];cases h;cases h
 | alloc t=>simp only [jc] at h;obtain⟨_,_,h⟩:=bind_eq h;cases h
 | box t x=>simp only [jc] at h;obtain⟨_,_,h⟩:=bind_eq h;cases h
 | buildSlice t N parts=>simp only [jc] at h;obtain⟨_,_,h⟩:=bind_eq h;split at h;obtain⟨_,_,h⟩:=bind_eq h;obtain⟨_,_,h⟩:=bind_eq h;split at h;obtain⟨_,_,h⟩:=bind_eq h;cases h;cases h;cases h
 | insert t m k x=>simp only [jc] at h;obtain⟨_,_,h⟩:=bind_eq h;split at h;obtain⟨_,_,h⟩:=bind_eq h;obtain⟨_,_,h⟩:=bind_eq h;obtain⟨_,_,h⟩:=bind_eq h;obtain⟨_,_,h⟩:=bind_eq h;cases h;cases h
 | mapUpdate t m k x=>simp only [jc] at h;obtain⟨_,_,h⟩:=bind_eq h;split at h;obtain⟨_,_,h⟩:=bind_eq h;obtain⟨_,_,h⟩:=bind_eq h;obtain⟨_,_,h⟩:=bind_eq h;obtain⟨_,_,h⟩:=bind_eq h;cases h;cases h
 | load t x=>simp only [jc] at h;obtain⟨_,_,h⟩:=bind_eq h;obtain⟨_,_,h⟩:=bind_eq h;cases h
 | store t x y=>simp only [jc] at h;obtain⟨_,_,h⟩:=bind_eq h;obtain⟨_,_,h⟩:=bind_eq h;obtain⟨_,_,h⟩:=bind_eq h;cases h
 | makeMap t r=>simp only [jc] at h;repeat' (first | (cases h;done) | split at h)
 | makeSlice t l c=>simp only [jc] at h;obtain⟨_,_,h⟩:=bind_eq h;split at h;obtain⟨_,_,h⟩:=bind_eq h;obtain⟨_,_,h⟩:=bind_eq h;obtain⟨_,_,h⟩:=bind_eq h;obtain⟨_,_,h⟩:=bind_eq h;obtain⟨_,_,h⟩:=bind_eq h;cases h;cases h
 | lookup t x k ok=>simp only [jc] at h;obtain⟨_,_,h⟩:=bind_eq h;split at h;obtain⟨_,_,h⟩:=bind_eq h;obtain⟨_,_,h⟩:=bind_eq h;obtain⟨_,_,h⟩:=bind_eq h;obtain⟨_,_,h⟩:=bind_eq h;cases h;cases h
 | range t x=>simp only [jc] at h;obtain⟨_,_,h⟩:=bind_eq h;split at h;obtain⟨_,_,h⟩:=bind_eq h;cases h;cases h
 | next it is=>cases is;simp only [jc] at h;obtain⟨_,_,h⟩:=bind_eq h;cases h;simp only [jc] at h;cases h
 | entry it=>simp only [jc] at h;obtain⟨_,_,h⟩:=bind_eq h;cases h
 | panic x=>simp only [jc] at h;obtain⟨_,_,h⟩:=bind_eq h;cases h
 | defer c=>simp only [jc] at h;split at h;obtain⟨_,_,h⟩:=bind_eq h;obtain⟨_,_,h⟩:=bind_eq h;cases h;cases h
 | _=>simp only [jc] at h;cases h
end
section
variable {P:Program}{G:Mem}{ι:K7}{m:Mem}{w:World}
theorem oU {a:Type}{b:Option U7}{k:Nat->Nat->T (List d9)->Option a}{r:a}(h:aO b k=some r):∃rs n rows,b=some (.cells rs n rows)∧k rs n rows=some r:=by
 match b,h with
 | some (.cells rs n rows),h=>exact⟨rs,n,rows,rfl,h⟩
theorem AB {a:Type}{b:Option U7}{k:List (d9×d9)->Option a}{r:a}(h:VP b k=some r):∃es,b=some (.map es)∧k es=some r:=by
 match b,h with
 | some (.map es),h=>exact⟨es,rfl,h⟩
theorem MI (d:RM P G ι m w.heap){id rs k:Nat}{rows:T (List d9)}(b:m.get id=some (.cells rs k rows)){i j:Nat}(hi:i<k)(p:j<rs){row:List d9}
  (q:rows.get i=some row) {v:d9} (f:row[j]?=some v):w.cell? (ι.at id (i*rs+j))=some (o8 ι v)∧v.lt (m.nm ι):=by
 obtain⟨c,e,r,n,t,u,o⟩:=d.blk id _ b;obtain⟨g,a,s,h,l⟩:=o i hi;rw [q] at a;cases a;have:=l j p;rw [f] at this;refine⟨?_,U5 h (O0 f)⟩;simp only [World.cell?,K7.at,n,d.spot id _ b rfl];simpa using this
theorem RI {rs n off:Nat}{rows:T (List d9)}{v:d9}(h:cell1 rs n rows off=some v):
  off / rs<n∧∃row,rows.get (off / rs)=some row∧row[off%rs]?=some v:=by
 obtain⟨b,c⟩:=I8 h;obtain⟨row,d,a⟩:=D7 c;rw [kZ] at a;exact⟨Eq.mp O6 b,row,d,a⟩
theorem Fu (j:RM P G ι m w.heap){id rs k off:Nat}{rows:T (List d9)}(i:m.get id=some (.cells rs k rows)){v:d9}(h:cell1 rs k rows off=some v):
  w.cell? (ι.at id off)=some (o8 ι v)∧v.lt (m.nm ι):=by
 obtain⟨d,p,f,g⟩:=RI h;obtain⟨c,e,q,_,_,_,o⟩:=j.blk id _ i;obtain⟨l,b,n,_,_⟩:=o _ d;rw [f] at b;cases b;have a:off%rs<rs:=ay5 (eP.1 g).1 n;have:=MI j i d a f g
 rwa [show off / rs*rs+off%rs=off from by rw [adS];exact azS off rs] at this
def qg (ι:K7)(w:World)(id off:Nat)(l:List d9):Prop:=∀j v,l[j]?=some v->w.cell? (ι.at id (off+j))=some (o8 ι v)
theorem MJ (s:RM P G ι m w.heap){id rs n off k:Nat}{rows:T (List d9)}(p:m.get id=some (.cells rs n rows)){l:List d9}(h:nR rs n rows off k=some l):
  l.length=k∧dI (m.nm ι) l∧qg ι w id off l:=by
 obtain⟨f,z⟩:=I8 h;obtain⟨row,g,a⟩:=D7 z;have f:off / rs<n:=Eq.mp O6 f;obtain⟨c,e,C,_,_,_,A⟩:=s.blk id _ p;obtain⟨u,o,x,y,_⟩:=A _ f;have g:rows.get (off / rs)=some row:=g;rw [g] at o;cases o;have i:l=(row.drop (off%rs)).take k∧(off%rs+k<=rs∨k=0):=by have b:Nat.mod off rs=off%rs:=rfl;rw [b] at a;rw [wU] at a;split at a;rename_i t;rw [wU] at a;split at a;rename_i q;have e:row=l:=LA a;rw [t,q,← e];refine⟨?_,by omega⟩;rw [adx,← x,azN];obtain⟨e,r⟩:=mJ _ _ _ a;rw [t];exact⟨by rw [adx];exact e,by omega⟩;obtain⟨e,r⟩:=mJ _ _ _ a;simp only [gJ,azM] at r e;exact⟨e,by omega⟩
 obtain⟨rfl,q⟩:=i;refine⟨by simp;omega,eH.2 λv d=>U5 y (afP (adv d)),λj v d=>?_⟩;have B:j<k:=by have:=(eP.1 d).1;simp at this;omega
 rw [adT,if_pos B,adQ] at d;have:=(MI s p f (show off%rs+j<rs by omega) g d).1
 rwa [show off / rs*rs+(off%rs+j)=off+j from by have:=azS off rs;rw [adS] at this;omega] at this
theorem Kg (rs n:Nat)(rows:T (List d9))(off:Nat):J8 rs n rows 0 off=some []:=rfl
theorem Kh (rs n:Nat)(rows:T (List d9))(k off:Nat):J8 rs n rows (k+1) off=ob (cell1 rs n rows off) λv=>ob (J8 rs n rows k (off+1)) λl=>some (v::l):=rfl
theorem wV (p:RM P G ι m w.heap){id rs n:Nat}{rows:T (List d9)}(o:m.get id=some (.cells rs n rows)):
  ∀(k off:Nat) (l:List d9),J8 rs n rows k off=some l->l.length=k∧dI (m.nm ι) l∧qg ι w id off l:=by
 intro k;induction k with
 | zero=>intro off l h;rw [Kg] at h;cases h;exact⟨rfl,trivial,λj v q=>by simp at q⟩
 | succ k ih=>
  intro off l h;rw [Kh] at h;obtain⟨v,g,h⟩:=D7 h;obtain⟨r,i,h⟩:=D7 h;cases h;obtain⟨b,c⟩:=Fu p o g;obtain⟨d,e,f⟩:=ih _ _ i;refine⟨by simp [d],⟨c,e⟩,λj u a=>?_⟩;cases j with
  | zero=>simp at a;subst a;exact b
  | succ j=>rw [show off+(j+1)=off+1+j from by omega];exact f j u (by simpa using a)
theorem lC (e:RM P G ι m w.heap){id off k:Nat}{l:List d9}(h:V4 m id off k=some l):
  l.length=k∧dI (m.nm ι) l∧qg ι w id off l:=by
 cases k with
 | zero=>cases h;exact⟨rfl,trivial,λj v f=>by simp at f⟩
 | succ k=>have h:aO (m.get id) (λb n a=>J8 b n a (k+1) off)=some l:=h;obtain⟨b,n,a,c,d⟩:=oU h;exact wV e c _ _ _ d
theorem Pf {a:Addr}{v:Value}(h:w.cell? a=some v):(load a).run P w=.ok v w:=by simp [h]
theorem Cb {id off:Nat}:∀(l:List d9) (i:Nat) (acc:Array Value),(∀j v,l[j]?=some v->w.cell? (ι.at id (off+(i+j)))=some (o8 ι v))->
  (loadCellsFrom (ι.at id off) i l.length acc).run P w=.ok (acc++(A8 ι l).toArray) w:=by
 intro l;induction l with
 | nil=>intro i acc _;simp [loadCellsFrom,A8]
 | cons v l ih=>intro i acc h;have a:w.cell? (ι.at id (off+i))=some (o8 ι v):=h 0 v rfl;simp only [adk,loadCellsFrom,M0,K7.qd];rw [Pf a,su,ih (i+1) _ (λj u b=>by rw [show i+1+j=i+(j+1) from by omega];exact h (j+1) u (by simpa using b))];simp [A8]
theorem rX {id off:Nat}{l:List d9}(h:qg ι w id off l):(loadCells (ι.at id off) l.length).run P w=.ok (A8 ι l).toArray w:=by have:=Cb (P:=P) (ι:=ι) (w:=w) (id:=id) (off:=off) l 0 #[] (λj v a=>by simpa using h j v a);simpa [loadCells] using this
theorem lD {id off len cap es n:Nat}{l:List d9}(a:l.length=n*es)(h:qg ι w id off l):
  (Builtin.firstCells es n (.slice (some (ι.at id off)) len cap)).run P w=.ok (A8 ι l).toArray w:=by
 simp only [Builtin.firstCells];rw [← a];exact rX h
end
section
variable {P:Program}{G:Mem}{ι:K7}{m:Mem}{w:World}{slots:List Nat}{done:List (Option Nat)}{ls:List d9}{env:T d9}{a:Act}
theorem Ac {t:TypeId}{e:Option Nat}(j:partT P t=some e)(d:RM P G ι m w.heap){id off:Nat}{v:d9}
  (o:aO (m.get id) (λrs n rows=>match e with | none=>cell1 rs n rows off | some k=>ob (nR rs n rows off k) λl=>some (.agg l))=some v):
  (loadVar t (ι.at id off)).run P w=.ok (o8 ι v) w∧v.lt (m.nm ι):=by
 obtain⟨rs,n,rows,c,h⟩:=oU o;rcases Hw j with⟨rfl,ha,k,hk⟩ | ⟨k,rfl,ha,hk⟩;obtain⟨a,b⟩:=Fu d c h;exact⟨by simp [loadVar,sW ha,a],b⟩;obtain⟨l,a,b⟩:=D7 h;cases b;obtain⟨f,g,i⟩:=MJ d c a;refine⟨?_,g⟩;have:=rX (P:=P) i;rw [f] at this;simp [loadVar,sW ha,run_sizeOf hk,this,o8]
theorem iP {t:TypeId}(h:P.underlying t=some .bool∨(∃k,P.underlying t=some (.int k))∨P.underlying t=some .string)(e:Bool)(d:Nat)(v:Value)(w:World):
  (Instr.checkKey e (d+1) t v).run P w=.ok () w:=by
 rcases h with h | ⟨k,h⟩ | h<;>simp [Instr.checkKey,run_underlying h]
def qV (e:Bool)(d:Nat)(X:Array Value):List Field->Sem Unit
 | []=>pure ()
 | f::l=>do
  if f.name≠ "_" then Instr.checkKey e d f.type (← part f.type X f.offset)
  qV e d X l
theorem RJ (e:Bool)(d:Nat)(X:Array Value)(l:List Field):
  (forIn l PUnit.unit λf _=>do
    if f.name≠ "_" then Instr.checkKey e d f.type (← part f.type X f.offset)
    pure (ForInStep.yield PUnit.unit):Sem PUnit)=qV e d X l:=by
 induction l with
 | nil=>simp [qV]
 | cons f l ih=>rw [azV];simp only [qV];rw [← ih];by_cases hf:f.name= "_";simp [hf];simp [hf]
theorem Gl {t:TypeId}{a:Array Field}(h:P.underlying t=some (.struct a))(e:Bool)(d:Nat)(X:Array Value)(w:World):
  (Instr.checkKey e (d+1) t (.agg X)).run P w=(qV e d X a.toList).run P w:=by
 simp only [Instr.checkKey,M0,run_underlying h,su];rw [← aAa,← RJ];generalize (forIn a.toList PUnit.unit _:Sem PUnit)=r;simp;cases r.run P w<;>rfl
theorem RL:∀(d:Nat) (t:TypeId) (ks:List PK),iB P d t=some ks->∃agg,zN P t=some agg∧eX P t=some ks.length∧(agg=false->ks.length=1)∧
  ∀D,d<=D->∀(l:List d9),ks.length<=l.length->∀(e:Bool) w,(Instr.checkKey e D t (mkV ι agg l)).run P w=.ok () w:=by
 intro d;induction d with
 | zero=>intro t ks h;simp [iB] at h
 | succ d ih=>
  intro t ks h;obtain⟨agg,k,i,n,_⟩:=KA (P:=P) (ι:=ι) (d+1) t ks h;refine⟨agg,k,i,n,λD s l v e w=>?_⟩;obtain⟨D,rfl⟩:∃D',D=D'+1:=⟨D-1,by omega⟩;simp only [iB] at h;cases hu:P.underlying t with
  | none=>simp [hu] at h
  | some u=>
   rw [hu] at h;cases u<;>try (simp at h;done)
   exact iP (.inl hu) e D _ w;exact iP (.inr (.inl ⟨_,hu⟩)) e D _ w;exact iP (.inr (.inr hu)) e D _ w;rename_i p;rw [qR hu] at k;cases k;simp only at h;cases hf:pX (iB P d) p.toList 0 with
   | none=>simp [hf] at h
   | some ks'=>
    simp only [hf] at h;split at h;rename_i x;cases h;simp only [mkV,if_true];rw [Gl hu];have o:∀(j:List Field) (c:Nat) (a:List PK),c+a.length<=l.length->pX (iB P d) j c=some a->
      (qV e D (A8 ι l).toArray j).run P w=.ok () w:=by
     intro j;induction j with
     | nil=>intro c a _ _;simp [qV]
     | cons f j ihl=>
      intro c a m b;simp only [pX] at b;split at b;rename_i q;cases hk:iB P d f.type with
      | none=>simp [hk] at b
      | some kf=>
       simp only [hk] at b;cases hrest:pX (iB P d) j (c+kf.length) with
       | none=>simp [hrest] at b
       | some kr=>
        simp only [hrest,l7] at b;subst b;simp only [U1] at m;obtain⟨agg,k,i,n,r⟩:=ih f.type kf hk;simp only [qV,if_pos q.1,M0];rw [q.2,wS k i _ _ (λg=>⟨by have:=n g;omega,n g⟩),su,
         r D (by omega) _ (by simp;omega) e w,su]
        exact ihl (c+kf.length) kr (by omega) hrest
      cases b
    exact o p.toList 0 _ (by omega) hf;cases h
end
section
variable {P:Program}{G:Mem}{ι:K7}
theorem KD {t:TypeId}{k:Gs}(h:BO P t=some k):Yf P false t=some k∧((∃j,k=.prim j)∨∃ks,k=.flat ks):=by simp only [BO] at h;split at h;cases h;exact⟨by assumption,.inl ⟨_,rfl⟩⟩;cases h;exact⟨by assumption,.inr ⟨_,rfl⟩⟩;cases h
theorem L8 (f:GR)(k:d9)(i:Nat):findKey f k [] i=some none:=rfl
theorem K8 (f:GR)(k:d9)(e:d9×d9)(es:List (d9×d9))(i:Nat):
  findKey f k (e::es) i=ob (f k e.1) λb=>bi b (some (some (i,e.2))) (findKey f k es (i+1)):=rfl
def vM (ι:K7)(r:Option (Nat×d9)):Option (Nat×Value):=r.map λp=>(p.1,o8 ι p.2)
theorem Ad {f:GR}{d:TypeDesc}(hs:∀x y r,f x y=some r->Instr.sameNow d (o8 ι x) (o8 ι y)=some r)(k:d9):
  ∀(es:List (d9×d9)) (i j:Nat) (r:Option (Nat×d9)),findKey f k es i=some r->Instr.findNow d (o8 ι k) (J6 ι es j) i=some (vM ι r)
 | [],i,j,r,h=>by rw [L8] at h;cases h;rfl
 | e::es,i,j,r,h=>by
  rw [K8] at h;obtain⟨b,h1,h2⟩:=D7 h;simp only [J6,Instr.findNow,hs _ _ _ h1];cases b with
  | true=>cases h2;rfl
  | false=>exact Ad hs k es (i+1) (j+1) r h2
theorem tF {f:GR}{t:TypeId}(hs:∀x y r,f x y=some r->∀w,(Op.equal t (o8 ι x) (o8 ι y)).run P w=.ok r w)(k:d9)(w:World):
  ∀(es:List (d9×d9)) (i j:Nat) (r:Option (Nat×d9)),findKey f k es i=some r->(Instr.findAsking t (o8 ι k) (J6 ι es j) i).run P w=.ok (vM ι r) w
 | [],i,j,r,h=>by rw [L8] at h;cases h;simp [J6,Instr.findAsking,vM]
 | e::es,i,j,r,h=>by
  rw [K8] at h;obtain⟨b,h1,h2⟩:=D7 h;simp only [J6,Instr.findAsking,M0,hs _ _ _ h1 w,su];cases b with
  | true=>cases h2;simp [vM]
  | false=>simpa using tF hs k w es (i+1) (j+1) r h2
theorem Cc {f:GR}{n:Nat}{k:d9}{es:List (d9×d9)}{r:Option (Nat×d9)}(h:dY f n k es=some r):
  k.cells.length=n∧(∃y b,f k y=some b)∧findKey f k es 0=some r:=by
 obtain⟨a,h⟩:=I8 h;have a:=rW a;rw [K4] at a;refine⟨a,?_⟩;cases es with
 | nil=>obtain⟨b,c,d⟩:=D7 (show ob (f k k) (λ_=>some none)=some r from h);exact⟨⟨_,_,c⟩,by rw [L8];exact d⟩
 | cons e es=>have h:findKey f k (e::es) 0=some r:=h;refine⟨?_,h⟩;rw [K8] at h;obtain⟨b,c,_⟩:=D7 h;exact⟨_,_,c⟩
theorem El {kk:Gs}{t:TypeId}(d:BO P t=some kk):
  (kk=.prim .b∧P.underlying t=some .bool)∨(∃k,kk=.prim .i∧P.underlying t=some (.int k))∨(kk=.prim .s∧P.underlying t=some .string)∨
  ∃fs ks,kk=.flat ks∧P.underlying t=some (.struct fs)∧iB P 10 t=some ks:=by
 obtain⟨a,c⟩:=KD d;simp only [Yf] at a;cases hu:P.underlying t with
 | none=>simp [hu] at a
 | some u=>
  rw [hu] at a;cases u<;>try (simp at a;done)
  simp only [l7] at a;subst a;simp;simp only [l7] at a;subst a;simp;simp only [l7] at a;subst a;simp;simp only [l7] at a;subst a;rcases c with⟨_,c⟩ | ⟨_,c⟩<;>cases c
  simp only [l7] at a;subst a;rcases c with⟨_,c⟩ | ⟨_,c⟩<;>cases c
  simp only [l7] at a;subst a;rcases c with⟨_,c⟩ | ⟨_,c⟩<;>cases c
  rename_i fs;simp only at a;cases hf:iB P 10 t with
  | none=>simp [hf] at a
  | some ks=>simp only [hf] at a;split at a;cases a;exact .inr (.inr (.inr ⟨fs,ks,rfl,rfl,rfl⟩));cases a
  simp only [l7] at a;subst a;rcases c with⟨_,c⟩ | ⟨_,c⟩<;>cases c
theorem UE {kk:Gs}{t:TypeId}(f:BO P t=some kk){k y:d9}{b:Bool}(g:k.cells.length=Mj kk)(h:vU kk k y=some b)(e:Bool)(w:World):
  (Instr.checkKey e 10000 t (o8 ι k)).run P w=.ok () w:=by
 rcases El f with⟨rfl,hu⟩ | ⟨_,rfl,hu⟩ | ⟨rfl,hu⟩ | ⟨fs,ks,rfl,hu,hf⟩;exact iP (.inl hu) e _ _ w;exact iP (.inr (.inl ⟨_,hu⟩)) e _ _ w;exact iP (.inr (.inr hu)) e _ _ w;obtain⟨l,rfl,_⟩:=je h;obtain⟨c,a,_,_,d⟩:=RL (P:=P) (ι:=ι) 10 t ks hf;rw [qR hu] at a;cases a;have:=d 10000 (by decide) l (Nat.le_of_eq g.symm) e w;simpa [mkV,o8] using this
theorem VZ {kk:Gs}{d:TypeDesc}(h:(kk=.prim .b∧d=.bool)∨(∃k,kk=.prim .i∧d=.int k)∨(kk=.prim .s∧d=.string))(x y:d9)(r:Bool)(c:vU kk x y=some r):
  Instr.sameNow d (o8 ι x) (o8 ι y)=some r:=by
 rcases h with⟨rfl,rfl⟩ | ⟨k,rfl,rfl⟩ | ⟨rfl,rfl⟩;obtain⟨a,b,rfl,rfl,rfl⟩:=kJ c;simp [o8,Instr.sameNow];obtain⟨k,a,b,rfl,rfl,rfl⟩:=uG c;simp [o8,Instr.sameNow];obtain⟨a,b,rfl,rfl,rfl⟩:=uH c;simp [o8,Instr.sameNow,rV]
theorem Ae {kk:Gs}{t:TypeId}(f:BO P t=some kk){k:d9}{es:List (d9×d9)}{r:Option (Nat×d9)}(h:findKey (vU kk) k es 0=some r)(w:World):
  (Instr.findKey t (o8 ι k) (J6 ι es 0)).run P w=.ok (vM ι r) w:=by
 have a:∀d,P.underlying t=some d->((kk=.prim .b∧d=.bool)∨(∃k,kk=.prim .i∧d=.int k)∨(kk=.prim .s∧d=.string))->
   (Instr.findKey t (o8 ι k) (J6 ι es 0)).run P w=.ok (vM ι r) w:=by
  intro d c j;simp [Instr.findKey,run_underlying c,Ad (VZ j) k es 0 0 r h]
 rcases El f with⟨rfl,c⟩ | ⟨_,rfl,c⟩ | ⟨rfl,c⟩ | ⟨fs,ks,rfl,c,hf⟩;exact a _ c (.inl ⟨rfl,rfl⟩);exact a _ c (.inr (.inl ⟨_,rfl,rfl⟩));exact a _ c (.inr (.inr ⟨rfl,rfl⟩));have g:=tF (P:=P) (ι:=ι) (t:=t) (λx y r l w=>Fq (KD f).1 l w) k w es 0 0 r h;cases es with
 | nil=>rw [L8] at h;cases h;simp [Instr.findKey,run_underlying c,J6,Instr.findNow,vM]
 | cons e es=>simp only [Instr.findKey,M0,run_underlying c,su];simp only [J6,Instr.findNow,Instr.sameNow];exact g
theorem AJ {f:GR}{k:d9}:∀{es:List (d9×d9)} {i:Nat} {p:Nat×d9},findKey f k es i=some (some p)->
  ∃j e,p.1=i+j∧es[j]?=some e∧e.2=p.2∧f k e.1=some true
 | [],i,p,h=>by rw [L8] at h;cases h
 | e::es,i,p,h=>by
  rw [K8] at h;obtain⟨b,h1,h2⟩:=D7 h;cases b with
  | true=>cases h2;exact⟨0,e,rfl,rfl,rfl,h1⟩
  | false=>obtain⟨j,e',h3,h4,h5⟩:=AJ h2;exact⟨j+1,e',by omega,by simpa using h4,h5⟩
end
section
variable {P:Program}{G:Mem}{slots:List Nat}{done:List (Option Nat)}
inductive AL (P:Program)(slots:List Nat)(done:List (Option Nat)):Op->Rs->Prop
 | load {t x sz x'}:partT P t=some sz->V5 P slots done x=some x'->AL P slots done (.load t x) (.load sz x')
 | look {t kt e kk z ok x k x' k'}:P.underlying t=some (.map kt e)->BO P kt=some kk->zeroV P e=some z->V5 P slots done x=some x'->V5 P slots done k=some k'->
   AL P slots done (.lookup t x k ok) (.look kk z ok x' k')
 | lenM {c t kt e x x'}:c.callee=.builtin .len->c.argTypes.toList=[t]->c.args.toList=[x]->P.underlying t=some (.map kt e)->V5 P slots done x=some x'->
   AL P slots done (.call c) (.lenM x')
 | bytesStr {a b e x x'}:P.underlying a=some (.slice e)->P.underlying b=some .string->P.underlying e=some (.int .u8)->V5 P slots done x=some x'->
   AL P slots done (.convert a b x) (.bytesStr x')
 | entry {x x'}:V5 P slots done x=some x'->AL P slots done (.entry x) (.entry x')
set_option maxHeartbeats 1000000 in
theorem wW {j:Op}{ro:Rs}(h:jc P slots done j=some (.r ro)):AL P slots done j ro:=by
 cases j with
 | load t x=>obtain⟨A,e,h⟩:=bind_eq h;obtain⟨g,d,h⟩:=bind_eq h;cases h;exact .load e d
 | lookup t x k ok=>obtain⟨u,f,h⟩:=bind_eq h;split at h;obtain⟨y,e,h⟩:=bind_eq h;obtain⟨z,d,h⟩:=bind_eq h;obtain⟨g,l,h⟩:=bind_eq h;obtain⟨s,n,h⟩:=bind_eq h;cases h;exact .look f e d l n;cases h
 | entry x=>obtain⟨g,d,h⟩:=bind_eq h;cases h;exact .entry d
 | convert a b x=>obtain⟨u,f,h⟩:=bind_eq h;obtain⟨v,p,h⟩:=bind_eq h;split at h;obtain⟨_,_,h⟩:=bind_eq h;cases h;obtain⟨_,_,h⟩:=bind_eq h;split at h;obtain⟨_,_,h⟩:=bind_eq h;cases h;cases h;obtain⟨w,q,h⟩:=bind_eq h;split at h;obtain⟨g,i,h⟩:=bind_eq h;cases h;exact .bytesStr f p q i;cases h;cases h
 | call c=>
  simp only [jc] at h;split at h
  ·rename_i b o;simp only [wM] at h;split at h;rename_i e d;obtain⟨u,f,h⟩:=bind_eq h;split at h;obtain⟨_,_,h⟩:=bind_eq h;cases h;obtain⟨_,_,h⟩:=bind_eq h;cases h;cases h;obtain⟨g,i,h⟩:=bind_eq h;cases h;exact .lenM o e d f i;cases h;all_goals (repeat' (first | (cases h;done) | (obtain⟨_,_,h⟩:=bind_eq h) | split at h))
  obtain⟨_,_,h⟩:=bind_eq h;split at h;obtain⟨_,_,h⟩:=bind_eq h;cases h;cases h;obtain⟨_,_,h⟩:=bind_eq h;obtain⟨_,_,h⟩:=bind_eq h;cases h;cases h
 | build t parts=>simp only [jc,Av] at h;repeat' (first | (cases h;done) | split at h)
 | slice t x lo hi mx=>
  cases mx with
  | some m=>simp only [jc] at h;cases h
  | none=>simp only [jc] at h;repeat' (first | (cases h;done) | (obtain⟨_,_,h⟩:=bind_eq h) | split at h)
 | next it str=>
  cases str with
  | true=>simp only [jc] at h;cases h
  | false=>simp only [jc] at h;obtain⟨_,_,h⟩:=bind_eq h;cases h
 | _=>simp only [jc] at h;repeat' (first | (cases h;done) | (obtain⟨_,_,h⟩:=bind_eq h) | split at h)
inductive rY (P:Program)(slots:List Nat)(done:List (Option Nat)):Op->VO->Prop
 | alloc {t z}:sU P t=some z->rY P slots done (.alloc t) (.alloc z)
 | box {t x x'}:V5 P slots done x=some x'->rY P slots done (.box t x) (.box x')
 | buildSlice {t len parts e es ps z}:P.underlying t=some (.slice e)->eX P e=some es->wL P slots done (λi=>some (i*es,es)) parts.toList=some ps->len*es<=16777216->
   sU P e=some z->rY P slots done (.buildSlice t len parts) (.buildSlice es len z ps)
 | mkMap {t}:rY P slots done (.makeMap t none) .mkMap
 | mkMapN {t k n kt e}:P.underlying t=some (.map kt e)->rY P slots done (.makeMap t (some (.const (.int k n)))) .mkMap
 | mkSlice {t l c e es by' z l' c'}:P.underlying t=some (.slice e)->eX P e=some es->jK P e=some by'->OM P e=some z->V5 P slots done l=some l'->V5 P slots done c=some c'->
   rY P slots done (.makeSlice t l c) (.mkSlice es by' z l' c')
 | strBytes {a b e x x'}:P.underlying a=some .string->P.underlying b=some (.slice e)->P.underlying e=some (.int .u8)->V5 P slots done x=some x'->
   rY P slots done (.convert a b x) (.strBytes x')
 | sl {t x lo hi e es x' lo' hi'}:P.underlying t=some (.slice e)->eX P e=some es->V5 P slots done x=some x'->cOpt P slots done lo=some lo'->cOpt P slots done hi=some hi'->
   rY P slots done (.slice t x lo hi none) (.sl es x' lo' hi')
set_option maxHeartbeats 1000000 in
theorem Ce {k:Op}{lo:VO}(h:jc P slots done k=some (.a lo)):rY P slots done k lo:=by
 cases k with
 | alloc t=>obtain⟨z,d,h⟩:=bind_eq h;cases h;exact .alloc d
 | box t x=>obtain⟨z,d,h⟩:=bind_eq h;cases h;exact .box d
 | buildSlice t len parts=>obtain⟨u,e,h⟩:=bind_eq h;split at h;obtain⟨s,d,h⟩:=bind_eq h;obtain⟨y,f,h⟩:=bind_eq h;split at h;rename_i j;obtain⟨z,g,h⟩:=bind_eq h;cases h;exact .buildSlice e d f j g;cases h;cases h
 | makeMap t r=>simp only [jc] at h;split at h;cases h;exact .mkMap;split at h;rename_i e;cases h;exact .mkMapN e;cases h;cases h
 | makeSlice t l c=>obtain⟨u,e,h⟩:=bind_eq h;split at h;obtain⟨_,d,h⟩:=bind_eq h;obtain⟨_,f,h⟩:=bind_eq h;obtain⟨_,g,h⟩:=bind_eq h;obtain⟨_,i,h⟩:=bind_eq h;obtain⟨_,p,h⟩:=bind_eq h;cases h;exact .mkSlice e d f g i p;cases h
 | convert a b x=>obtain⟨u,e,h⟩:=bind_eq h;obtain⟨v,q,h⟩:=bind_eq h;split at h;obtain⟨_,_,h⟩:=bind_eq h;cases h;obtain⟨w,n,h⟩:=bind_eq h;split at h;obtain⟨_,o,h⟩:=bind_eq h;cases h;exact .strBytes e q n o;cases h;obtain⟨w,n,h⟩:=bind_eq h;split at h;obtain⟨A,o,h⟩:=bind_eq h;cases h;cases h;cases h
 | slice t x lo hi mx=>
  cases mx with
  | some m=>simp only [jc] at h;cases h
  | none=>simp only [jc] at h;obtain⟨u,e,h⟩:=bind_eq h;split at h;obtain⟨_,_,h⟩:=bind_eq h;obtain⟨_,_,h⟩:=bind_eq h;obtain⟨_,_,h⟩:=bind_eq h;cases h;obtain⟨_,d,h⟩:=bind_eq h;obtain⟨_,f,h⟩:=bind_eq h;obtain⟨_,g,h⟩:=bind_eq h;obtain⟨_,i,h⟩:=bind_eq h;cases h;exact .sl e d f g i;obtain⟨_,_,h⟩:=bind_eq h;obtain⟨_,_,h⟩:=bind_eq h;obtain⟨_,_,h⟩:=bind_eq h;obtain⟨_,_,h⟩:=bind_eq h;cases h;cases h
 | call c=>
  simp only [jc] at h;split at h
  ·simp only [wM] at h;split at h;all_goals (repeat' (first | (cases h;done) | (obtain⟨_,_,h⟩:=bind_eq h) | split at h))
  obtain⟨_,_,h⟩:=bind_eq h;split at h;obtain⟨_,_,h⟩:=bind_eq h;cases h;cases h;obtain⟨_,_,h⟩:=bind_eq h;obtain⟨_,_,h⟩:=bind_eq h;cases h;cases h
 | build t parts=>simp only [jc,Av] at h;repeat' (first | (cases h;done) | split at h)
 | next it str=>
  cases str with
  | true=>simp only [jc] at h;cases h
  | false=>simp only [jc] at h;obtain⟨_,_,h⟩:=bind_eq h;cases h
 | _=>simp only [jc] at h;repeat' (first | (cases h;done) | (obtain⟨_,_,h⟩:=bind_eq h) | split at h)
inductive qW (P:Program)(slots:List Nat)(done:List (Option Nat)):Op->Xx->Prop
 | store {t a x k a' x'}:eX P t=some k->V5 P slots done a=some a'->V5 P slots done x=some x'->qW P slots done (.store t a x) (.store k a' x')
 | mapUpdate {t m k x kt e kk m' k' x'}:P.underlying t=some (.map kt e)->BO P kt=some kk->V5 P slots done m=some m'->V5 P slots done k=some k'->V5 P slots done x=some x'->
   qW P slots done (.mapUpdate t m k x) (.mapSet kk m' k' x')
 | insert {t m k x kt e kk m' k' x'}:P.underlying t=some (.map kt e)->BO P kt=some kk->V5 P slots done m=some m'->V5 P slots done k=some k'->V5 P slots done x=some x'->
   qW P slots done (.insert t m k x) (.mapSet kk m' k' x')
 | range {t x k e x'}:P.underlying t=some (.map k e)->V5 P slots done x=some x'->qW P slots done (.range t x) (.range x')
 | next {x x'}:V5 P slots done x=some x'->qW P slots done (.next x false) (.next x')
 | app {c t u s x e es z by' s' x' d}:P.underlying u=some d->c.callee=.builtin .append->c.argTypes.toList=[t,u]->c.args.toList=[s,x]->P.underlying t=some (.slice e)->
   eX P e=some es->OM P e=some z->jK P e=some by'->V5 P slots done s=some s'->V5 P slots done x=some x'->
   qW P slots done (.call c) (.app es (match d with | .int _=>true | _=>false) z by' s' x')
 | copy {c t u d s e es d' s'}:c.callee=.builtin .copy->c.argTypes.toList=[t,u]->c.args.toList=[d,s]->P.underlying t=some (.slice e)->
   eX P e=some es->V5 P slots done d=some d'->V5 P slots done s=some s'->qW P slots done (.call c) (.copy es d' s')
 | clear {c t x e z x'}:c.callee=.builtin .clear->c.argTypes.toList=[t]->c.args.toList=[x]->P.underlying t=some (.slice e)->
   sU P e=some z->V5 P slots done x=some x'->qW P slots done (.call c) (.clear z x')
 | call {c f fn as}:c.callee=.value (.func f)->P.funcs[f]?=some fn->fn.body.isSome=true->fn.name≠ "runtime.NumGoroutine"->kI P slots done c.args.toList=some as->
   qW P slots done (.call c) (.call f as)
 | panic {x x'}:V5 P slots done x=some x'->qW P slots done (.panic x) (.panic x')
 | defer {c f f' as}:c.callee=.value f->V5 P slots done f=some f'->kI P slots done c.args.toList=some as->qW P slots done (.defer c) (.defer f' as)
 | recover {c}:c.callee=.builtin .recover->qW P slots done (.call c) .recover
 | callv {c f f' as}:c.callee=.value f->V5 P slots done f=some f'->kI P slots done c.args.toList=some as->
   qW P slots done (.call c) (.callv f' as)
set_option maxHeartbeats 1000000 in
theorem Cg {q:Op}{eo:Xx}(h:jc P slots done q=some (.e eo)):qW P slots done q eo:=by
 cases q with
 | store t a x=>obtain⟨_,d,h⟩:=bind_eq h;obtain⟨_,g,h⟩:=bind_eq h;obtain⟨_,j,h⟩:=bind_eq h;cases h;exact .store d g j
 | mapUpdate t m k x=>obtain⟨u,i,h⟩:=bind_eq h;split at h;obtain⟨_,d,h⟩:=bind_eq h;obtain⟨_,g,h⟩:=bind_eq h;obtain⟨_,j,h⟩:=bind_eq h;obtain⟨_,l,h⟩:=bind_eq h;cases h;exact .mapUpdate i d g j l;cases h
 | insert t m k x=>obtain⟨u,i,h⟩:=bind_eq h;split at h;obtain⟨_,d,h⟩:=bind_eq h;obtain⟨_,g,h⟩:=bind_eq h;obtain⟨_,j,h⟩:=bind_eq h;obtain⟨_,l,h⟩:=bind_eq h;cases h;exact .insert i d g j l;cases h
 | range t x=>obtain⟨u,i,h⟩:=bind_eq h;split at h;obtain⟨_,d,h⟩:=bind_eq h;cases h;exact .range i d;cases h
 | next it str=>
  cases str with
  | true=>simp only [jc] at h;cases h
  | false=>simp only [jc] at h;obtain⟨_,d,h⟩:=bind_eq h;cases h;exact .next d
 | panic x=>obtain⟨_,d,h⟩:=bind_eq h;cases h;exact .panic d
 | defer c=>simp only [jc] at h;split at h;obtain⟨_,d,h⟩:=bind_eq h;obtain⟨_,g,h⟩:=bind_eq h;cases h;exact .defer (by assumption) d g;cases h
 | convert a b x=>obtain⟨u,i,h⟩:=bind_eq h;obtain⟨v,B,h⟩:=bind_eq h;repeat' (first | (cases h;done) | (obtain⟨_,_,h⟩:=bind_eq h) | split at h)
 | slice t x lo hi mx=>
  cases mx with
  | some m=>simp only [jc] at h;cases h
  | none=>simp only [jc] at h;repeat' (first | (cases h;done) | (obtain⟨_,_,h⟩:=bind_eq h) | split at h)
 | call c=>
  simp only [jc] at h;split at h
  ·rename_i b n;simp only [wM] at h;split at h
   ·repeat' (first | (cases h;done) | (obtain⟨_,_,h⟩:=bind_eq h) | split at h)
   ·repeat' (first | (cases h;done) | (obtain⟨_,_,h⟩:=bind_eq h) | split at h)
   rename_i d g;obtain⟨u,i,h⟩:=bind_eq h;split at h;obtain⟨_,y,h⟩:=bind_eq h;obtain⟨_,j,h⟩:=bind_eq h;obtain⟨_,l,h⟩:=bind_eq h;obtain⟨_,o,h⟩:=bind_eq h;obtain⟨_,s,h⟩:=bind_eq h;obtain⟨_,w,h⟩:=bind_eq h;cases h;exact .app y n d g i j l o s w;cases h;rename_i d g;obtain⟨u,i,h⟩:=bind_eq h;split at h;obtain⟨_,j,h⟩:=bind_eq h;obtain⟨_,l,h⟩:=bind_eq h;obtain⟨_,o,h⟩:=bind_eq h;cases h;exact .copy n d g i j l o;cases h;rename_i d g;obtain⟨u,i,h⟩:=bind_eq h;split at h;obtain⟨_,j,h⟩:=bind_eq h;obtain⟨_,l,h⟩:=bind_eq h;cases h;exact .clear n d g i j l;cases h;all_goals (first | (cases h;exact .recover n;done) | (repeat' (first | (cases h;done) | (obtain⟨_,_,h⟩:=bind_eq h) | split at h)))
  rename_i f r;obtain⟨A,d,h⟩:=bind_eq h;split at h;rename_i p;obtain⟨z,g,h⟩:=bind_eq h;cases h;simp only [D5,bne_iff_ne,ne_eq] at p;exact .call r d p.1 p.2 g;cases h;rename_i f r _;obtain⟨_,d,h⟩:=bind_eq h;obtain⟨_,g,h⟩:=bind_eq h;cases h;exact .callv (by assumption) d g;cases h
 | build t parts=>simp only [jc,Av] at h;repeat' (first | (cases h;done) | split at h)
 | _=>simp only [jc] at h;repeat' (first | (cases h;done) | (obtain⟨_,_,h⟩:=bind_eq h) | split at h)
end
section
variable {P:Program}{G:Mem}{ι:K7}{m:Mem}{w:World}{slots:List Nat}{done:List (Option Nat)}{ls:List d9}{env:T d9}{a:Act}
def UF (P:Program)(ρ:Operand->Value)(op:Op)(v:Value)(w:World):Prop:=
 ∀(o:Oper),o.op=op->(execOp ρ o).run P w=.ok (.value v) w
theorem mO {r:Nat}{o:Obj}(h:w.heap[r]?=some o)(a:∀c e fz,o≠.cells c e fz):(getObj r).run P w=.ok o w:=by simp only [getObj,Sem.run,h]
theorem MK (f:RM P G ι m w.heap){id:Nat}{es:List (d9×d9)}(d:m.get id=some (.map es)):
  (getObj (ι id).b).run P w=.ok (.map (J6 ι es 0).toArray es.length) w∧∀e∈es,e.1.lt (m.nm ι)∧e.2.lt (m.nm ι):=by
 obtain⟨a,c⟩:=f.blk id _ d;exact⟨mO a (by intro _ _ _ e;cases e),c⟩
def Em (ι:K7)(ok:Bool)(z:d9)(r:Option (Nat×d9)):Value:=match r with
 | some p=>if ok then .tuple #[o8 ι p.2,.bool true] else o8 ι p.2
 | none=>if ok then .tuple #[o8 ι z,.bool false] else o8 ι z
theorem Pg {ok:Bool}{z v:d9}{r:Option (Nat×d9)}(h:found ok z r=some v){n:Nm}(b:z.lt n)(a:∀p,r=some p->p.2.lt n):
  v.lt n∧o8 ι v=Em ι ok z r:=by
 cases r with
 | none=>have h:some (bi ok (.tuple [z,.bool false]) z)=some v:=h;cases h;cases ok<;>simp [bi,d9.lt,dI,o8,A8,b,Em]
 | some p=>have h:some (bi ok (.tuple [p.2,.bool true]) p.2)=some v:=h;cases h;have:=a p rfl;cases ok<;>simp [bi,d9.lt,dI,o8,A8,this,Em]
theorem Ch (w:World){t f e:TypeId}{kk:Gs}{z:d9}(o:P.underlying t=some (.map f e))(m:BO P f=some kk)(I:zeroV P e=some z){ok:Bool}{k v:d9}
  {es:List (d9×d9)} {r:Option (Nat×d9)} {n:Nm} (h:∀e∈es,e.1.lt n∧e.2.lt n) (E:dY (vU kk) (Mj kk) k es=some r) (G:found ok z r=some v):
  v.lt n∧∀x,(x=.map none∧es=[])∨(∃b,x=.map (some b)∧∀w',w'=w->(getObj b).run P w'=.ok (.map (J6 ι es 0).toArray es.length) w')->
   (Instr.lookup t x (o8 ι k) ok).run P w=.ok (o8 ι v) w:=by
 obtain⟨A,⟨y,b,B⟩,d⟩:=Cc E;obtain⟨c,i⟩:=sZ (w:=w) I ι;obtain⟨u,g⟩:=Pg (ι:=ι) G (i n) (λp F=>by
  subst F;obtain⟨j,s,_,C,D,_⟩:=AJ d;rw [← D];exact (h s (O0 C)).2)
 refine⟨u,λx H=>?_⟩;have l:=λq=>UE (ι:=ι) m A B q w;have a:=Ae (ι:=ι) m d w;rcases H with⟨rfl,rfl⟩ | ⟨b,rfl,hb⟩;simp only [Instr.lookup,M0,run_underlying o,su,adg,l];rw [show Instr.findKey f (o8 ι k) []=Instr.findKey f (o8 ι k) (J6 ι [] 0) from rfl,a];simp only [su];rw [L8] at d;cases d;simp [vM,c,g,Em];simp only [Instr.lookup,M0,run_underlying o,su,hb w rfl,adg,l];rw [a];simp only [su];cases r with
 | none=>simp [vM,c,g,Em]
 | some p=>simp [vM,g,Em]
theorem Ci:∀(l:List d9) (s:List UInt8),byteOf l=some s->∀(acc:ByteArray) (w:World),
  (forIn (A8 ι l) acc (λc (r:ByteArray)=>match c with
   | .int .u8 n=>pure (ForInStep.yield (r.push (UInt8.ofNat n.toNat)))
   | _=>do stuck "bytesToString: byte expected";pure (ForInStep.yield r)):Sem ByteArray).run P w=.ok ⟨acc.data++s.toArray⟩ w
 | [],s,h,acc,w=>by simp [byteOf] at h;subst h;simp [A8]
 | v::l,s,h,acc,w=>by
  cases v<;>try (simp [byteOf] at h;done)
  rename_i k n;cases k<;>try (simp [byteOf] at h;done)
  cases n with
  | negSucc n=>simp [byteOf] at h
  | ofNat n=>
   simp only [byteOf] at h;cases hb:byteOf l with
   | none=>simp [hb] at h
   | some s'=>simp only [hb,l7] at h;subst h;simp only [A8,o8,azV,M0,adg,su];rw [Ci l s' hb];congr 1;simp [ByteArray.push]
theorem oD {x:Value}{m:Mem}(f:RM P G ι m w.heap){id off len c:Nat}(g:x=.slice (some (ι.at id off)) len c){l:List d9}{s:List UInt8}
  (d:V4 m id off len=some l) (e:byteOf l=some s):(Conv.bytesToString x).run P w=.ok (o8 ι (.str s)) w:=by
 obtain⟨a,_,b⟩:=lC f d;have h:=rX (P:=P) b;rw [a] at h;subst g;have:=Ci (P:=P) (ι:=ι) l s e ByteArray.empty w;simp only [Conv.bytesToString,M0,h,su];rw [← aAa]
 erw [this]
 simp [o8,adg]
theorem Cj (ι:K7):∀(es:List (d9×d9)) (i j:Nat),(J6 ι es j).find? (λe=>e.born==j+i)=(es[i]?).map λe=>{key:=o8 ι e.1,val:=o8 ι e.2,born:=j+i}
 | [],i,j=>by simp [J6]
 | e::es,0,j=>by simp [J6]
 | e::es,i+1,j=>by simp only [J6,List.find?_cons];rw [show (j==j+(i+1))=false from by simp];simp only [adJ];have:=Cj ι es i (j+1);rw [show j+1+i=j+(i+1) from by omega] at this;exact this
theorem HZ {a:Type}{b:Option U7}{c:Option a}{k:Nat->Nat->List Nat->Option a}{r:a}(h:UC b c k=some r):
  (∃s l,b=some (.iter none s l)∧c=some r)∨∃mp s l,b=some (.iter (some mp) s l)∧k mp s l=some r:=by
 match b,h with
 | some (.iter none s l),h=>exact .inl ⟨s,l,rfl,h⟩
 | some (.iter (some mp) s l),h=>exact .inr ⟨mp,s,l,rfl,h⟩
theorem uK (s:St P ι (m.nm ι) slots done ls env a.tmps)(B:RM P G ι m w.heap){W:Op}{X:Rs}(h:AL P slots done W X){v:d9}(J:wF X ls env m=some v):
  v.lt (m.nm ι)∧UF P a.eval W (o8 ι v) w:=by
 cases h with
 | @load t x sz x' j p=>
  obtain⟨f,_⟩:=D9 s p;have key:∀id off,H9 x' ls env=.ptr id off->aO (m.get id) (λY n C=>match sz with | none=>cell1 Y n C off | some k=>ob (nR Y n C off k) λl=>some (.agg l))=some v->
    v.lt (m.nm ι)∧UF P a.eval (.load t x) (o8 ι v) w:=by
   intro id off d A;obtain⟨K,L⟩:=Ac j B A;refine⟨L,λo g=>?_⟩;simp [execOp,g,f,d,o8,Instr.loadAt,Instr.sureAddr,K]
  cases sz with
  | none=>obtain⟨id,off,d,A⟩:=jV J;exact key id off d A
  | some k=>obtain⟨id,off,d,A⟩:=jV J;exact key id off d A
 | @look t kt e kk z ok x k x' k' hu hk hz d hkk=>obtain⟨f,a0⟩:=D9 s d;obtain⟨U,_⟩:=D9 s hkk;rcases zk J with⟨d,h⟩ | ⟨id,d,h⟩;obtain⟨r,E,F⟩:=D7 h;obtain⟨K,L⟩:=Ch (ι:=ι) w hu hk hz (n:=(m.nm ι)) (by simp) E F;refine⟨K,λo g=>?_⟩;have:=L (.map none) (.inl ⟨rfl,rfl⟩);have d:H9 x' ls env=.nilMap:=d;simp [execOp,g,f,d,o8,U,this];obtain⟨D,j,p⟩:=AB h;obtain⟨r,E,F⟩:=D7 p;obtain⟨S,V⟩:=MK B j;obtain⟨K,L⟩:=Ch (ι:=ι) w hu hk hz V E F;refine⟨K,λo g=>?_⟩;have:=L (.map (some (ι id).b)) (.inr ⟨_,rfl,λw' hw=>by subst hw;exact S⟩);have d:H9 x' ls env=.map id:=d;simp [execOp,g,f,d,o8,U,this]
 | @lenM c t kt e x x' A y q hu d=>
  obtain⟨f,_⟩:=D9 s d;have y:c.argTypes=#[t]:=by rw [← y,adA]
  have q:c.args=#[x]:=by rw [← q,adA]
  rcases zk J with⟨d,h⟩ | ⟨id,d,h⟩;cases h;have d:H9 x' ls env=.nilMap:=d;exact⟨by simp [d9.lt],λo g=>by simp [execOp,g,resolve,A,q,y,invoke,builtin,Builtin.len_,run_underlying hu,f,d,o8,goInt]⟩;obtain⟨D,j,p⟩:=AB h;obtain⟨S,V⟩:=MK B j;cases p;have d:H9 x' ls env=.map id:=d;exact⟨by simp [d9.lt],λo g=>by simp [execOp,g,resolve,A,q,y,invoke,builtin,Builtin.len_,run_underlying hu,f,d,o8,goInt,S]⟩
 | @bytesStr t b e x x' j p E d=>obtain⟨f,_⟩:=D9 s d;rcases wR J with⟨d,h⟩ | ⟨id,off,len,cap,d,h⟩ | ⟨id,off,len,cap,d,h⟩;cases h;have d:H9 x' ls env=.nilSlice:=d;refine⟨by simp [d9.lt],λo g=>?_⟩;simp [execOp,g,f,d,o8,convert,run_underlying j,run_underlying p,run_underlying E,Conv.bytesToString];rfl;obtain⟨l,F,h⟩:=D7 h;obtain⟨T,M,h⟩:=D7 h;cases h;have d:H9 x' ls env=.slice id off len cap:=d;have:=oD B (x:=a.eval x) (by rw [f,d];rfl) F M;refine⟨by simp [d9.lt],λo g=>?_⟩;rw [f,d] at this;simp only [o8] at this;simp [execOp,g,f,d,o8,convert,run_underlying j,run_underlying p,run_underlying E,this];obtain⟨l,F,h⟩:=D7 h;obtain⟨T,M,h⟩:=D7 h;cases h;have d:H9 x' ls env=.sliceU id off len cap:=d;have:=oD B (x:=a.eval x) (by rw [f,d];rfl) F M;refine⟨by simp [d9.lt],λo g=>?_⟩;rw [f,d] at this;simp only [o8] at this;simp [execOp,g,f,d,o8,convert,run_underlying j,run_underlying p,run_underlying E,this]
 | @entry x x' d=>
  obtain⟨f,_⟩:=D9 s d;obtain⟨id,off,d,h⟩:=jV J;have d:H9 x' ls env=.ptr id off:=d;obtain⟨h0,h⟩:=I8 h;obtain rfl:off=0:=rW h0;rcases HZ h with⟨_,_,_,h⟩ | ⟨mp,since,seen,u,h⟩;cases h;cases seen with
  | nil=>cases h
  | cons i seen=>
   have h:VP (m.get mp) (λD=>bi (Nat.beq (len' D) since) (ob (uw i D) λe=>some (.tuple [e.1,e.2])) none)=some v:=h;obtain⟨D,N,h⟩:=AB h;obtain⟨j,h⟩:=I8 h;have j:=rW j;rw [K4] at j;obtain⟨e,p,h⟩:=D7 h;rw [kZ] at p;cases h;obtain⟨Z,b2,sn,st,b3,b4,b5⟩:=B.blk id _ u;have Q:=B.spot id _ u rfl;obtain⟨c1,c2⟩:=MK B N;have he:=c2 e (O0 p);refine⟨by simp [d9.lt,dI,he],λo g=>?_⟩;have R:st=since:=b5 (by simp);have H:sn.back?=some i:=by have:=congrArg List.head? b4;simpa [List.head?_reverse] using this
   have I:(J6 ι D 0).toArray.find? (λe=>e.born==i)=some {key:=o8 ι e.1,val:=o8 ι e.2,born:=i}:=by have:=Cj ι D i 0;rw [p] at this;simpa using this
   have u:=mO (P:=P) b3 (by intro _ _ _ e;cases e);have O:a.eval x=.pointer (some ⟨(ι id).b,0,none⟩):=by rw [f,d];simp [o8,K7.at,Z,Q]
   simp [execOp,g,O,Instr.entry,u,H,c1,R,j,I,o8,A8]
end
section
variable {P:Program}{G:Mem}{ι:K7}{n:Nm}{slots:List Nat}{done:List (Option Nat)}{ls:List d9}{env:T d9}{a:Act}
theorem Ph (rs:Nat)(l:List d9)(r:List (List d9))(h:rowsOf rs 0 l=some r):l=[]∧r=[]:=by
 cases l with
 | nil=>cases h;exact⟨rfl,rfl⟩
 | cons=>cases h
theorem Pj (rs k:Nat)(l:List d9):rowsOf rs (k+1) l=ob (takeN rs l) λr=>ob (rowsOf rs k (gZ rs l)) λrest=>some (r::rest):=rfl
theorem jk (rs:Nat):∀(k:Nat) (l:List d9) (r:List (List d9)),rowsOf rs k l=some r->
  l.length=k*rs∧r.length=k∧∀i,i<k->∃row,r[i]?=some row∧row.length=rs∧∀j,j<rs->row[j]?=l[i*rs+j]?:=by
 intro k;induction k with
 | zero=>intro l r h;obtain⟨rfl,rfl⟩:=Ph rs l r h;simp
 | succ k ih=>
  intro l r h;rw [Pj] at h;obtain⟨x,n,h⟩:=D7 h;obtain⟨y,b,h⟩:=D7 h;cases h;obtain⟨rfl,p⟩:=mJ _ _ _ n;rw [gJ] at b;obtain⟨f,g,m⟩:=ih _ _ b;rw [azM] at f;refine⟨by rw [adF];omega,by simp [g],λi o=>?_⟩;cases i with
  | zero=>exact⟨_,rfl,by simp;omega,λj a=>by simp [a]⟩
  | succ i=>obtain⟨row,c,d,e⟩:=m i (by omega);refine⟨row,by simpa using c,d,λj a=>?_⟩;rw [e j a,adQ];congr 1;rw [adF];omega
theorem Pk {h:Array Obj}{l:Loc}{es k:Nat}{a:List d9}{f:List (List d9)}(B:rowsOf es k a=some f){c:Array Value}{e:TypeId}{q:Nat×Nat}
  (A:h[l.b]?=some (Obj.cells c e q)) (h0:l.base=0) (E:l.cap=c.size) (o:dI n a) (g:∀(j:Nat) (v:d9),a[j]?=some v->c[j]?=some (o8 ι v)) (w:a.length<=c.size):
  fG P ι n h l (.cells es k (T.ofList f)):=by
 obtain⟨y,D,z⟩:=jk _ _ _ _ B;refine⟨c,e,q,A,by omega,⟨by omega,f.length,by omega,T.jy f⟩,λi u=>?_⟩;obtain⟨p,x,r,s⟩:=z i u;refine⟨p,by rw [T.aV];exact x,r,eH.2 λv C=>?_,λj d=>?_⟩;obtain⟨j,d⟩:=adr C;have m:j<es:=ay5 (eP.1 d).1 r;rw [s j m] at d;exact U5 o (O0 d);rw [s j d,h0,S9];have t:i*es+j<a.length:=by
  rw [y]
  calc i*es+j<i*es+es:=by omega
   _=(i+1)*es:=by rw [adF]
   _<=k*es:=adb _ u
 rw [aP t];exact g _ _ (aP t)
theorem Yo {h:Array Obj}{l:Loc}{cs:List d9}{e:TypeId}{c:Nat×Nat}
  (d:h[l.b]?=some (.cells (A8 ι cs).toArray e c)) (h0:l.base=0) (f:l.cap=cs.length) (a:dI n cs):fG P ι n h l (l6 cs):=by
 refine⟨_,e,c,d,by simp;omega,⟨by simp;omega,1,aA 1,.nd .e .e⟩,λi g=>?_⟩;obtain rfl:i=0:=by omega
 refine⟨cs,rfl,(K4 cs).symm,a,λj k=>?_⟩;rw [h0];simp [dB]
theorem KE {nid:Nat}{l:Loc}{cs:List d9}(b:¬ n nid)(h:dI n cs):A8 (ι.upd nid l) cs=A8 ι cs:=
 iq (n:=n) (λi a=>ι.upd_ne l (λe=>b (by subst e;exact a))) cs h
theorem Pm {nid:Nat}{l:Loc}{v:d9}(b:¬ n nid)(h:v.lt n):o8 (ι.upd nid l) v=o8 ι v:=
 Z5 (n:=n) (λi a=>ι.upd_ne l (λe=>b (by subst e;exact a))) v h
structure Makes (P:Program)(ι:K7)(n:Nm)(ρ:Operand->Value)(op:Op)(nid:Nat)(v:d9)(b:U7)(w:World)(l:Loc)(obj:Obj)(w':World):Prop where
 loc:l.b=w.heap.size
 spot:l.spot=none
 run:∀o:Oper,o.op=op->(execOp ρ o).run P w=.ok (.value (o8 (ι.upd nid l) v)) w'
 grew:Yj w w' obj
 live:jd b=false
 free:∀c e fz,obj=.cells c e fz->∀k,k<c.size->¬ (fz.1<=k∧k<fz.2)
 blk:∀n':Nm,n.le n'->n' nid->n'.cap nid=l.cap->fG P (ι.upd nid l) n' (w.heap.push obj) l b∧v.lt n'
inductive tH (P:Program)(ι:K7)(n:Nm)(ρ:Operand->Value)(op:Op)(nid:Nat)(w:World):d9×Option U7->Prop
 | none {v}:v.lt n->Gives P ρ op (o8 ι v)->tH P ι n ρ op nid w (v,none)
 | made {v b} (l:Loc) (obj:Obj) (w':World):Makes P ι n ρ op nid v b w l obj w'->tH P ι n ρ op nid w (v,some b)
 | tail {v p} (l:Loc):n p->(l.cap=0∨(l.b=(ι p).b∧l.base+l.cap<=(ι p).base+(ι p).cap∧((ι p).spot=none->l.spot=none)))->Gives P ρ op (o8 (ι.upd nid l) v)->(∀n':Nm,n.le n'->n' nid->n'.cap nid=l.cap->v.lt n')->
   tH P ι n ρ op nid w (v,some (.tail p))
theorem jA {w:World}{o:Obj}:(w.heap.push o)[w.heap.size]?=some o:=by simp
theorem KF {g:Op}{nid:Nat}{w:World}{cs:List d9}(j:¬ n nid)(b:dI n cs){e:TypeId}
  (d:∀o:Oper,o.op=g->(execOp a.eval o).run P w=.ok (.value (.pointer (some ⟨w.heap.size,0,none⟩))) {w with heap:=w.heap.push (.cells (A8 ι cs).toArray e)}):
  tH P ι n a.eval g nid w (.ptr nid 0,some (l6 cs)):=by
 refine .made ⟨w.heap.size,0,cs.length,none⟩ (.cells (A8 ι cs).toArray e) {w with heap:=w.heap.push (.cells (A8 ι cs).toArray e)} ⟨rfl,rfl,λo m=>?_,⟨rfl,rfl,rfl,rfl⟩,rfl,λc p q h k r=>?_,λs i f _=>⟨?_,f⟩⟩;rw [d o m];simp [o8,K7.at];cases h;simp;rw [← KE (l:=⟨w.heap.size,0,cs.length,none⟩) j b];exact Yo jA rfl rfl (gK i _ b)
theorem jl (e:TypeId)(cs:Array Value)(w:World):(newRow e cs).run P w=.ok ⟨w.heap.size,0,none⟩ {w with heap:=w.heap.push (.cells cs e)}:=by simp [newRow,newObj,Sem.run]
theorem uL (z:List d9)(k:Nat):P7 z (k+1)=z++P7 z k:=by show bU z (P7 z k)=_;rw [U9]
theorem Ck (z:List d9):P7 z 0=[]:=rfl
theorem gQ (z:List d9):∀k,(P7 z k).length=k*z.length
 | 0=>by simp [Ck]
 | k+1=>by rw [uL,U1,gQ z k,adF];omega
theorem uM {z:List d9}(h:dI n z):∀k,dI n (P7 z k)
 | 0=>trivial
 | k+1=>by rw [uL,eH];intro v hv;rcases O4.1 hv with hv | hv;exact U5 h hv;exact U5 (uM h k) hv
theorem wX (z:List d9):∀(k i:Nat),i<k*z.length->(P7 z k)[i]?=z[i%z.length]?
 | 0,i,h=>by simp at h
 | k+1,i,h=>by rw [uL];by_cases hi:i<z.length;rw [ade hi,al0 hi];have hi:z.length<=i:=aq8 hi;rw [adq hi,wX z k _ (by rw [adF] at h;omega),← Nat.mod_eq_sub_mod hi]
theorem Ia (z:List d9)(k:Nat):(Array.range (k*z.length)).map (λi=>(A8 ι z).toArray[i%(A8 ι z).toArray.size]!)=(A8 ι (P7 z k)).toArray:=by
 apply Array.ext;simp [gQ];intro i d f;have a:i<k*z.length:=by simpa using d
 have j:0<z.length:=aAg λe=>by rw [e] at a;simp at a
 have c:i%z.length<z.length:=ah5 _ j;have g:=wX z k i a;rw [Array.getElem_map,Array.getElem_range];have h:(A8 ι (P7 z k))[i]?=some (A8 ι z)[i%z.length]!:=by rw [dB,g,aP c];simp [dJ,c]
 have b:(A8 ι (P7 z k)).toArray[i]?=some ((A8 ι z).toArray[i%(A8 ι z).toArray.size]!):=by simpa using h
 rw [ads f] at b;exact (LA b).symm
theorem Yp {i:Op}{nid:Nat}{w:World}{b:List d9}(r:¬ n nid)(d:dI n b){e:TypeId}{es k len:Nat}{m:List (List d9)}(t:rowsOf es k b=some m)
  (f:∀o:Oper,o.op=i->(execOp a.eval o).run P w=.ok (.value (.slice (some ⟨w.heap.size,0,none⟩) len k)) {w with heap:=w.heap.push (.cells (A8 ι b).toArray e)}):
  tH P ι n a.eval i nid w (.slice nid 0 len k,some (.cells es k (T.ofList m))):=by
 refine .made ⟨w.heap.size,0,b.length,none⟩ (.cells (A8 ι b).toArray e) {w with heap:=w.heap.push (.cells (A8 ι b).toArray e)} ⟨rfl,rfl,λo s=>?_,⟨rfl,rfl,rfl,rfl⟩,rfl,λc u x h k y=>?_,λz q g _=>⟨?_,g⟩⟩;rw [f o s];simp [o8,K7.at];cases h;simp;rw [← KE (l:=⟨w.heap.size,0,b.length,none⟩) r d];exact Pk t jA rfl (by simp) (gK q _ d) (λj v p=>by simp [dB,p]) (by simp)
theorem En {t:TypeId}{z:List d9}(h:OM P t=some z):sU P t=some z∧eX P t=some z.length:=by simp only [OM] at h;split at h;split at h;cases h;rename_i a b c;exact⟨b,by rw [a,c]⟩;cases h;cases h
theorem run_askRoom (k:Nat)(w:World):(askRoom k).run P w=.ok () w:=by unfold askRoom;split<;>simp [mark,Sem.run]
theorem Cm (e:TypeId)(c:Array Value)(hp:Array Obj)(w:World):
  (markStringish ⟨hp.size,0,none⟩).run P {w with heap:=hp.push (.cells c e)}=.ok () {w with heap:=hp.push (.cells c e (c.size,c.size+1))}:=by
 simp only [markStringish,M0,run_shape,World.shape?,su];have d:∀(f:Obj->Obj),(hp.push (.cells c e)).modify hp.size f=hp.push (f (.cells c e)):=by
  intro f;apply Array.ext;simp;intro i a b;rw [Array.getElem_modify];simp only [Array.size_push,Array.size_modify] at a b;by_cases h:hp.size=i;subst h;simp;have:i<hp.size:=by omega
  simp [h,Array.getElem_push_lt this]
 simp [World.freeze,d]
theorem uN (s:St P ι n slots done ls env a.tmps)(D:∀i,n i->n.cap i=(ι i).cap){nid:Nat}(hn:¬ n nid){op:Op}{lo:VO}(h:rY P slots done op lo){r:d9×Option U7}(y:Fa lo ls env nid=some r)(w:World):
  tH P ι n a.eval op nid w r:=by
 cases h with
 | @alloc t z hz=>cases y;obtain⟨v,Q,N,h3⟩:=gM (w:=w) hz ι;exact KF (e:=t) hn (h3 n) λo A=>by simp [execOp,A,Instr.alloc,Q,newVar,jl,N]
 | @box t x x' hx=>cases y;obtain⟨e1,e2⟩:=D9 s hx;exact KF (e:=t) hn (BS e2) λo A=>by simp [execOp,A,Instr.box,e1,newVar,jl,qc]
 | @mkMap t=>cases y;refine .made ⟨w.heap.size,0,0,none⟩ (.map #[] 0) {w with heap:=w.heap.push (.map #[] 0)} ⟨rfl,rfl,λo A=>?_,⟨rfl,rfl,rfl,rfl⟩,rfl,(λc e' fz h=>by cases h),λn' hm C _=>⟨⟨?_,by simp⟩,C⟩⟩;simp [execOp,A,Instr.makeMap,o8,newObj,Sem.run];simp [J6]
 | @mkMapN t k m kt e hu=>cases y;refine .made ⟨w.heap.size,0,0,none⟩ (.map #[] 0) {w with heap:=w.heap.push (.map #[] 0)} ⟨rfl,rfl,λo A=>?_,⟨rfl,rfl,rfl,rfl⟩,rfl,(λc e' fz h=>by cases h),λn' hm C _=>⟨⟨?_,by simp⟩,C⟩⟩;simp [execOp,A,Instr.makeMap,o8,newObj,Sem.run,run_underlying hu,Act.eval,asInt,asIntOf];simp [J6]
 | @buildSlice t len parts e es ps z hu hes hps a1 hz=>
  obtain⟨cells,Q,y⟩:=D7 y;obtain⟨rl,N,y⟩:=D7 y;cases y;obtain⟨v,a2,a3,U⟩:=gM (P:=P) (w:=w) hz ι;obtain⟨g,M,g3⟩:=Ej s _ parts.toList ps hps _ cells (uM (U n) len) Q;obtain⟨r1,_,_⟩:=jk _ _ _ _ N;rw [gQ] at g3;have Y:(parts.map λp=>(p.1,a.eval p.2)).toList=parts.toList.map λp=>(p.1,a.eval p.2):=by simp
  refine Yp (e:=e) hn M N λo A=>?_
  have ac:¬ len*es>2^24:=by have:(2:Nat)^24=16777216:=rfl
                            omega
  simp only [execOp,A,Instr.buildSlice,M0,run_underlying hu,su,run_sizeOf hes,if_neg ac,adg];have V:∀Z:Array Value,(len*es=0∨Z=(A8 ι z).toArray)->(Array.range (len*es)).map (λi=>Z[i%Z.size]!)=(A8 ι (P7 z len)).toArray:=by
   intro Z hZ;by_cases L:len*es=0;have:P7 z len=[]:=azX (by rw [gQ];omega);rw [this,L];simp [A8];rcases hZ with h | rfl;exact absurd h L;have hm:len*z.length=len*es:=by omega
   have hp:0<len:=aAg λe=>L (by rw [e,adD]);have ag:z.length=es:=Nat.eq_of_mul_eq_mul_left hp hm;rw [← ag];exact Ia z len
  by_cases L:len*es=0;rw [if_pos L];simp only [M0,adg,su,Y,V #[] (.inl L),g];simp [jl];rw [if_neg L];simp only [M0,a2,adg,su,Y,a3,V _ (.inr rfl),g];simp [jl]
 | @mkSlice t l c e es by' z l' c' hu hes hby hz hl I=>
  obtain⟨af,a6⟩:=En hz;rw [hes] at a6;cases a6;obtain⟨i,len,Q,y⟩:=iC y;obtain⟨j,cap,N,y⟩:=iC y;obtain⟨g,y⟩:=I8 y;obtain⟨M,y⟩:=I8 y;obtain⟨g3,y⟩:=I8 y;cases y;have g:len<=cap:=M8 g;have M:by'*cap<=281474976710656:=M8 M;have g3:cap<9223372036854775808:=Eq.mp O6 g3;have Q:H9 l' ls env=.int i (len:Int):=Q;have N:H9 c' ls env=.int j (cap:Int):=N;obtain⟨e1,_⟩:=D9 s hl;obtain⟨e2,_⟩:=D9 s I;obtain⟨ai,a9,aa⟩:=zi (w:=w) hby;obtain⟨v,a2,a3,U⟩:=gM (P:=P) (w:=w) af ι;have K:=gQ z cap;have B:∀o:Oper,o.op=.makeSlice t l c->(execOp a.eval o).run P w=.ok (.value (.slice (some ⟨w.heap.size,0,none⟩) len cap)) {w with heap:=w.heap.push (.cells (A8 ι (P7 z cap)).toArray e)}:=by
   intro o A;have w1:IntKind.i64.wrap (len:Int)=len:=BU _ ⟨by omega,by omega⟩;have w2:IntKind.i64.wrap (cap:Int)=cap:=BU _ ⟨by omega,by omega⟩;have a4:¬ ((by':Int)*(cap:Int)>2^48):=by have:((by'*cap:Nat):Int)=(by':Int)*(cap:Int):=(by simp);rw [← this];have a7:(2:Int)^48=281474976710656:=rfl;rw [a7];omega
   simp only [execOp,A,Instr.makeSlice,M0,run_underlying hu,su,e1,e2,Q,N,o8,asInt,asIntOf,adg,a9,aa,w1,w2];rw [if_neg (by simp only [asg,decide_eq_true_eq,not_or];exact⟨⟨⟨by omega,a4⟩,by omega⟩,by omega⟩)];simp only [M0,run_askRoom,su,run_sizeOf hes,aA1];by_cases L:cap*z.length=0;have a5:P7 z cap=[]:=azX (by rw [K];exact L);have ae:∀f:Nat->Value,(Array.range 0).map f=#[]:=by intro f;simp
   simp only [M0,adg,su,L,a5,if_true,ae];simp [jl,A8];have hk:=Ia (ι:=ι) z cap;simp only [if_neg L,M0,adg,su,a2,a3,hk];simp [jl]
  refine .made ⟨w.heap.size,0,(P7 z cap).length,none⟩ (.cells (A8 ι (P7 z cap)).toArray e) {w with heap:=w.heap.push (.cells (A8 ι (P7 z cap)).toArray e)} ⟨rfl,rfl,λo A=>?_,⟨rfl,rfl,rfl,rfl⟩,rfl,λc e' fz h k hk=>?_,λn' hm C _=>⟨?_,C⟩⟩;rw [B o A];simp [o8,K7.at];cases h;simp;refine⟨_,_,_,jA,by simp,⟨by simp [K],cap,aA _,by simpa using T.RA z cap .e 0 .e⟩,λi hi=>⟨z,?_,rfl,U _,λj hj=>?_⟩⟩;rw [T.Mw _ _ _ _ T.Ok.e];simp [hi];have hb:i*z.length+j<cap*z.length:=by
   calc i*z.length+j<i*z.length+z.length:=by omega
    _=(i+1)*z.length:=by rw [adF]
    _<=cap*z.length:=adb _ hi
  rw [S9,aht,dB,wX _ _ _ hb];rw [show (i*z.length+j)%z.length=j from by rw [adS,aCI,al0 hj]];rw [aP hj];simp [Pm (l:=⟨w.heap.size,0,(P7 z cap).length,none⟩) hn (U5 (U n) (M7 hj))]
 | @strBytes t u e x x' Q N h3 hx=>
  obtain⟨str,h4,y⟩:=qQ y;obtain⟨rl,h5,y⟩:=D7 y;cases y;have h4:H9 x' ls env=.str str:=h4;obtain⟨e1,_⟩:=D9 s hx;have R:∀l:List UInt8,bytesOf l=l.map λb=>d9.int .u8 b.toNat:=by
   intro l;induction l with
   | nil=>rfl
   | cons b l ih=>simp [bytesOf,ih]
  rw [K4] at *;generalize F:str.length+w.tape w.drawn (.appendCap str.length 0 e)%(2^63-str.length)=cap;have a1:str.length<=cap:=by omega
  let cells:Array Value:=(A8 ι (bytesOf str)).toArray++Array.replicate (cap-str.length) (.int .u8 0)
  have S:cells.size=cap:=by simp [cells,R];omega
  have H:dI n (bytesOf str):=by rw [R,eH];intro v y;obtain⟨b,_,rfl⟩:=adM.1 y;simp [d9.lt]
  have B:∀o:Oper,o.op=.convert t u x->(execOp a.eval o).run P w =
    .ok (.value (.slice (some ⟨w.heap.size,0,none⟩) str.length cap)) {w with heap:=w.heap.push (.cells cells e (cap,cap+1)),drawn:=w.drawn+1}:=by
   intro o A;simp only [execOp,A,M0,convert,run_underlying Q,run_underlying N,run_underlying h3,su,e1,h4,o8,Conv.stringToBytes];rw [run_choose];simp only [Question.forced,ady,if_false,su,Question.cut,tu,F];have I:(⟨str.toArray⟩:ByteArray).data.map (λb=>Value.int .u8 b.toNat)++Array.replicate (cap-str.length) (.int .u8 0)=cells:=by simp only [cells,R,dJ,aCq];congr 1;simp [o8,Function.comp_def]
   have I:str.toArray.map (λb=>Value.int .u8 b.toNat)++Array.replicate (cap-str.length) (.int .u8 0)=cells:=I;rw [I,jl];simp only [su];rw [Cm e cells w.heap {w with drawn:=w.drawn+1}];simp [S]
  refine .made ⟨w.heap.size,0,cap,none⟩ (.cells cells e (cap,cap+1)) {w with heap:=w.heap.push (.cells cells e (cap,cap+1)),drawn:=w.drawn+1} ⟨rfl,rfl,λo A=>?_,⟨rfl,rfl,rfl,rfl⟩,rfl,λc e' fz h k hk=>?_,λn' hm C D=>⟨?_,⟨C,aA 1,by rw [D];show 0+str.length*1<=cap;omega⟩⟩⟩;rw [B o A];simp [o8,K7.at];cases h;rw [S] at hk;simp;omega;refine Pk h5 jA rfl S.symm (gK hm _ H) (λj v hj=>?_) (by rw [S,R];simpa using a1);have ab:j<(bytesOf str).length:=(eP.1 hj).1;have y:=U5 H (O0 hj);rw [Pm (l:=⟨w.heap.size,0,cap,none⟩) hn y];simp only [cells];rw [aAk (by simpa using ab)];simp [dB,hj]
 | @sl t x lo hi e es x' lo' hi' hu hes hx hlo hhi=>
  obtain⟨e1,e2⟩:=D9 s hx;have y:iA (mq lo') 0 ls env (λl=>Option.rec (J5 nid es (H9 x' ls env) l none) (λh=>iR (h ls env) λh=>J5 nid es (H9 x' ls env) l (some h)) (mq hi'))=some r:=y;generalize hX:H9 x' ls env=X at *;have hb:∀d,(∀l,J5 nid es X l none=J5 nid es X l (some d))->
    ∃l h,J5 nid es X l (some h)=some r∧∀cap w,l<=h->h<=cap->(Instr.sliceBounds true d cap (lo.map a.eval) (hi.map a.eval) none).run P w=.ok (l,h,cap) w:=by
   intro d hd;have h':iA (mq lo') 0 ls env (λl=>iA (mq hi') d ls env λh=>J5 nid es X l (some h))=some r:=by
    rw [← y];congr 1;funext l;cases hhi':mq hi' with
    | none=>simp only [iA];exact (hd l).symm
    | some f=>rfl
   obtain⟨l,h,g,_,_,M⟩:=uI s hlo hhi h';exact⟨l,h,g,λcap w p q=>M true d cap w rfl p q⟩
  have E:∀(ad:Option Addr) (len cap l h:Nat) (w:World),o8 ι X=.slice ad len cap->(Instr.sliceBounds true len cap (lo.map a.eval) (hi.map a.eval) none).run P w=.ok (l,h,cap) w->
    ∀o:Oper,o.op=.slice t x lo hi none->(execOp a.eval o).run P w=.ok (.value (.slice (if cap=l then ad else ad.map (·.add (l*es))) (h-l) (cap-l))) w:=by
   intro ad len cap l h w I a8 o A;simp [execOp,A,Instr.sliceAt,run_underlying hu,Instr.slice,e1,I,a8,run_sizeOf hes]
  cases X with
  | nilSlice=>obtain⟨l,h,g,M⟩:=hb 0 (λl=>by simp [J5,ze,adH]);have g:bi (Nat.beq l 0) (bi (Nat.beq h 0) (some (d9.nilSlice,none)) none) none=some r:=g;obtain⟨W,g⟩:=I8 g;obtain⟨O,g⟩:=I8 g;obtain rfl:=rW W;obtain rfl:=rW O;cases g;refine .none (by simp [d9.lt]) λo A w=>?_;rw [E none 0 0 0 0 w rfl (M 0 w (aA _) (aA _)) o A];rfl
  | slice id off len cap=>obtain⟨l,h,g,M⟩:=hb len (λl=>rfl);have g:J5.known es l id off cap h=some r:=g;simp only [J5.known] at g;obtain⟨W,g⟩:=I8 g;obtain⟨O,g⟩:=I8 g;have W:=M8 W;have O:=M8 O;cases g;refine .none e2 λo A w=>?_;rw [E _ len cap l h w rfl (M cap w W O) o A];simp only [o8,wU,adG,K7.qd];by_cases I:cap=l;rw [if_pos I,if_pos I.symm];rfl;rw [if_neg I,if_neg (λe=>I e.symm)];rfl
  | sliceU id off len es'=>
   obtain⟨l,h,g,M⟩:=hb len (λl=>rfl);have g:J5.unk nid es l id off len es' h=some r:=g;simp only [J5.unk] at g;obtain⟨W,p1⟩:=I8 g;obtain⟨O,p2⟩:=I8 p1;obtain⟨q3,p3⟩:=I8 p2;clear g p1 p2;have W:=M8 W;have O:=M8 O;obtain rfl:=rW q3;obtain⟨J,G,F⟩:=e2;have F:off+len*es<=(n.cap id):=F;rw [D id J] at F;have K:len<=((ι id).cap-off) / es:=(ako G).2 (by omega);have hX:o8 ι (.sliceU id off len es)=.slice (some (ι.at id off)) len (((ι id).cap-off) / es):=by simp [o8]
   have B:=λw=>E _ _ _ l h w hX (M _ w W (zu O K));have a0:∀k,k*es<=(ι id).cap-off->((ι id).cap-(off+k*es)) / es=((ι id).cap-off) / es-k:=by intro k hk;rw [← Nat.sub_sub,adS k es,Nat.sub_mul_div]
   cases H:Nat.blt l len with
   | true=>
    have g:some (d9.sliceU id (off+l*es) (h-l) es,none)=some r:=(by rw [H] at p3;exact p3);have ak:l<len:=Eq.mp O6 H;cases g;have a1:h*es<=len*es:=adb _ O;have ah:l*es+(h-l)*es=h*es:=(by rw [← adX];congr 1;omega);refine .none ⟨J,G,by rw [D id J];omega⟩ λo A w=>?_;rw [B w o A,if_neg (by omega)];simp only [o8,adG,K7.qd]
    rw [a0 l (by have:l*es<=len*es:=adb _ (by omega)
                 omega)]
   | false=>
    have aj:len<=l:=by rcases ajt l len with hh | hh;rw [(Eq.mpr O6 hh:Nat.blt l len=true)] at H;cases H;exact hh
    have g:bi (Nat.beq l 0) (some (d9.sliceU id off (h-l) es,none)) (some (.sliceU nid 0 0 es,some (.tail id)))=some r:=(by rw [H] at p3;exact p3);rw [wU] at g;split at g;rename_i L;subst L;cases g;obtain rfl:len=0:=(by omega);obtain rfl:h=0:=(by omega);refine .none ⟨J,G,by rw [D id J];omega⟩ λo A w=>?_;rw [B w o A];simp only [o8,adG,K7.qd,adD,adw,Nat.sub_zero,ite_self];cases g;obtain rfl:l=len:=(by omega);obtain rfl:h=l:=(by omega);by_cases I:((ι id).cap-off) / es=h;refine .tail ⟨(ι id).b,(ι id).base+off,0,if off=0 then (ι id).spot else none⟩ J (.inl rfl) (λo A w=>?_) λn' hm C D=>⟨C,G,by rw [D];simp⟩;rw [B w o A,if_pos I,I];simp [o8,K7.at];refine .tail ⟨(ι id).b,(ι id).base+(off+h*es),(ι id).cap-(off+h*es),if off+h*es=0 then (ι id).spot else none⟩ J (.inr ⟨rfl,by show (ι id).base+(off+h*es)+((ι id).cap-(off+h*es))<=(ι id).base+(ι id).cap;omega,λhh=>by show (if off+h*es=0 then (ι id).spot else none)=none;rw [hh];simp⟩) (λo A w=>?_) λn' hm C D=>⟨C,G,by rw [D];simp⟩;rw [B w o A,if_neg I,← a0 h (by omega)];have V:=K7.qd ι id off (h*es);simp only [o8,adG,V];simp [K7.at]
  | _=>obtain⟨l,h,g,_⟩:=hb 0 (λl=>rfl);cases g
end
theorem Mem.qX {m:Mem}(h:T.Ok m.t m.nx){id:Nat}{b b':U7}(c:m.get id=some b)(a:jd b'=false)(i:Nat)(hi:m.has i):(m.set id b').has i:=by obtain⟨x,d,e⟩:=hi;by_cases he:i=id;subst he;exact⟨b',by rw [Mem.U6 h (Mem.N9 h c),if_pos rfl],a⟩;exact⟨x,by rw [Mem.U6 h (Mem.N9 h c),if_neg he];exact d,e⟩
theorem getElem?_set_ne (a:Array Obj)(i j:Nat)(o:Obj)(h:i≠j):(a.setIfInBounds i o)[j]?=a[j]?:=O7 h
structure Put (w w':World)(b:Nat)(o:Obj):Prop where
 heap:w'.heap=w.heap.setIfInBounds b o
 os:w'.os=w.os
 out:w'.output=w.output
 tape:w'.tape=w.tape
theorem Step.set {P:Program}{G:Mem}{ι:K7}{m:Mem}{w w':World}(h:RM P G ι m w.heap){id:Nat}{b b':U7}(r:m.lim<=id)(q:m.get id=some b)(u:aC b=true)
  (L:jd b'=false) {o:Obj} (s:Put w w' (ι id).b o)
  (D:fG P ι ((m.set id b').nm ι) (w.heap.setIfInBounds (ι id).b o) (ι id) b')
  (S:∀c e fz,o=.cells c e fz->∀k,k<c.size->¬ (fz.1<=k∧k<fz.2)):
  Step P G ι m w ι (m.set id b') w':=by
 have F:=Mem.N9 h.ok q;have a:=Mem.U6 h.ok F b';have l:=λi p=>Mem.qX h.ok q L i p;have v:=h.own id b r q u;have E:(ι id).b<w.heap.size:=fH (h.blk id b q) u;refine⟨⟨h.ok.put id b' F,?_,?_,h.glim,h.limn,h.gle,λi p=>by rw [a,if_neg (by have:=h.glim;omega)];exact h.base i p,λi p=>l i (h.ghas i p),h.glob,λi x d f=>by
   rw [a] at d;split at d;rename_i e;subst e;exact h.spot i b q u;exact h.spot i x d f,h.OV λt A O=>by
   rw [s.heap,getElem?_set_ne];intro e;exact O ⟨id,b,r,q,u,e⟩⟩,λ_ _=>rfl,l,aA _,rfl,?_,by rw [s.heap];simp,?_,?_,s.os,s.out,s.tape⟩
 intro i x d;rw [a] at d;rw [s.heap];split at d;rename_i e;subst e;cases d;exact D;rename_i e;exact (h.blk i x d).mono (n:=m.nm ι) (λ_ _=>rfl) (Mem.bA l λ_ _=>rfl) (λf=>getElem?_set_ne _ _ _ _ (λK=>v.alone i x e d f K.symm));intro i x p d f;rw [a] at d;have I:∀j y,m.get j=some y->aC y=true->j≠i->∀(z:U7),m.get i=some z->aC z=true->(ι j).b≠(ι i).b:=λj y H B N z C g=>(h.own i z p C g).alone j y N H B;have M:∃z,m.get i=some z∧aC z=true:=by split at d;rename_i e;subst e;exact⟨b,q,u⟩;exact⟨x,d,f⟩
 obtain⟨z,C,g⟩:=M;refine⟨λj y Q H B=>?_,λc e fz J=>?_⟩;rw [a] at H;split at H;rename_i R;subst R;exact I j b q u Q z C g;exact I j y H B Q z C g;by_cases he:i=id;subst he;rw [s.heap,O8 E] at J;exact S c e fz (LA J);rw [s.heap,getElem?_set_ne _ _ _ _ (λK=>v.alone i z he C g K.symm)] at J;exact (h.own i z p C g).free c e fz J;intro i p;rw [a,if_neg (by omega)];intro t A O;rw [s.heap,getElem?_set_ne];intro e;exact O ⟨id,b,r,q,u,e⟩;rintro t ⟨i,x,p,d,f,rfl⟩;rw [a] at d;split at d;rename_i e;subst e;exact .inl ⟨i,b,r,q,u,rfl⟩;exact .inl ⟨i,x,p,d,f,rfl⟩
theorem Step.kill {P:Program}{G:Mem}{ι:K7}{m:Mem}{w:World}(h:RM P G ι m w.heap){id:Nat}{b:U7}(q:m.lim<=id)(o:m.get id=some b):
  Step P G ι m w ι (m.set id .dead) w:=by
 have k:=Mem.N9 h.ok o;have d:=Mem.U6 h.ok k .dead;have e:=λi f=>Mem.qX (b':=.dead) h.ok o rfl i f;have g:∀i x,(m.set id .dead).get i=some x->aC x=true->m.get i=some x:=λi x c a=>by rw [d] at c;split at c;cases c;cases a;exact c
 refine⟨⟨h.ok.put id .dead k,?_,?_,h.glim,h.limn,h.gle,λi f=>by rw [d,if_neg (by have:=h.glim;omega)];exact h.base i f,λi f=>e i (h.ghas i f),h.glob,λi x c a=>h.spot i x (g i x c a) a,h.gsz⟩,λ_ _=>rfl,e,aA _,rfl,?_,aA _,λ_ _ _=>rfl,?_,rfl,rfl,rfl⟩;intro i x c;rw [d] at c;split at c;cases c;trivial;exact (h.blk i x c).mono (n:=m.nm ι) (λ_ _=>rfl) (Mem.bA e λ_ _=>rfl) (λ_=>rfl);intro i x f c a;have p:=h.own i x f (g i x c a) a;exact⟨λj y r s l=>p.alone j y r (g j y s l) l,p.free⟩;intro i f;rw [d,if_neg (by omega)];rintro b₁ ⟨i,x,f,c,a,rfl⟩;exact .inl ⟨i,x,f,g i x c a,a,rfl⟩
section
variable {P:Program}{G:Mem}{ι:K7}{m:Mem}{w:World}{slots:List Nat}{done:List (Option Nat)}{ls:List d9}{env:T d9}{a:Act}
def iD (P:Program)(G:Mem)(ι:K7)(m:Mem)(w:World)(outs:List VM)(v:Value)(w':World):Prop:=
 ∃r∈outs,∃ι',Step P G ι m w ι' r.m w'∧r.v.lt (r.m.nm ι')∧v=o8 ι' r.v
def Does (P:Program)(ρ:Operand->Value)(o:Oper)(w:World)(R:Value->World->Prop):Prop:=
 match (execOp ρ o).run P w with
 | .ok (.value v) w'=>R v w'
 | .ok .skip w'=>R undef w'
 | .ok (.enter f args) w'=>CallsIn Fence.wide 0 P f args w' λe w''=>∃v,e=.returned v∧R v w''
 | .ok (.round l f tmps assign body) w'=>RoundIn Fence.wide 0 P l f tmps assign body w' λe w''=>∃v,e=.returned v∧R v w''
 | _=>False
theorem ak {a:Operand->Value}{o:Oper}{R:Value->World->Prop}{v:Value}{w':World}(h:(execOp a o).run P w=.ok (.value v) w')(b:R v w'):Does P a o w R:=by unfold Does;rw [h];exact b
theorem KG {a:Operand->Value}{o:Oper}{R:Value->World->Prop}{w':World}(h:(execOp a o).run P w=.ok .skip w')(b:R undef w'):Does P a o w R:=by unfold Does;rw [h];exact b
theorem wY:∀{l:List d9},I6 l=true->∀v∈l,D6 v=true
 | [],_,v,hv=>by cases hv
 | x::l,h,v,hv=>by
  have h:bi (D6 x) (I6 l) false=true:=h;cases hx:D6 x with
  | false=>rw [hx] at h;cases h
  | true=>rw [hx] at h;rcases O9.1 hv with rfl | hv;exact hx;exact wY h v hv
theorem KH {v:d9}(h:D6 v=true):(∀l,o8 ι v≠.agg l)∧∀l,o8 ι v≠.tuple l:=by cases v<;>simp_all [D6,o8]
theorem run_store {a:Addr}{v x:Value}{w:World}(d:w.cell? a=some x)(e:w.frozen? a=false)(b:∀l,v≠.agg l)(c:∀l,v≠.tuple l):
  (store a v).run P w=.ok () (w.setCell a v):=by
 cases v<;>first | exact absurd rfl (b _) | exact absurd rfl (c _) | simp [store,Sem.run,d,e]
def over (c:Array Value)(o:Nat):List Value->Array Value
 | []=>c
 | v::l=>over (c.setIfInBounds o v) (o+1) l
@[simp] theorem am0 (l:List Value):∀(c:Array Value) (o:Nat),(over c o l).size=c.size:=by
 induction l with
 | nil=>intro c o;rfl
 | cons v l ih=>intro c o;rw [over,ih];simp
theorem Ib (l:List Value):∀(c:Array Value) (o:Nat),o+l.length<=c.size->∀i,(over c o l)[i]?=if i<o then c[i]? else if i<o+l.length then l[i-o]? else c[i]?:=by
 induction l with
 | nil=>intro c o h i;simp [over];omega
 | cons v l ih=>intro c o h i;simp only [adk] at h ⊢;rw [over,ih _ _ (by simp;omega)];by_cases h1:i<o;rw [if_pos h1,if_pos (by omega),O7 (by omega)];by_cases h2:i=o;subst h2;rw [if_pos (by omega),if_neg h1,if_pos (by omega),O8 (by omega)];simp;rw [if_neg (by omega),if_neg h1];by_cases h3:i<o+1+l.length;rw [if_pos h3,if_pos (by omega),show i-o=(i-(o+1))+1 from by omega];simp;rw [if_neg h3,if_neg (by omega),O7 (by omega)]
theorem wZ {b:Nat}{e:TypeId}{d:Nat×Nat}:∀(vs:List Value) (c:Array Value) (base i:Nat) (w:World),w.heap[b]?=some (.cells c e d)->
  base+i+vs.length<=c.size->(∀k,k<c.size->¬ (d.1<=k∧k<d.2))->(∀v∈vs,(∀l,v≠.agg l)∧∀l,v≠.tuple l)->
  (storeCells ⟨b,base,none⟩ vs i).run P w=.ok () {w with heap:=w.heap.setIfInBounds b (.cells (over c (base+i) vs) e d)}:=by
 intro vs;induction vs with
 | nil=>
  intro c base i w a p h n;have:w.heap.setIfInBounds b (.cells c e d)=w.heap:=by apply akc;intro j;by_cases hj:b=j;subst hj;rw [O8 (L6.1 a).1,a];rw [O7 hj]
  simp [storeCells,over,this]
 | cons v vs ih=>
  intro c base i w a p h n;simp only [adk] at p;have f:base+i<c.size:=by omega
  have o:=n v (by simp);have q:w.cell? ⟨b,base+i,none⟩=some c[base+i]:=by simp [World.cell?,a,f]
  have m:w.frozen? ⟨b,base+i,none⟩=false:=by have:=h (base+i) f;simp only [World.frozen?,a,Bool.and_eq_false_iff,decide_eq_false_iff_not];omega
  simp only [storeCells,M0];rw [show (⟨b,base,none⟩:Addr).add i=⟨b,base+i,none⟩ from by simp [Addr.add],run_store q m o.1 o.2,su];have g:w.setCell ⟨b,base+i,none⟩ v={w with heap:=w.heap.setIfInBounds b (.cells (c.setIfInBounds (base+i) v) e d)}:=by simp only [World.setCell];congr 1;apply akc;intro j;rw [Array.getElem?_modify];by_cases hj:b=j;subst hj;rw [if_pos rfl,a,O8 (L6.1 a).1];simp;rw [if_neg hj,O7 hj]
  rw [g,ih (c.setIfInBounds (base+i) v) base (i+1) _ (by simp [O8 (L6.1 a).1]) (by simp;omega) (by simpa using h) (λx r=>n x (by simp [r]))];congr 2;simp [over,ada]
theorem Ki {rs n off:Nat}{rows rows':T (List d9)}{vs:List d9}(h:aj rs n rows off vs=some rows'):
  off / rs<n∧∃row,rows.get (off / rs)=some row∧off%rs+vs.length<=rs∧rows'=rows.put (off / rs) (nI (off%rs) vs row):=by
 obtain⟨b,h⟩:=I8 h;obtain⟨row,c,h⟩:=D7 h;obtain⟨a,h⟩:=I8 h;have a:=M8 a;rw [K4] at a;cases h;exact⟨Eq.mp O6 b,row,c,a,rfl⟩
theorem Cn {n:Nm}{h h':Array Obj}{l:Loc}{rs k off:Nat}{rows rows':T (List d9)}{vs:List d9}(hb:fG P ι n h l (.cells rs k rows))(K:aj rs k rows off vs=some rows')
  (s:dI n vs) {c:Array Value} {e:TypeId} {o:Nat×Nat} (H:h[l.b]?=some (.cells c e o)) (q:h'[l.b]?=some (.cells (over c (l.base+off) (A8 ι vs)) e o)):
  fG P ι n h' l (.cells rs k rows')∧l.base+off+vs.length<=c.size:=by
 obtain⟨t,u,p,y,E,⟨F,N,G,f⟩,z⟩:=hb;rw [H] at y;cases y;obtain⟨B,R,S,U,rfl⟩:=Ki K;obtain⟨d,w,C,x,D⟩:=z _ B;rw [S] at w;cases w;have I:off / rs*rs+off%rs=off:=by rw [adS];exact azS off rs
 have A:off / rs*rs+rs<=k*rs:=by
  calc off / rs*rs+rs=(off / rs+1)*rs:=by rw [adF]
   _<=k*rs:=adb _ B
 have g:l.base+off+vs.length<=c.size:=by omega
 refine⟨⟨_,e,o,q,by simpa using E,⟨F,N,G,f.put _ _ (by omega)⟩,λi J=>?_⟩,g⟩;by_cases hi0:i=off / rs;subst hi0;refine⟨_,T.Z7 f _ _ (by omega),by rw [BQ _ _ _ (by omega)];exact C,?_,λj r=>?_⟩;rw [nL _ _ _ (by omega),eH];intro v a;rcases O4.1 a with a | a;exact U5 x (adv a);rcases O4.1 a with a | a;exact U5 s a;exact U5 x (afP a);have m:=D j r;rw [Ib _ _ _ (by simp;omega),VR _ _ _ (by omega)];simp only [bF];by_cases c1:j<off%rs;rw [if_pos (by omega),if_neg (by omega)];exact m;by_cases c2:j<off%rs+vs.length;rw [if_neg (by omega),if_pos (by omega),if_pos (by omega),dB];congr 2;omega;rw [if_neg (by omega),if_neg (by omega),if_neg (by omega)];exact m;obtain⟨d,L,M,O,Q⟩:=z i J;refine⟨d,by rw [T.aU f _ _ _ (by omega) (λe=>hi0 e.symm)];exact L,M,O,λj r=>?_⟩;rw [Ib _ _ _ (by simp;omega),← Q j r];simp only [bF];rcases ajt i (off / rs) with hlt | hge;have:i*rs+rs<=off / rs*rs:=by
  calc i*rs+rs=(i+1)*rs:=by rw [adF]
   _<=off / rs*rs:=adb _ hlt
 rw [if_pos (by omega)];have:off / rs*rs+rs<=i*rs:=by
  calc off / rs*rs+rs=(off / rs+1)*rs:=by rw [adF]
   _<=i*rs:=adb _ (by omega)
 rw [if_neg (by omega),if_neg (by omega)]
theorem Kj (rs n:Nat)(rows:T (List d9))(off:Nat):jr rs n [] rows off=some rows:=rfl
theorem Ic (rs n:Nat)(v:d9)(vs:List d9)(rows:T (List d9))(off:Nat):
  jr rs n (v::vs) rows off=ob (aj rs n rows off [v]) λrows'=>jr rs n vs rows' (off+1):=rfl
theorem mZ {h:Array Obj}{b:Nat}{x o:Obj}(hb:h[b]?=some x):(h.setIfInBounds b o)[b]?=some o:=
 O8 (L6.1 hb).1
theorem set_set (h:Array Obj)(b:Nat)(x y:Obj):(h.setIfInBounds b x).setIfInBounds b y=h.setIfInBounds b y:=by apply akc;intro j;by_cases hj:b=j;subst hj;by_cases hb:b<h.size;rw [O8 (by simpa using hb),O8 hb];simp [aq8 hb];rw [O7 hj,O7 hj,O7 hj]
theorem Kk {n:Nm}{l:Loc}{rs k:Nat}{e:TypeId}{g:Nat×Nat}:∀(vs:List d9) (off:Nat) (rows rows':T (List d9)) (h:Array Obj) (c:Array Value),
  fG P ι n h l (.cells rs k rows)->jr rs k vs rows off=some rows'->dI n vs->h[l.b]?=some (.cells c e g)->
  fG P ι n (h.setIfInBounds l.b (.cells (over c (l.base+off) (A8 ι vs)) e g)) l (.cells rs k rows')∧(vs≠[]->l.base+off+vs.length<=c.size):=by
 intro vs;induction vs with
 | nil=>intro off rows rows' h c i f _ a;rw [Kj] at f;cases f;refine⟨i.mono (n:=n) (λ_ _=>rfl) (Nm.le_refl n) λ_=>?_,λh=>absurd rfl h⟩;rw [mZ a,a];rfl
 | cons v vs ih=>
  intro off rows rows' h c i f d a;rw [Ic] at f;obtain⟨m,r,s⟩:=D7 f;obtain⟨o,p⟩:=Cn (h':=h.setIfInBounds l.b (.cells (over c (l.base+off) (A8 ι [v])) e g)) i r ⟨d.1,trivial⟩ a (mZ a);obtain⟨j,q⟩:=ih (off+1) _ _ _ _ o s d.2 (mZ a);rw [set_set] at j;refine⟨?_,λ_=>?_⟩;simpa [A8,over,ada] using j;cases vs with
  | nil=>simpa using p
  | cons u vs=>have:=q (by simp);simp at this ⊢;omega
theorem KI (q:RM P G ι m w.heap){id rs k off:Nat}{rows rows':T (List d9)}(p:m.lim<=id)(o:m.get id=some (.cells rs k rows)){vs:List d9}
  (x:I6 vs=true) (z:dI (m.nm ι) vs)
  (hb:∀c e fz,w.heap[(ι id).b]?=some (.cells c e fz)->fG P ι (m.nm ι) (w.heap.setIfInBounds (ι id).b (.cells (over c ((ι id).base+off) (A8 ι vs)) e fz)) (ι id) (.cells rs k rows')∧
   (vs≠[]->(ι id).base+off+vs.length<=c.size)):
  ∃w',(storeCells (ι.at id off) (A8 ι vs) 0).run P w=.ok () w'∧Step P G ι m w ι (m.set id (.cells rs k rows')) w':=by
 obtain⟨c,e,fz,f,_⟩:=q.blk id _ o;obtain⟨d,g⟩:=hb c e fz f;have a:=(q.own id _ p o rfl).free c e fz f;have r:∀v∈A8 ι vs,(∀l,v≠.agg l)∧∀l,v≠.tuple l:=by intro v s;rw [dJ] at s;obtain⟨u,A,rfl⟩:=adM.1 s;exact KH (wY x u A)
 refine⟨{w with heap:=w.heap.setIfInBounds (ι id).b (.cells (over c ((ι id).base+off) (A8 ι vs)) e fz)},?_,?_⟩;cases vs with
 | nil=>
  have:w.heap.setIfInBounds (ι id).b (.cells c e fz)=w.heap:=by apply akc;intro j;by_cases hj:(ι id).b=j;subst hj;rw [mZ f,f];rw [O7 hj]
  simp [A8,storeCells,over,this]
 | cons v vs=>have:=g (by simp);rw [K7.BR (q.spot id _ o rfl)];exact wZ (A8 ι (v::vs)) c ((ι id).base+off) 0 w f (by simpa using this) a r
 refine Step.set q p o rfl rfl ⟨rfl,rfl,rfl,rfl⟩ ?_ (λB C t h=>by cases h;simpa using a);exact d.mono (n:=m.nm ι) (λ_ _=>rfl) (Mem.bA (λi y=>Mem.qX q.ok o rfl i y) λ_ _=>rfl) λ_=>rfl
theorem Kl (j:RM P G ι m w.heap){id off:Nat}{vs:List d9}{o:Type}{k:Mem->Option o}{r:o}(hs:storeAt m id off vs k=some r)(a:dI (m.nm ι) vs):
  ∃m' w',k m'=some r∧(storeCells (ι.at id off) (A8 ι vs) 0).run P w=.ok () w'∧Step P G ι m w ι m' w':=by
 obtain⟨f,hs⟩:=BP hs;obtain⟨v,hs⟩:=I8 hs;obtain⟨z,n,l,i,hs⟩:=oU hs;obtain⟨rows',y,x⟩:=D7 hs;have d:m.lim<=id:=by rcases ajt id m.lim with h | h;rw [(Eq.mpr O6 h:Nat.blt id m.lim=true)] at f;cases f;exact h
 obtain⟨w',t,u⟩:=KI (off:=off) (rows':=rows') j d i v a (λc e s g=>by
  obtain⟨p,q⟩:=Cn (h':=w.heap.setIfInBounds (ι id).b (.cells (over c ((ι id).base+off) (A8 ι vs)) e s)) (j.blk id _ i) y a g (mZ g);exact⟨p,λ_=>q⟩)
 exact⟨_,w',x,t,u⟩
theorem oh (f:RM P G ι m w.heap){id off:Nat}{vs:List d9}{l:Type}{k:Mem->Option l}{r:l}(hs:eY m id off vs k=some r)(b:dI (m.nm ι) vs):
  ∃m' w',k m'=some r∧(storeCells (ι.at id off) (A8 ι vs) 0).run P w=.ok () w'∧Step P G ι m w ι m' w':=by
 cases vs with
 | nil=>exact⟨m,w,hs,by simp [A8,storeCells],Step.refl f⟩
 | cons v vs=>
  have hs:bi (Nat.blt id m.lim) none (bi (I6 (v::vs)) (aO (m.get id) λg n a=>ob (jr g n (v::vs) a off) λrows'=>k (m.set id (.cells g n rows'))) none)=some r:=hs;obtain⟨i,hs⟩:=BP hs;obtain⟨q,hs⟩:=I8 hs;obtain⟨g,n,a,j,hs⟩:=oU hs;obtain⟨rows',u,t⟩:=D7 hs;have d:m.lim<=id:=by rcases ajt id m.lim with h | h;rw [(Eq.mpr O6 h:Nat.blt id m.lim=true)] at i;cases i;exact h
  obtain⟨w',o,p⟩:=KI (off:=off) (rows':=rows') f d j q b (λc e x s=>Kk (v::vs) off a rows' _ c (f.blk id _ j) u b s);exact⟨_,w',t,o,p⟩
theorem tJ {a b:Nat}(h:Nat.blt a b=false):b<=a:=by rcases ajt a b with g | g;rw [(Eq.mpr O6 g:Nat.blt a b=true)] at h;cases h;exact g
theorem Pn (s:St P ι (m.nm ι) slots done ls env a.tmps)(v:RM P G ι m w.heap){t:TypeId}{x y:Operand}{k:Nat}{n d:V9}(u:eX P t=some k)
  (B:V5 P slots done x=some n) (C:V5 P slots done y=some d) {cf:H8} {b:List VM} (A:vJ (.store k n d) cf ls env m=some b):
  ∀o:Oper,o.op=.store t x y->Does P a.eval o w (iD P G ι m w b):=by
 intro o z;obtain⟨id,off,g,h⟩:=jV A;have g:H9 n ls env=.ptr id off:=g;obtain⟨i,h⟩:=I8 h;have i:(H9 d ls env).cells.length=k:=by rw [← K4];exact rW i
 obtain⟨p,_⟩:=D9 s B;obtain⟨q,f⟩:=D9 s C;obtain⟨D,w',j,e,c⟩:=Kl v h (BS f);cases j;refine KG (w':=w') ?_ ⟨_,ql.2 rfl,ι,c,trivial,rfl⟩;have l:(o8 ι (H9 d ls env)).cells.size=k:=by rw [qc];simp [i]
 have r:(o8 ι (H9 d ls env)).cells.toList=A8 ι (H9 d ls env).cells:=by rw [qc]
 simp [execOp,z,Instr.storeAt,p,q,g,o8,Instr.sureAddr,storeVar,run_sizeOf u,l,r,e]
end
section
variable {P:Program}{G:Mem}{ι:K7}{m:Mem}{w:World}{slots:List Nat}{done:List (Option Nat)}{ls:List d9}{env:T d9}{a:Act}
theorem Ie {r:Nat}{o x:Obj}(h:w.heap[r]?=some x)(a:∀c e fz,x≠.cells c e fz):(setObj r o).run P w=.ok () {w with heap:=w.heap.setIfInBounds r o}:=by simp only [setObj,Sem.run,h]
theorem ng {kk:PK}{x y:d9}(h:OC kk x y=some true)(n:Nat):Instr.sameBits n (o8 ι x) (o8 ι y)=true:=by
 cases kk with
 | i=>obtain⟨k,p,q,rfl,rfl,a⟩:=uG (show fU x y=some true from h);simp [o8,Instr.sameBits];simpa using a.symm
 | b=>obtain⟨p,q,rfl,rfl,a⟩:=kJ (show kS x y=some true from h);simp [o8,Instr.sameBits];simpa using a.symm
 | s=>obtain⟨p,q,rfl,rfl,a⟩:=uH (show eqStr x y=some true from h);simp [o8,Instr.sameBits,rV];simpa using a.symm
theorem Af:∀(ks:List PK) (x y:List d9),dX ks x y=some true->x.length=ks.length->y.length=ks.length->∀n,
  ((A8 ι x).zip (A8 ι y)).all (λ(p:Value×Value)=>Instr.sameBits n p.1 p.2)=true
 | [],x,y,_,h1,h2,n=>by cases x<;>simp_all [A8]
 | k::ks,x,y,h,h1,h2,n=>by
  cases x with
  | nil=>simp at h1
  | cons a x=>
   cases y with
   | nil=>simp at h2
   | cons b y=>
    rw [kK] at h;obtain⟨r,h3,h4⟩:=D7 h;cases r with
    | false=>cases h4
    | true=>have ih:=Af ks x y h4 (by simpa using h1) (by simpa using h2) n;simp only [A8,List.zip_cons_cons,List.all_cons,ng h3 n,amP];exact ih
theorem ML {kk:Gs}{t:TypeId}(z:BO P t=some kk){x y:d9}(h:vU kk x y=some true)(f:x.cells.length=Mj kk)(g:y.cells.length=Mj kk):
  Instr.sameBits 10000 (o8 ι y) (o8 ι x)=true:=by
 have c:∀kk x y,OC kk x y=some true->OC kk y x=some true:=by
  intro kk x y h;cases kk with
  | i=>obtain⟨k,p,q,rfl,rfl,d⟩:=uG (show fU x y=some true from h)
       have:p=q:=(by simpa using d.symm);subst this;exact h
  | b=>obtain⟨p,q,rfl,rfl,d⟩:=kJ (show kS x y=some true from h)
       have:p=q:=(by simpa using d.symm);subst this;exact h
  | s=>obtain⟨p,q,rfl,rfl,d⟩:=uH (show eqStr x y=some true from h)
       have:p=q:=(by simpa using d.symm);subst this;exact h
 rcases El z with⟨rfl,_⟩ | ⟨_,rfl,_⟩ | ⟨rfl,_⟩ | ⟨fs,a,rfl,_,_⟩;exact ng (kk:=.b) (c .b x y h) _;exact ng (kk:=.i) (c .i x y h) _;exact ng (kk:=.s) (c .s x y h) _;obtain⟨l,rfl,n⟩:=je h;obtain⟨j,rfl,o⟩:=je n;have f:l.length=a.length:=f;have g:j.length=a.length:=g;have e:∀(a:List PK) (x y:List d9),dX a x y=some true->dX a y x=some true:=by
  intro a;induction a with
  | nil=>intro x y h;exact mM y x
  | cons k a ih=>
   intro x y h;cases x with
   | nil=>cases h
   | cons u x=>
    cases y with
    | nil=>cases h
    | cons v y=>
     rw [kK] at h ⊢;obtain⟨r,w,m⟩:=D7 h;cases r with
     | false=>cases m
     | true=>rw [c k u v w];exact ih x y m
 have:=Af (ι:=ι) a j l (e a l j o) g f 9999;simp only [o8,Instr.sameBits,akW,bF,f,g,beq_self_eq_true,amP];exact this
theorem xg (ι:K7)(e:d9×d9):∀(es:List (d9×d9)) (j:Nat),J6 ι (es ++ [e]) j=J6 ι es j ++ [{key:=o8 ι e.1,val:=o8 ι e.2,born:=j+es.length}]
 | [],j=>by simp [J6]
 | x::es,j=>by simp [J6,xg ι e es,ada,an6 1]
theorem RN (k v:d9)(i:Nat):kU [] k v i=[]:=rfl
theorem xk (e:d9×d9)(es:List (d9×d9))(k v:d9):kU (e::es) k v 0=(k,v)::es:=rfl
theorem xq (e:d9×d9)(es:List (d9×d9))(k v:d9)(i:Nat):kU (e::es) k v (i+1)=e::kU es k v i:=rfl
theorem Ag (k v:d9):∀(es:List (d9×d9)) (i:Nat),(kU es k v i).length=es.length
 | [],i=>rfl
 | e::es,0=>by simp [xk]
 | e::es,i+1=>by simp [xq,Ag k v es]
theorem Ig {k v:d9}:∀{es:List (d9×d9)} {i:Nat} {x:d9×d9},x∈kU es k v i->x=(k,v)∨x∈es
 | [],i,x,h=>by cases h
 | e::es,0,x,h=>by rw [xk] at h;rcases O9.1 h with h | h;exact .inl h;exact .inr (adh _ h)
 | e::es,i+1,x,h=>by rw [xq] at h;rcases O9.1 h with h | h;exact .inr (by rw [h];exact adI);rcases Ig h with h | h;exact .inl h;exact .inr (adh _ h)
theorem xu (ι:K7)(k v:d9):∀(es:List (d9×d9)) (i j:Nat),
  (J6 ι es j).modify i (λe=>{e with key:=o8 ι k,val:=o8 ι v})=J6 ι (kU es k v i) j
 | [],i,j=>by simp [J6,RN]
 | e::es,0,j=>by simp [J6,xk]
 | e::es,i+1,j=>by simp [J6,xq,xu ι k v es]
theorem Gm (D:RM P G ι m w.heap){t Q e:TypeId}{kk:Gs}(O:P.underlying t=some (.map Q e))(K:BO P Q=some kk){id:Nat}{k x:d9}{es:List (d9×d9)}
  (A:m.lim<=id) (z:m.get id=some (.map es)) {r:Option (Nat×d9)} (T:dY (vU kk) (Mj kk) k es=some r) (C:k.lt (m.nm ι)) (E:x.lt (m.nm ι)) {n:List VM}
  (s:Option.rec (one .undef (m.set id (.map (bU es [(k,x)])))) (λp=>ob (uw p.1 es) λe=>
   bi (Nat.beq (len' e.1.cells) (Mj kk)) (one .undef (m.set id (.map (kU es k x p.1)))) none) r=some n):
  ∃w',(Instr.mapUpdate t (.map (some (ι id).b)) (o8 ι k) (o8 ι x)).run P w=.ok () w'∧iD P G ι m w n undef w':=by
 obtain⟨M,⟨y,b,S⟩,N⟩:=Cc T;obtain⟨c,f⟩:=D.blk id _ z;have g:=mO (P:=P) c (by intro _ _ _ e;cases e);have l:=λo=>Ie (P:=P) (o:=o) c (by intro _ _ _ e;cases e);have v:=Ae (ι:=ι) K N w;have u:=UE (ι:=ι) K M S false w;cases r with
 | none=>cases s;refine⟨{w with heap:=w.heap.setIfInBounds (ι id).b (.map (J6 ι (es ++ [(k,x)]) 0).toArray (es ++ [(k,x)]).length)},?_,_,ql.2 rfl,ι,Step.set D A z rfl rfl (o:=.map (J6 ι (es ++ [(k,x)]) 0).toArray (es ++ [(k,x)]).length) ⟨rfl,rfl,rfl,rfl⟩ ?_ (by intro _ _ _ h;cases h),trivial,rfl⟩;simp only [Instr.mapUpdate,M0,run_underlying O,g,su,u,v,vM,at1,l];simp [xg];rw [U9];refine⟨mZ c,λe d=>?_⟩;have a:=Mem.bA (ι:=ι) (ι':=ι) (λi J=>Mem.qX (b':=.map (es ++ [(k,x)])) D.ok z rfl i J) λ_ _=>rfl;rcases O4.1 d with d | d;exact⟨d9.Y0 a _ (f e d).1,d9.Y0 a _ (f e d).2⟩;rw [ql.1 d];exact⟨d9.Y0 a _ C,d9.Y0 a _ E⟩
 | some p=>
  obtain⟨e,H,s⟩:=D7 s;obtain⟨I,s⟩:=I8 s;cases s;rw [kZ] at H;have I:e.1.cells.length=Mj kk:=by rw [← K4];exact rW I
  obtain⟨j,U,F,L,_,R⟩:=AJ N;rw [S9] at F;rw [F,L] at H;cases H;have q:=ML (ι:=ι) K R M I;refine⟨{w with heap:=w.heap.setIfInBounds (ι id).b (.map (J6 ι (kU es k x p.1) 0).toArray es.length)},?_,_,ql.2 rfl,ι,Step.set D A z rfl rfl (o:=.map (J6 ι (kU es k x p.1) 0).toArray es.length) ⟨rfl,rfl,rfl,rfl⟩ ?_ (by intro _ _ _ h;cases h),trivial,rfl⟩;have B:(((J6 ι es 0).toArray[p.1]?).map (·.key)).getD (o8 ι k)=o8 ι e.1:=by simp [nM,F,L]
  simp only [Instr.mapUpdate,M0,run_underlying O,g,su,u,v,vM,adG,B,Instr.keyThatStays,q,if_true,adg,l];rw [List.modify_toArray,xu];refine⟨by rw [Ag];exact mZ c,λe d=>?_⟩;have a:=Mem.bA (ι:=ι) (ι':=ι) (λi J=>Mem.qX (b':=.map (kU es k x p.1)) D.ok z rfl i J) λ_ _=>rfl;rcases Ig d with d | d;rw [d];exact⟨d9.Y0 a _ C,d9.Y0 a _ E⟩;exact⟨d9.Y0 a _ (f e d).1,d9.Y0 a _ (f e d).2⟩
theorem Co (s:St P ι (m.nm ι) slots done ls env a.tmps)(F:RM P G ι m w.heap){t n e:TypeId}{kk:Gs}(I:P.underlying t=some (.map n e))(E:BO P n=some kk)
  {x k y:Operand} {j l p:V9} (K:V5 P slots done x=some j) (i:V5 P slots done k=some l) (L:V5 P slots done y=some p)
  {cf:H8} {b:List VM} (J:vJ (.mapSet kk j l p) cf ls env m=some b):
  ∀o:Oper,(o.op=.mapUpdate t x k y∨o.op=.insert t x k y)->Does P a.eval o w (iD P G ι m w b):=by
 intro o c;rcases zk J with⟨_,h⟩ | ⟨id,g,h⟩;cases h;obtain⟨B,h⟩:=BP h;obtain⟨M,D,h⟩:=AB h;obtain⟨r,C,H⟩:=D7 h;have g:H9 j ls env=.map id:=g;obtain⟨q,_⟩:=D9 s K;obtain⟨u,d⟩:=D9 s i;obtain⟨v,f⟩:=D9 s L;obtain⟨w',z,A⟩:=Gm F I E (tJ B) D C d f H;refine KG (w':=w') ?_ A;rcases c with c | c<;>simp [execOp,c,q,u,v,g,o8,z]
theorem Po (d:RM P G ι m w.heap)(mp:Option Nat)(since:Nat)(a:∀x,mp=some x->m.has x):
  iD P G ι m w [⟨.ptr m.nx 0,m.new (.iter mp since [])⟩] (.pointer (some ⟨w.heap.size,0,none⟩)) {w with heap:=w.heap.push (.mapIter (mp.map λx=>(ι x).b) since #[] since)}:=by
 have c:=Laid.new d.ok d.limn (.iter mp since []) rfl;refine⟨_,ql.2 rfl,ι.upd m.nx ⟨w.heap.size,0,0,none⟩,Step.lay (w':={w with heap:=w.heap.push (.mapIter (mp.map λx=>(ι x).b) since #[] since)}) d c (o:=.mapIter (mp.map λx=>(ι x).b) since #[] since) ⟨rfl,rfl,rfl,rfl⟩ rfl rfl ?_ (by intro _ _ _ h;cases h),c.self,by simp [o8,K7.at]⟩;refine⟨rfl,λx f=>c.has x (a x f),#[],since,?_,rfl,λ_=>rfl⟩;show (w.heap.push _)[w.heap.size]?=_;rw [jA];cases mp with
 | none=>rfl
 | some x=>simp [ι.upd_ne ⟨w.heap.size,0,0,none⟩ (λe=>c.free (e▸a x rfl):x≠m.nx)]
theorem Pp (s:St P ι (m.nm ι) slots done ls env a.tmps)(f:RM P G ι m w.heap){t k e:TypeId}(n:P.underlying t=some (.map k e))
  {x:Operand} {d:V9} (g:V5 P slots done x=some d) {cf:H8} {b:List VM} (r:vJ (.range d) cf ls env m=some b):
  ∀o:Oper,o.op=.range t x->Does P a.eval o w (iD P G ι m w b):=by
 intro o l;obtain⟨i,p⟩:=D9 s g;rcases zk r with⟨c,h⟩ | ⟨id,c,h⟩;cases h;have c:H9 d ls env=.nilMap:=c;refine ak (v:=.pointer (some ⟨w.heap.size,0,none⟩)) ?_ (Po f none 0 (by simp));simp [execOp,l,Instr.range,run_underlying n,i,c,o8];obtain⟨q,j,h⟩:=AB h;cases h;have c:H9 d ls env=.map id:=c;obtain⟨u,y⟩:=MK f j;rw [K4];refine ak (v:=.pointer (some ⟨w.heap.size,0,none⟩)) ?_ (Po f (some id) q.length (by intro x g;cases g;exact⟨_,j,rfl⟩));simp [execOp,l,Instr.range,run_underlying n,i,c,o8,u]
theorem MN (n:Nat):∀l:List Nat,XY n l=l.contains n
 | []=>rfl
 | x::l=>by show bi (Nat.beq x n) true (XY n l)=_;rw [MN n l,wU,List.contains_cons];by_cases h:x=n;subst h;simp;rw [if_neg h,beq_eq_false_iff_ne.2 (λe=>h e.symm),aAi]
theorem AO (m:Mem)(id mp since:Nat)(a:List Nat)(e:d9×d9)(es:List (d9×d9))(i:Nat):
  nexts m id mp since a (e::es) i=bi (XY i a) (nexts m id mp since a es (i+1))
   (⟨.tuple [.bool true,e.1,e.2],m.set id (.iter (some mp) since (i::a))⟩::nexts m id mp since a es (i+1)):=rfl
theorem Eo {m:Mem}{id mp since:Nat}{seen:List Nat}:∀{es:List (d9×d9)} {i j:Nat} {e:d9×d9},es[j]?=some e->seen.contains (i+j)=false->
  (⟨.tuple [.bool true,e.1,e.2],m.set id (.iter (some mp) since ((i+j)::seen))⟩:VM)∈nexts m id mp since seen es i
 | [],i,j,e,h,_=>by simp at h
 | x::es,i,0,e,h,hs=>by simp at h;subst h;rw [AO,MN,show seen.contains i=false from hs];exact adI
 | x::es,i,j+1,e,h,hs=>by
  rw [AO];have:=Eo (es:=es) (i:=i+1) (j:=j) (m:=m) (id:=id) (mp:=mp) (since:=since) (by simpa using h) (by rw [show i+1+j=i+(j+1) from by omega];exact hs);rw [show i+1+j=i+(j+1) from by omega] at this;cases XY i seen with
  | true=>exact this
  | false=>exact adh _ this
theorem Ih {m:Mem}{id mp since:Nat}{seen:List Nat}:∀{es:List (d9×d9)} {i:Nat},(∀j,j<es.length->seen.contains (i+j)=true)->nexts m id mp since seen es i=[]
 | [],i,h=>rfl
 | e::es,i,h=>by rw [AO,MN,show seen.contains i=true from h 0 (by simp)];exact Ih λj hj=>by rw [show i+1+j=i+(j+1) from by omega];exact h (j+1) (by simpa using hj)
theorem Ii (n:Nat)(a:0<n)(w:World):∃k w',(choose (.mapNext n)).run P w=.ok k w'∧k<n∧(w'=w∨w'={w with drawn:=w.drawn+1}):=by rw [run_choose];by_cases h:n<=1;exact⟨0,w,by simp [Question.forced,h],a,.inl rfl⟩;exact⟨_,_,by simp only [Question.forced,h,decide_false,ady,if_false];rfl,ah5 _ a,.inr rfl⟩
theorem Yq (u:RM P G ι m w.heap){id mp since:Nat}{seen:List Nat}{es:List (d9×d9)}(V:m.lim<=id)(q:m.get id=some (.iter (some mp) since seen))
  (D:m.get mp=some (.map es)) (J:es.length=since) (t:TypeId):
  ∃v w',(Instr.next (.pointer (some ⟨(ι id).b,0,none⟩)) false t).run P w=.ok v w'∧iD P G ι m w (Ru m (nexts m id mp since seen es 0)) v w':=by
 obtain⟨b1,b2,A,st,S,b4,b5⟩:=u.blk id _ q;obtain⟨c1,c2⟩:=u.blk mp _ D;have a1:st=since:=b5 (by simp);subst a1;subst J;have T:=mO (P:=P) S (by intro _ _ _ e;cases e);have U:=mO (P:=P) c1 (by intro _ _ _ e;cases e);generalize hL:J6 ι es 0=L at *;have a:∀x∈L,x.born<es.length:=by
  intro x p;obtain⟨j,g⟩:=adr p;rw [← hL,nM] at g;cases he:es[j]? with
  | none=>simp [he] at g
  | some e=>simp [he] at g;rw [← g];simpa using (eP.1 he).1
 have B:(!A.isEmpty && !L.toArray.isEmpty&&L.toArray.all (λe=>decide (e.born≥es.length)))=false:=by
  cases L with
  | nil=>simp
  | cons x L=>have:=a x (by simp);simp;intro _ h;omega
 have O:∀l:List MapEntry,(∀x∈l,x∈L)->l.filter (λe=>decide (e.born<es.length))=l:=λl Y=>ase.2 λx p=>by simpa using a x (Y x p)
 have N:∀l:List MapEntry,(∀x∈l,x∈L)->l.filter (λe=>decide (e.born≥es.length))=[]:=λl Y=>azI.2 λx p=>by have:=a x (Y x p);simp;omega
 have n:=λx (p:x∈L.filter (λe=>!A.contains e.born))=>(ah6.1 p).1;simp only [Instr.next,M0,T,su,adG,U];rw [if_neg (by rw [B];simp)];simp only [List.filter_toArray,O _ n,N _ n];generalize hlf:L.filter (λe=>!A.contains e.born)=left at *;generalize hc:((if left.toArray.isEmpty=true then #[none] else #[])++Array.map some (left.toArray ++ [].toArray):Array (Option MapEntry))=cands;have c:cands=(if left=[] then #[none] else (left.map some).toArray):=by rw [← hc];cases left<;>simp
 have Q:0<cands.size:=by rw [c];split<;>simp_all;exact aAg (by simp;assumption)
 obtain⟨k,w1,X,r,s⟩:=Ii (P:=P) cands.size Q w;simp only [M0,X,su];have f:w1.heap=w.heap:=by rcases s with rfl | rfl<;>rfl
 have z:w1.os=w.os∧w1.output=w.output∧w1.tape=w.tape:=by rcases s with rfl | rfl<;>exact⟨rfl,rfl,rfl⟩
 have F:∀x,x∈A.toList↔x∈seen:=λx=>by rw [← b4];simp
 by_cases hl0:left=[];rw [if_pos hl0] at c;have W:k=0:=by rw [c] at r;simpa using r
 rw [c,W];have y:nexts m id mp es.length seen es 0=[]:=Ih λj g=>by
  have p:(J6 ι es 0)[j]?=some {key:=o8 ι es[j].1,val:=o8 ι es[j].2,born:=0+j}:=by rw [nM];simp [g]
  have d:({key:=o8 ι es[j].1,val:=o8 ι es[j].2,born:=0+j}:MapEntry)∈L:=by rw [← hL];exact O0 p
  rw [hl0] at hlf;have:=azI.1 hlf _ d;simp at this ⊢;rw [← F];simpa using this
 refine⟨.tuple #[.bool false],w1,by simp,⟨.tuple [.bool false],m⟩,by rw [y];exact ql.2 rfl,ι,?_,by simp [d9.lt,dI],by simp [o8,A8]⟩;rcases s with rfl | rfl;exact Step.refl u;exact Step.drew u _;rw [if_neg hl0] at c;have H:k<left.length:=by rw [c] at r;simpa using r
 have E:cands[k]?=some (some left[k]):=by rw [c];simp [H]
 have d:left[k]∈L∧A.contains left[k].born=false:=by have:=ah6.1 (show left[k]∈L.filter (λe=>!A.contains e.born) from by rw [hlf];exact M7 H);simpa using this
 generalize left[k]=x at *;obtain⟨j,g⟩:=adr d.1;rw [← hL,nM] at g;cases he:es[j]? with
 | none=>simp [he] at g
 | some e=>
  simp [he] at g;subst g;have M:seen.contains (0+j)=false:=by have h2:=d.2;rw [adj] at h2 ⊢;intro C;apply h2;simp at C ⊢;have:=(F j).2 C;simpa using this
  have Z:(nexts m id mp es.length seen es 0)≠[]:=List.ne_nil_of_mem (Eo he M);have a0:Ru m (nexts m id mp es.length seen es 0)=nexts m id mp es.length seen es 0:=by
   cases h:nexts m id mp es.length seen es 0 with
   | nil=>exact absurd h Z
   | cons=>rfl
  have R:=Ie (P:=P) (w:=w1) (o:=.mapIter (some (ι mp).b) es.length (A.push j) es.length) (by rw [f];exact S) (by intro _ _ _ e;cases e);refine⟨.tuple #[.bool true,o8 ι e.1,o8 ι e.2],{w1 with heap:=w1.heap.setIfInBounds (ι id).b (.mapIter (some (ι mp).b) es.length (A.push j) es.length)},?_,_,by rw [a0];exact Eo he M,ι,Step.set (w':={w1 with heap:=w1.heap.setIfInBounds (ι id).b (.mapIter (some (ι mp).b) es.length (A.push j) es.length)}) u V q rfl rfl (o:=.mapIter (some (ι mp).b) es.length (A.push j) es.length) ⟨by rw [f],z.1,z.2.1,z.2.2⟩ ?_ (by intro _ _ _ h;cases h),?_,?_⟩;rw [E];simp [R];refine⟨b1,λx p=>?_,A.push j,es.length,?_,?_,λ_=>rfl⟩;cases p;exact Mem.qX u.ok q rfl mp ⟨_,D,rfl⟩;simpa using mZ S;simp [b4];have K:=c2 e (O0 he);have I:=Mem.bA (ι:=ι) (ι':=ι) (λi hi=>Mem.qX (b':=.iter (some mp) es.length ((0+j)::seen)) u.ok q rfl i hi) λ_ _=>rfl;exact⟨trivial,d9.Y0 I _ K.1,d9.Y0 I _ K.2,trivial⟩;simp [o8,A8]
theorem RO (s:St P ι (m.nm ι) slots done ls env a.tmps)(f:RM P G ι m w.heap)
  {x:Operand} {p:V9} (D:V5 P slots done x=some p) {cf:H8} {c:List VM} (C:vJ (.next p) cf ls env m=some c):
  ∀o:Oper,o.op=.next x false->Does P a.eval o w (iD P G ι m w c):=by
 intro o r;obtain⟨q,u⟩:=D9 s D;obtain⟨id,off,g,h⟩:=jV C;have g:H9 p ls env=.ptr id off:=g;obtain⟨B,h⟩:=I8 h;obtain rfl:off=0:=rW B;obtain⟨n,h⟩:=BP h;rcases HZ h with⟨sn',l',hit,h⟩ | ⟨mp,since,seen,hit,h⟩;cases h;obtain⟨i,E,I,J,t,F,H⟩:=f.blk id _ hit;have l:=mO (P:=P) t (by intro _ _ _ e;cases e);have d:a.eval x=.pointer (some ⟨(ι id).b,0,none⟩):=by rw [q,g];simp [o8,K7.at,i,f.spot _ _ hit rfl]
 refine ak (v:=.tuple #[.bool false]) (w':=w) ?_ ⟨_,ql.2 rfl,ι,Step.refl f,by simp [d9.lt,dI],by simp [o8,A8]⟩;simp [execOp,r,d,Instr.next,l];obtain⟨y,k,h⟩:=AB h;obtain⟨j,h⟩:=I8 h;have j:y.length=since:=by rw [← K4];exact rW j
 cases h;obtain⟨i,_⟩:=f.blk id _ hit;have d:a.eval x=.pointer (some ⟨(ι id).b,0,none⟩):=by rw [q,g];simp [o8,K7.at,i,f.spot _ _ hit rfl]
 obtain⟨v,w',z,A⟩:=Yq f (tJ n) hit k j o.type;refine ak (v:=v) (w':=w') ?_ A;simp [execOp,r,d,z]
end
section
variable {P:Program}{G:Mem}{ι:K7}{m:Mem}{w:World}{slots:List Nat}{done:List (Option Nat)}{ls:List d9}{env:T d9}{a:Act}
theorem Ij (l:List UInt8):bytesOf l=l.map λb=>d9.int .u8 b.toNat:=by
 induction l with
 | nil=>rfl
 | cons b l ih=>simp [bytesOf,ih]
theorem Fv {v:d9}{n:Nat}(h:lenOf v=some n)(w:World):(Builtin.lenOf (o8 ι v)).run P w=.ok n w:=by cases v<;>simp only [lenOf,l7,reduceCtorEq] at h<;>subst h<;>simp [o8,Builtin.lenOf,tu]
theorem ni (e:RM P G ι m w.heap){es n:Nat}{v:d9}{l:List d9}(h:bS m es n v=some l):
  (Builtin.firstCells es n (o8 ι v)).run P w=.ok (A8 ι l).toArray w∧dI (m.nm ι) l:=by
 cases v<;>simp only [bS,l7,reduceCtorEq] at h
 subst h;refine⟨?_,by rw [Ij,eH];intro v f;obtain⟨b,_,rfl⟩:=adM.1 f;simp [d9.lt]⟩;simp only [o8,Builtin.firstCells,adg];congr 1;simp [Ij,dJ,o8,Function.comp_def,ByteArray.data_extract,as4];subst h;exact⟨by simp [o8,Builtin.firstCells,A8],trivial⟩;obtain⟨a,c,d⟩:=lC e h;exact⟨lD a d,c⟩;obtain⟨a,c,d⟩:=lC e h;exact⟨lD a d,c⟩
theorem RP (s:St P ι (m.nm ι) slots done ls env a.tmps)(A:RM P G ι m w.heap){c:Call}{t u e:TypeId}{x y:Operand}{p q:V9}{es:Nat}(J:c.callee=.builtin .copy)
  (k:c.argTypes.toList=[t,u]) (j:c.args.toList=[x,y]) (M:P.underlying t=some (.slice e)) (r:eX P e=some es)
  (V:V5 P slots done x=some p) (W:V5 P slots done y=some q) {cf:H8} {f:List VM} (E:vJ (.copy es p q) cf ls env m=some f):
  ∀o:Oper,o.op=.call c->Does P a.eval o w (iD P G ι m w f):=by
 intro o L;have k:c.argTypes=#[t,u]:=by rw [← k,adA]
 have j:c.args=#[x,y]:=by rw [← j,adA]
 obtain⟨F,_⟩:=D9 s V;obtain⟨H,_⟩:=D9 s W;obtain⟨n,D,E⟩:=D7 E;have K:=Fv (P:=P) (ι:=ι) D w;have I:∀id b d cap,o8 ι (H9 p ls env)=.slice (some (ι.at id b)) d cap->wH.go es m n id b d (H9 q ls env)=some f->Does P a.eval o w (iD P G ι m w f):=by intro id b d cap g h;obtain⟨B,R,h⟩:=D7 h;obtain⟨N,O⟩:=ni A R;obtain⟨Y,w',U,z,l⟩:=oh A h O;cases U;refine ak (v:=.int .i64 (Nat.min n d)) (w':=w') ?_ ⟨_,ql.2 rfl,ι,l,trivial,rfl⟩;simp [execOp,L,resolve,J,j,k,invoke,builtin,Builtin.copy_,run_underlying M,F,H,g,K,run_sizeOf r,N,z,goInt]
 rcases wR E with⟨g,h⟩ | ⟨id,b,d,cap,g,h⟩ | ⟨id,b,d,cap,g,h⟩;cases h;have g:H9 p ls env=.nilSlice:=g;have T:∃C,(Builtin.firstCells es 0 (o8 ι (H9 q ls env))).run P w=.ok C w:=by
  have X:bS m es 0 (H9 q ls env)=some []:=by generalize H9 q ls env=v at D;have Q:∀i b,V4 m i b 0=some []:=λi b=>rfl;cases v<;>simp only [lenOf,reduceCtorEq] at D<;>simp [bS,bytesOf,Q]
  exact⟨_,(ni A X).1⟩
 obtain⟨C,S⟩:=T;refine ak (v:=.int .i64 0) (w':=w) ?_ ⟨_,ql.2 rfl,ι,Step.refl A,trivial,rfl⟩;simp [execOp,L,resolve,J,j,k,invoke,builtin,Builtin.copy_,run_underlying M,F,H,g,K,run_sizeOf r,o8,goInt,S];have g:H9 p ls env=.slice id b d cap:=g;exact I id b d cap (by rw [g];rfl) h;have g:H9 p ls env=.sliceU id b d cap:=g;exact I id b d (((ι id).cap-b) / cap) (by rw [g];simp only [o8]) h
theorem Cq (z:List d9)(k:Nat):Builtin.zeroCells (A8 ι z).toArray k=(A8 ι (P7 z k)).toArray:=by have:=Ia (ι:=ι) z k;rw [← this];simp [Builtin.zeroCells]
theorem Pq (s:St P ι (m.nm ι) slots done ls env a.tmps)(D:RM P G ι m w.heap){c:Call}{t e:TypeId}{x:Operand}{n:V9}{z:List d9}(q:c.callee=.builtin .clear)
  (k:c.argTypes.toList=[t]) (j:c.args.toList=[x]) (u:P.underlying t=some (.slice e)) (J:sU P e=some z)
  (I:V5 P slots done x=some n) {cf:H8} {i:List VM} (H:vJ (.clear z n) cf ls env m=some i):
  ∀o:Oper,o.op=.call c->Does P a.eval o w (iD P G ι m w i):=by
 intro o r;have k:c.argTypes=#[t]:=by rw [← k,adA]
 have j:c.args=#[x]:=by rw [← j,adA]
 obtain⟨p,_⟩:=D9 s I;obtain⟨K,y,A,B⟩:=gM (P:=P) (w:=w) J ι;have C:∀id d b cap,o8 ι (H9 n ls env)=.slice (some (ι.at id d)) b cap->eY m id d (P7 z b) (λE=>one (.tuple []) E)=some i->Does P a.eval o w (iD P G ι m w i):=by
  intro id d b cap f h;obtain⟨E,w',F,g,l⟩:=oh D h (uM (B _) b);cases F;refine ak (v:=.tuple #[]) (w':=w') ?_ ⟨_,ql.2 rfl,ι,l,by simp [d9.lt,dI],by simp [o8,A8]⟩;cases b with
  | zero=>
   rw [Ck] at g;have:w'=w:=by simp [A8,storeCells] at g;exact g.symm
   subst this;simp [execOp,r,resolve,q,j,k,invoke,builtin,Builtin.clear_,run_underlying u,p,f]
  | succ b=>simp [execOp,r,resolve,q,j,k,invoke,builtin,Builtin.clear_,run_underlying u,p,f,y,A,Cq,g]
 rcases wR H with⟨f,h⟩ | ⟨id,d,b,cap,f,h⟩ | ⟨id,d,b,cap,f,h⟩;cases h;have f:H9 n ls env=.nilSlice:=f;refine ak (v:=.tuple #[]) (w':=w) ?_ ⟨_,ql.2 rfl,ι,Step.refl D,by simp [d9.lt,dI],by simp [o8,A8]⟩;simp [execOp,r,resolve,q,j,k,invoke,builtin,Builtin.clear_,run_underlying u,p,f,o8];have f:H9 n ls env=.slice id d b cap:=f;exact C id d b cap (by rw [f];rfl) h;have f:H9 n ls env=.sliceU id d b cap:=f;exact C id d b (((ι id).cap-d) / cap) (by rw [f];simp only [o8]) h
end
section
variable {P:Program}{G:Mem}{ι:K7}{m:Mem}{w:World}
theorem Step.an1 {G:Mem}(h:RM P G ι m w.heap){id:Nat}{b b':U7}(A:m.lim<=id)(E:m.get id=some b)(H:aC b=true)(V:jd b'=false){o:Obj}{w':World}
  (C:Put w w' (ι id).b o) {l:Loc} (B:l.b=(ι id).b) (Q:l.spot=none)
  (I:fG P (ι.upd m.nx l) ((((m.set id .dead).new b')).nm (ι.upd m.nx l)) (w.heap.setIfInBounds (ι id).b o) l b')
  (W:∀c e fz,o=.cells c e fz->∀k,k<c.size->¬ (fz.1<=k∧k<fz.2)):
  Step P G ι m w (ι.upd m.nx l) ((m.set id .dead).new b') w':=by
 have L:=Mem.N9 h.ok E;have s:=Mem.U6 h.ok L .dead;have r:T.Ok (m.set id .dead).t (m.set id .dead).nx:=h.ok.put id .dead L;have g:∀i,((m.set id .dead).new b').get i=if i=m.nx then some b' else if i=id then some .dead else m.get i:=λi=>by rw [Mem.Q5 r,s];rfl
 have F:∀i x,m.get i=some x->i≠m.nx:=λi x d e=>by have:=Mem.N9 h.ok d;omega
 have q:∀j,m.has j->ι.upd m.nx l j=ι j:=λj ⟨x,d,_⟩=>ι.upd_ne l (F j x d);have u:∀i,m.has i->((m.set id .dead).new b').has i:=λi ⟨x,d,hv⟩=>by by_cases he:i=id;exact⟨.dead,by rw [g,if_neg (F i x d),if_pos he],rfl⟩;exact⟨x,by rw [g,if_neg (F i x d),if_neg he];exact d,hv⟩
 have z:=h.own id b A E H;have J:(ι id).b<w.heap.size:=fH (h.blk id b E) H;have f:∀i x,((m.set id .dead).new b').get i=some x->aC x=true->(i=m.nx∧x=b')∨(i≠m.nx∧i≠id∧m.get i=some x):=λi x d a=>by rw [g] at d;split at d;cases d;exact .inl ⟨by assumption,rfl⟩;split at d;cases d;cases a;exact .inr ⟨by assumption,by assumption,d⟩
 refine⟨⟨r.push b',?_,?_,h.glim,aA0 h.limn,h.gle,λi p=>by rw [g,if_neg (by have:=h.glim;have:=h.limn;omega),if_neg (by have:=h.glim;omega)];exact h.base i p,λi p=>u i (h.ghas i p),λi p=>by rw [q i (h.ghas i p)];exact h.glob i p,λi x d a=>by
   rcases f i x d a with⟨rfl,_⟩ | ⟨h1,_,h3⟩;rw [ι.V7];exact Q;rw [ι.upd_ne l h1];exact h.spot i x h3 a,h.OV λD N R=>by
   rw [C.heap,getElem?_set_ne];intro e;exact R ⟨id,b,A,E,H,e⟩⟩,q,u,Nat.le_succ _,rfl,?_,by rw [C.heap];simp,?_,?_,C.os,C.out,C.tape⟩
 intro i x d;rw [g] at d;rw [C.heap];split at d;rename_i e;subst e;cases d;simpa using I;rename_i e;split at d;cases d;trivial;rename_i U;rw [ι.upd_ne l e];exact (h.blk i x d).mono (n:=m.nm ι) q (Mem.bA u q) (λa=>getElem?_set_ne _ _ _ _ (λM=>z.alone i x U d a M.symm));intro i x p d a;have p:m.lim<=i:=p;rcases f i x d a with⟨rfl,rfl⟩ | ⟨h1,h2,h3⟩;refine⟨λj y O S v=>?_,λc e fz K=>?_⟩;rcases f j y S v with⟨h4,_⟩ | ⟨h4,h5,h6⟩;exact absurd h4 O;rw [ι.upd_ne l h4,ι.V7,B];exact z.alone j y h5 h6 v;rw [ι.V7,B,C.heap,O8 J] at K;exact W c e fz (LA K);refine⟨λj y O S v=>?_,λc e fz K=>?_⟩;rw [ι.upd_ne l h1];rcases f j y S v with⟨rfl,_⟩ | ⟨h4,h5,h6⟩;rw [ι.V7,B];exact (h.own i x p h3 a).alone id b (λe=>h2 e.symm) E H;rw [ι.upd_ne l h4];exact (h.own i x p h3 a).alone j y O h6 v;rw [ι.upd_ne l h1,C.heap,getElem?_set_ne _ _ _ _ (λM=>z.alone i x h2 h3 a M.symm)] at K;exact (h.own i x p h3 a).free c e fz K;intro i p;rw [g,if_neg (by have:=h.limn;omega),if_neg (by omega)];intro D _ R;rw [C.heap,getElem?_set_ne];intro e;exact R ⟨id,b,A,E,H,e⟩;rintro D ⟨i,x,p,d,a,rfl⟩;rcases f i x d a with⟨rfl,rfl⟩ | ⟨h1,h2,h3⟩;rw [ι.V7,B];exact .inl ⟨id,b,A,E,H,rfl⟩;rw [ι.upd_ne l h1];exact .inl ⟨i,x,p,h3,a,rfl⟩
def Fits (P:Program)(ι:K7)(m:Mem)(es need:Nat)(cells:List d9)(b':U7):Prop:=
 jd b'=false∧∀(ι':K7) (n':Nm) (h':Array Obj) (l':Loc) (c':Array Value) (e:TypeId) (fz:Nat×Nat),(m.nm ι).le n'->(∀i,m.has i->ι' i=ι i)->
  h'[l'.b]?=some (.cells c' e fz)->l'.base+l'.cap<=c'.size->need*es<=l'.cap->(∀(j:Nat) (v:d9),cells[j]?=some v->c'[l'.base+j]?=some (o8 ι v))->fG P ι' n' h' l' b'
theorem zl {es need:Nat}{a:List d9}{k:List (List d9)}(C:rowsOf es need a=some k)(g:dI (m.nm ι) a):Fits P ι m es need a (.cells es need (T.ofList k)):=by
 refine⟨rfl,λD H E G u e w p d B c b l=>?_⟩;obtain⟨y,F,z⟩:=jk _ _ _ _ C;refine⟨u,e,w,B,c,⟨b,k.length,by omega,T.jy k⟩,λi t=>?_⟩;obtain⟨q,x,r,s⟩:=z i t;refine⟨q,by rw [T.aV];exact x,r,eH.2 λv h=>?_,λj f=>?_⟩;obtain⟨j,f⟩:=adr h;have o:j<es:=ay5 (eP.1 f).1 r;rw [s j o] at f;exact d9.Y0 p _ (U5 g (O0 f));rw [s j f];have A:i*es+j<a.length:=by
  rw [y]
  calc i*es+j<i*es+es:=by omega
   _=(i+1)*es:=by rw [adF]
   _<=need*es:=adb _ t
 have h:=aP A;rw [l _ _ h,h,adG,Z5 (n:=m.nm ι) d _ (U5 g (O0 h))]
theorem Wd (o:RM P G ι m w.heap){id es k:Nat}{rows:T (List d9)}(n:m.get id=some (.cells es k rows)):∀len,len<=k->
  ∃l:List d9,l.length=len*es∧dI (m.nm ι) l∧qg ι w id 0 l∧∀i,i<len->∃row,rows.get i=some row∧row.length=es∧∀j,j<es->l[i*es+j]?=row[j]?:=by
 intro len;induction len with
 | zero=>intro _;exact⟨[],by simp,trivial,λj v a=>by simp at a,λi u=>by omega⟩
 | succ len ih=>
  intro y;obtain⟨l,h,q,r,s⟩:=ih (by omega);obtain⟨c,e,C,_,_,_,t⟩:=o.blk id _ n;obtain⟨row,f,g,p,_⟩:=t len (by omega);refine⟨l++row,by simp [h,g,adF],eH.2 λv a=>?_,λj v a=>?_,λi u=>?_⟩;rcases O4.1 a with a | a;exact U5 q a;exact U5 p a;by_cases d:j<l.length;rw [ade d] at a;exact r j v a;rw [adq (by omega)] at a;have x:=(eP.1 a).1;have:=(MI o n (i:=len) (by omega) (by omega:j-l.length<es) f a).1
  rwa [show len*es+(j-l.length)=0+j from by omega] at this
  by_cases hil:i<len;obtain⟨b,z,A,B⟩:=s i hil;refine⟨b,z,A,λj d=>?_⟩;have:i*es+j<l.length:=by
   rw [h]
   calc i*es+j<i*es+es:=by omega
    _=(i+1)*es:=by rw [adF]
    _<=len*es:=adb _ hil
  rw [ade this];exact B j d;obtain rfl:i=len:=by omega
  refine⟨row,f,g,λj d=>?_⟩;rw [adq (by omega)];congr 1;omega
theorem Yr (I:RM P G ι m w.heap){id es k len:Nat}{rows:T (List d9)}(F:m.get id=some (.cells es k rows))(y:len<=k){l new:List d9}(H:l.length=len*es)
  (p:∀i,i<len->∃row,rows.get i=some row∧row.length=es∧∀j,j<es->l[i*es+j]?=row[j]?) (x:new.length=es) (t:dI (m.nm ι) l) (g:dI (m.nm ι) new):
  Fits P ι m es (len+1) (l++new) (.cells es (len+1) (rows.put len new)):=by
 obtain⟨_,_,_,_,_,⟨_,N,M,c⟩,_⟩:=I.blk id _ F;refine⟨rfl,λK R L Q B e C s f E r o q=>⟨B,e,C,E,r,⟨o,?_⟩,λi O=>?_⟩⟩;rcases ajt len N with h | h;exact⟨N,by omega,c.put _ _ h⟩;obtain rfl:len=N:=by omega
 exact⟨len+1,aA _,c.push _⟩;by_cases hil:i=len;subst hil;refine⟨new,T.Z7 c _ _ (by omega),x,gK s _ g,λj a=>?_⟩;have d:new[j]?=some new[j]:=aP (by omega);have:(l++new)[i*es+j]?=some new[j]:=by rw [adq (by omega),← d];congr 1;omega
 rw [q _ _ this,d,adG,Z5 (n:=m.nm ι) f _ (U5 g (O0 d))];obtain⟨row,J,z,A⟩:=p i (by omega);have b:∀j,j<es->i*es+j<l.length:=λj a=>by
  rw [H]
  calc i*es+j<i*es+es:=by omega
   _=(i+1)*es:=by rw [adF]
   _<=len*es:=adb _ (by omega)
 refine⟨row,by rw [T.aU c _ _ _ (by omega) (λe=>hil e.symm)];exact J,z,eH.2 λv d=>?_,λj a=>?_⟩;obtain⟨j,a⟩:=adr d;have u:j<es:=ay5 (eP.1 a).1 z;rw [← A j u] at a;exact d9.Y0 s _ (U5 t (O0 a));have d:l[i*es+j]?=some (l[i*es+j]'(b j a)):=aP (b j a);have D:(l++new)[i*es+j]?=some (l[i*es+j]'(b j a)):=by rw [ade (b j a)];exact d
 rw [q _ _ D,← A j a,d,adG,Z5 (n:=m.nm ι) f _ (U5 t (O0 d))]
end
section
variable {P:Program}{G:Mem}{ι:K7}{m:Mem}{w:World}{a:Act}
theorem KJ (need:Nat):∀(r c:Nat),Builtin.growBy need r c<=max c (need+(need+768) / 4)
 | 0,c=>by simp only [Builtin.growBy];omega
 | r+1,c=>by simp only [Builtin.growBy];split;omega;have:=KJ need r (c+(c+768) / 4);omega
theorem nextslicecap_le (need old:Nat)(h:old<need):Builtin.nextslicecap need old<=2*need+2048:=by unfold Builtin.nextslicecap;split;omega;split;omega;have:=KJ need 4 old;omega
def MO:TypeDesc->Bool
 | .int _=>true
 | _=>false
def an2 (P:Program)(w:World)(zs:Bool)(by' n:Nat)(x:Value):Prop:=
 (zs=false∧(Builtin.lenOf x).run P w=.ok n w)∨(zs=true∧(∃k,x=.int k n)∧n<9223372036854775808∧n*by'<=281474976710656)
def oH (zs:Bool)(e:TypeId)(es sLen sCap:Nat)(base:Option Addr)(x:Value)(n:Nat):Sem Value:=do
 let appended:Sem (Array Value):=
  if !zs then Builtin.firstCells es n x
  else if n*es=0 then pure #[]
  else do pure (Builtin.zeroCells (← zeroValue e).cells n)
 let need:=sLen+n
 if need<=sCap then
  let new ← appended
  if let some a:=base then storeCells (a.add (sLen*es)) new.toList
  pure (.slice base need sCap)
 else
  if (need:Int)>IntKind.i64.max∧(zs∨(← typeInfo e).bytes=0) then runtimePanic (.error "growslice: len out of range")
  if Builtin.nextslicecap need sCap*(← typeInfo e).bytes>2^48 then (if zs then runtimePanic (.error "growslice: len out of range") else do
   if !(← Builtin.mayShare es sLen n base x) then mark .noRoom
   unsupported (.resourceLimit "append: a slice or a string whose bytes no memory bears"))
  let newCap ← choose (.appendCap need sCap e)
  askRoom (newCap*(← typeInfo e).bytes)
  let old ← Builtin.firstCells es sLen (.slice base sLen sCap)
  let new ← appended
  let rest:=Builtin.zeroCells (← zeroValue e).cells (newCap-need)
  pure (.slice (some (← newRow e (old++new++rest))) need newCap)
theorem Pt {t u e T:TypeId}{d:TypeDesc}{es a n sLen sCap:Nat}{base:Option Addr}{x:Value}(o:P.underlying t=some (.slice e))(c:eX P e=some es)(m:P.underlying u=some d)
  (i:jK P e=some a) (p:an2 P w (MO d) a n x):
  (Builtin.append_ #[t,u] T #[.slice base sLen sCap,x]).run P w=(oH (MO d) e es sLen sCap base x n).run P w:=by
 obtain⟨g,j,l⟩:=zi (w:=w) i;rcases p with⟨hz,h1⟩ | ⟨hz,⟨k,rfl⟩,h2,h3⟩;cases d with
 | int=>cases hz
 | _=>simp only [Builtin.append_,aht,azB,adJ,M0,run_underlying o,su,run_sizeOf c,run_underlying m,adg,ady,if_false,h1,oH,MO];rfl
 cases d with
 | int k'=>
  have q:IntKind.i64.wrap (n:Int)=n:=BU _ ⟨by omega,by omega⟩;have b:¬ ((n:Int)*(g.bytes:Int)>2^48):=by
   rw [l];have:((n*a:Nat):Int)=(n:Int)*(a:Int):=by simp
   rw [← this];have h:(2:Int)^48=281474976710656:=rfl;rw [h];omega
  have f:¬ ((n:Int)<0):=by omega
  simp only [Builtin.append_,aht,azB,adJ,M0,run_underlying o,su,run_sizeOf c,run_underlying m,adg,if_true,asInt,asIntOf,q,f,if_false,j,b,aA1,oH,MO];rfl
 | _=>cases hz
theorem oI {zs:Bool}{e:TypeId}{es sLen sCap n:Nat}{base:Option Addr}{x:Value}{new:List Value}{w':World}(b:sLen+n<=sCap)
  (c:(if (!zs)=true then Builtin.firstCells es n x else if n*es=0 then pure #[] else do pure (Builtin.zeroCells (← zeroValue e).cells n):Sem (Array Value)).run P w=.ok new.toArray w)
  (a:match base with | some ad=>(storeCells (ad.add (sLen*es)) new 0).run P w=.ok () w' | none=>w'=w):
  (oH zs e es sLen sCap base x n).run P w=.ok (.slice base (sLen+n) sCap) w':=by
 unfold oH;simp only [b,if_true];rw [M0,c,su];cases base with
 | none=>subst a;simp
 | some ad=>simp only [] at a;simp [a]
theorem uO {zs:Bool}{e:TypeId}{es by' sLen sCap n:Nat}{base:Option Addr}{x:Value}{z:List d9}{old new:List Value}(i:jK P e=some by')(G:sU P e=some z)
  (f:¬ sLen+n<=sCap) (A:(2*(sLen+n)+2048)*by'<=281474976710656) (j:1<=by')
  (m:∀w':World,w'.heap=w.heap->(Builtin.firstCells es sLen (.slice base sLen sCap)).run P w'=.ok old.toArray w')
  (l:∀w':World,w'.heap=w.heap->(if (!zs)=true then Builtin.firstCells es n x else if n*es=0 then pure #[] else do pure (Builtin.zeroCells (← zeroValue e).cells n):Sem (Array Value)).run P w'=.ok new.toArray w'):
  ∃(capN:Nat) (rest:List Value),sLen+n<=capN∧rest.length=(capN-(sLen+n))*z.length∧
   (oH zs e es sLen sCap base x n).run P w=.ok (.slice (some ⟨w.heap.size,0,none⟩) (sLen+n) capN)
    {w with heap:=w.heap.push (.cells (old++new++rest).toArray e),drawn:=w.drawn+1}:=by
 obtain⟨g,s,t⟩:=zi (w:=w) i;have F:(2*(sLen+n)+2048)*1<=(2*(sLen+n)+2048)*by':=Nat.mul_le_mul_left _ j;have h:=nextslicecap_le (sLen+n) sCap (by omega);have B:Builtin.nextslicecap (sLen+n) sCap*by'<=(2*(sLen+n)+2048)*by':=adb _ h;have C:¬ (((sLen+n:Nat):Int)>IntKind.i64.max):=by have:IntKind.i64.max=9223372036854775807:=rfl;rw [this];omega
 have D:¬ (Builtin.nextslicecap (sLen+n) sCap*g.bytes>2^48):=by rw [t];have o:(2:Nat)^48=281474976710656:=rfl;rw [o];omega
 obtain⟨H,u,v,_⟩:=gM (P:=P) (w:={w with drawn:=w.drawn+1}) G (λ_=>⟨0,0,0,none⟩);refine⟨sLen+n+w.tape w.drawn (.appendCap (sLen+n) sCap e)%(2^63-(sLen+n)),(Builtin.zeroCells H.cells (sLen+n+w.tape w.drawn (.appendCap (sLen+n) sCap e)%(2^63-(sLen+n))-(sLen+n))).toList,by omega,?_,?_⟩;simp [Builtin.zeroCells,v];unfold oH;simp only [f,if_false];have k:∀w',(typeInfo e).run P w'=.ok g w':=by
  intro w';obtain⟨I,y,_⟩:=zi (w:=w') i;have E:∀c d:World,∀a b,(typeInfo e).run P c=.ok a c->(typeInfo e).run P d=.ok b d->a=b:=by intro c d a b p q;unfold typeInfo at p q;simp only [M0,run_program,su] at p q;split at p<;>split at q<;>simp_all
  rw [y,E w' w _ _ y s]
 have r:∀w':World,(choose (.appendCap (sLen+n) sCap e)).run P w'=.ok (sLen+n+w'.tape w'.drawn (.appendCap (sLen+n) sCap e)%(2^63-(sLen+n))) {w' with drawn:=w'.drawn+1}:=by intro w';rw [run_choose];simp [Question.forced,Question.cut]
 simp only [M0,k,su,C,D,false_and,if_false,adg,r,run_askRoom,m {w with drawn:=w.drawn+1} rfl,l {w with drawn:=w.drawn+1} rfl,u,jl];simp only [aCH,← List.append_toArray,adA]
theorem Ik (n:RM P G ι m w.heap){es need capN:Nat}{b:List d9}{b':U7}(g:Fits P ι m es need b b'){c:Array Value}{e:TypeId}{w':World}
  (q:Yj w w' (.cells c e)) (o:c.size=capN*es) (f:need<=capN) (i:∀(j:Nat) (v:d9),b[j]?=some v->c[j]?=some (o8 ι v)):
  Step P G ι m w (ι.upd m.nx ⟨w.heap.size,0,capN*es,none⟩) (m.new b') w':=by
 obtain⟨p,g⟩:=g;have a:=Laid.new n.ok n.limn b' p;have d:∀j,m.has j->(ι.upd m.nx ⟨w.heap.size,0,capN*es,none⟩) j=ι j:=λj l=>ι.upd_ne _ λh=>a.free (h▸l);refine Step.lay n a q rfl rfl ?_ ?_;refine g _ _ _ _ c e _ (Mem.bA a.has d) d jA ?_ ?_ λj v l=>?_;show 0+capN*es<=c.size;omega;exact adb _ f;rw [S9];exact i j v l;intro r s t h k u;cases h;simp
theorem Fits.kill (p:RM P G ι m w.heap){es need q:Nat}{a:List d9}{b' h:U7}(f:Fits P ι m es need a b')(r:m.lim<=q)(n:m.get q=some h):Fits P ι (m.set q .dead) es need a b':=by have g:=Step.kill p r n;refine⟨f.1,λd t l s j e k c b=>f.2 d t l s j e k (Nm.le_trans (Mem.bA g.has λ_ _=>rfl) c) λi o=>b i (g.has i o)⟩
theorem Wh (g:RM P G ι m w.heap){es need capN q:Nat}{a:List d9}{b' k:U7}(l:Fits P ι m es need a b')(h:m.lim<=q)(f:m.get q=some k){c:Array Value}{e:TypeId}{w':World}
  (n:Yj w w' (.cells c e)) (i:c.size=capN*es) (b:need<=capN) (d:∀(j:Nat) (v:d9),a[j]?=some v->c[j]?=some (o8 ι v)):
  Step P G ι m w (ι.upd m.nx ⟨w.heap.size,0,capN*es,none⟩) ((m.set q .dead).new b') w':=
 (Step.kill g h f).trans (Ik (Step.kill g h f).rm (Fits.kill g l h f) n i b d)
theorem ae6 (A:RM P G ι m w.heap){q rs k:Nat}{rows:T (List d9)}(K:m.lim<=q)(H:m.get q=some (.cells rs k rows)){c:Array Value}{e:TypeId}{f:Nat×Nat}(F:w.heap[(ι q).b]?=some (.cells c e f))
  {B C len n es:Nat} {old new:List d9} {b':U7} (D:B+C<=c.size) (g:(len+n)*es<=C) (Q:old.length=len*es) (O:new.length=n*es) (s:I6 new=true)
  (r:∀(j:Nat) (v:d9),old[j]?=some v->c[B+j]?=some (o8 ι v)) (E:Fits P ι m es (len+n) (old++new) b'):
  ∃w',(storeCells ⟨(ι q).b,B+len*es,none⟩ (A8 ι new) 0).run P w=.ok () w'∧
   Step P G ι m w (ι.upd m.nx ⟨(ι q).b,B,C,none⟩) ((m.set q .dead).new b') w':=by
 have t:=A.own q _ K H rfl;have l:=t.free c e f F;have L:(len+n)*es=len*es+n*es:=adX _ _ _;have x:=wZ (P:=P) (A8 ι new) c (B+len*es) 0 w F (by simp;omega) l (λv z=>by
  rw [dJ] at z;obtain⟨u,R,rfl⟩:=adM.1 z;exact KH (wY s u R))
 refine⟨_,x,?_⟩;obtain⟨z,E⟩:=E;have I:=Step.kill A K H;have d:=Laid.new I.rm.ok I.rm.limn b' z;have a:∀j,m.has j->(ι.upd m.nx ⟨(ι q).b,B,C,none⟩) j=ι j:=λj ⟨y,hy,_⟩=>ι.upd_ne _ λh=>by have:=Mem.N9 A.ok hy;omega
 refine Step.an1 (o:=.cells (over c (B+len*es+0) (A8 ι new)) e f) (w':={w with heap:=w.heap.setIfInBounds (ι q).b (.cells (over c (B+len*es+0) (A8 ι new)) e f)}) A K H rfl z ⟨rfl,rfl,rfl,rfl⟩ rfl rfl ?_ ?_;refine E _ _ _ _ _ e f (Mem.bA (λi N=>d.has i (I.has i N)) a) a (mZ F) ?_ g λj v p=>?_;simpa using D;show (over c (B+len*es+0) (A8 ι new))[B+j]?=some (o8 ι v);rw [Ib _ _ _ (by simp;omega)];by_cases h1:j<old.length;rw [ade h1] at p;rw [if_pos (by omega)];exact r j v p;rw [adq (by omega)] at p;have W:=(eP.1 p).1;rw [if_neg (by omega),if_pos (by simp;omega),dB,show B+j-(B+len*es+0)=j-old.length from by omega,p];rfl;intro U V M h S J;cases h;exact l S (by simpa using J)
theorem zm {w':World}{l:Loc}{g:Mem}(d:l.spot=none)(f:Step P G ι m w (ι.upd m.nx l) g w')(h:g.has m.nx){es need:Nat}(c:1<=es)(e:need*es<=l.cap){cap:Nat}(a:cap=l.cap / es):
  iD P G ι m w [⟨.sliceU m.nx 0 need es,g⟩] (.slice (some ⟨l.b,l.base,none⟩) need cap) w':=by
 refine⟨_,ql.2 rfl,_,f,⟨h,c,?_⟩,?_⟩;show 0+need*es<=((ι.upd m.nx l) m.nx).cap;rw [K7.V7];omega;simp [o8,K7.at,a,d]
theorem MP (h:T.Ok m.t m.nx){b:U7}(hb:jd b=false):(m.new b).has m.nx:=⟨b,by rw [Mem.Q5 h,if_pos rfl],hb⟩
theorem Il {n bytes es:Nat}(h:big n bytes es=true):(2*n+2048)*bytes<=281474976710656∧1<=es∧1<=bytes:=by
 unfold big at h;cases h1:Nat.ble (Nat.mul (Nat.add (Nat.mul 2 n) 2048) bytes) 281474976710656 with
 | false=>rw [h1] at h;cases h
 | true=>
  rw [h1] at h;cases h2:Nat.ble 1 es with
  | false=>rw [h2] at h;cases h
  | true=>rw [h2] at h;exact⟨M8 h1,M8 h2,M8 h⟩
theorem Yt {a:Type}{b:Option U7}{c:Nat->Nat->T (List d9)->Option a}{k:Nat->Option a}{r:a}(h:wG b c k=some r):
  (∃rs n rows,b=some (.cells rs n rows)∧c rs n rows=some r)∨∃p,b=some (.tail p)∧k p=some r:=by
 unfold wG at h;split at h;exact .inl ⟨_,_,_,rfl,h⟩;exact .inr ⟨_,rfl,h⟩;cases h
theorem Cr {es n:Nat}{a:List d9}{b:List VM}(h:grown m es n a=some b):∃rl,rowsOf es n a=some rl∧b=[⟨.sliceU m.nx 0 n es,m.new (.cells es n (T.ofList rl))⟩]:=by obtain⟨rl,c,h⟩:=D7 h;cases h;exact⟨rl,c,rfl⟩
theorem Pv {α:Type}{b:Bool}{x y:Option α}{r:α}(h:bi b x y=some r):(b=true∧x=some r)∨(b=false∧y=some r):=by
 cases b with
 | true=>exact .inl ⟨rfl,h⟩
 | false=>exact .inr ⟨rfl,h⟩
theorem KL {a b:Nat}(h:Nat.ble a b=false):¬ a<=b:=λc=>by rw [wu c] at h;cases h
end
end Go.AM
