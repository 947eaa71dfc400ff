/- A part of an evaluator for the model, proved sound: what it answers holds of the model; it speaks of every program, no condition. -/
import Derived.Test.YtfnlnpllpfhhnaaGreatDoorPA2
import Derived.RangeFuncLeaves
import Derived.RangeFuncRecord
import Derived.RangeFuncNested
import Derived.LoopNIn
import Derived.OrdersIn
set_option linter.all false
namespace Go.AM
open Go
noncomputable section
section
variable {P:Program}{G:Mem}{ι:K7}{m:Mem}{w:World}{slots:List Nat}{done:List (Option Nat)}{ls:List d9}{env:T d9}{a:Act}
theorem UG (f:RM P G ι m w.heap){id rs k:Nat}{rows:T (List d9)}(d:m.get id=some (.cells rs k rows)):∃c e fz,w.heap[(ι id).b]?=some (.cells c e fz)∧(ι id).base+(ι id).cap<=c.size∧
  ∀j v,w.cell? (ι.at id j)=some v->c[(ι id).base+j]?=some v:=by
 obtain⟨c,e,fz,a,g,_⟩:=f.blk id _ d;refine⟨c,e,fz,a,g,λj v h=>?_⟩;simpa [World.cell?,K7.at,a,f.spot id _ d rfl] using h
theorem Px (r:RM P G ι m w.heap){e:TypeId}{es F n:Nat}{z:List d9}(hz:OM P e=some z)(ae:eX P e=some es)(V:jK P e=some F)
  {zs:Bool} {x:Value} {new:List d9} (o:dI (m.nm ι) new) (a3:n=0->new=[])
  (g:∀w':World,w'.heap=w.heap->(if (!zs)=true then Builtin.firstCells es n x else if n*es=0 then pure #[] else do pure (Builtin.zeroCells (← zeroValue e).cells n):Sem (Array Value)).run P w'=.ok (A8 ι new).toArray w')
  {sv:d9} (aa:sv.lt (m.nm ι)) {outs:List VM} (h:oz m es F n new sv=some outs):
  ∃base sLen sCap v w',o8 ι sv=.slice base sLen sCap∧(oH zs e es sLen sCap base x n).run P w=.ok v w'∧iD P G ι m w outs v w':=by
 obtain⟨a0,ab⟩:=En hz;obtain rfl:es=z.length:=by rw [ae] at ab;exact LA ab
 rcases wR h with⟨rfl,h⟩ | ⟨id,off,len,cap,rfl,h⟩ | ⟨id,off,len,es',rfl,h⟩
 ·
  refine⟨none,0,0,?_⟩;cases n with
  | zero=>have h:one .nilSlice m=some outs:=h;cases h;obtain rfl:=a3 rfl;exact⟨.slice none 0 0,w,rfl,oI (aA 0) (g w rfl) rfl,_,ql.2 rfl,ι,Step.refl r,trivial,rfl⟩
  | succ n=>
   have h:bi (big (n+1) F z.length) (grown m z.length (n+1) new) none=some outs:=h;obtain⟨M,h⟩:=I8 h;obtain⟨b1,E,b3⟩:=Il M;obtain⟨rl,J,rfl⟩:=Cr h;obtain⟨capN,f,r1,r2,r3⟩:=uO (P:=P) (w:=w) (zs:=zs) (e:=e) (es:=z.length) (sLen:=0) (sCap:=0) (base:=none) (x:=x) (n:=n+1) (old:=[]) V a0 (by omega) (by simpa using b1) b3
    (λw' _=>by simp [Builtin.firstCells]) g
   have d:=(jk _ _ _ _ J).1;have t:=Ik r (zl J o) (c:=([]++A8 ι new++f).toArray) (e:=e) (w':={w with heap:=w.heap.push (.cells ([]++A8 ι new++f).toArray e),drawn:=w.drawn+1}) ⟨rfl,rfl,rfl,rfl⟩ (capN:=capN)
    (by simp only [akW,U1,asf,bF,d,r2,S9];rw [← adX];congr 1;omega) (by omega)
    (λj v u=>by
     have A:=(eP.1 u).1;simp only [adl,aht];rw [ade (by simpa using A),dB,u];rfl)
   refine⟨_,_,rfl,r3,?_⟩;have:=zm rfl t (MP r.ok rfl) E (need:=n+1) (adb _ (by omega)) (cap:=capN) (by show capN=capN*z.length / z.length;rw [ay3 _ E]);simpa using this
 ·
  refine⟨some (ι.at id off),len,cap,?_⟩;have h:bi (Nat.ble (len+n) cap) (eY m id (off+len*z.length) new λm'=>one (.slice id off (len+n) cap) m')
   (bi (big (len+n) F z.length) (ob (V4 m id off (len*z.length)) λold=>grown m z.length (len+n) (bU old new)) none)=some outs:=h
  rcases Pv h with⟨i,h⟩ | ⟨i,h⟩;obtain⟨m',w',hk,a7,t⟩:=oh r h o;cases hk;exact⟨_,w',rfl,oI (M8 i) (g w rfl) (by simp only [K7.qd];exact a7),_,ql.2 rfl,ι,t,t.has id aa,by simp [o8]⟩;obtain⟨M,h⟩:=I8 h;obtain⟨b1,E,b3⟩:=Il M;obtain⟨old,ho,h⟩:=D7 h;rw [U9] at h;obtain⟨rl,J,rfl⟩:=Cr h;obtain⟨o1,o2,o3⟩:=lC r ho;obtain⟨capN,f,r1,r2,r3⟩:=uO (P:=P) (w:=w) (zs:=zs) (e:=e) (es:=z.length) (sLen:=len) (sCap:=cap) (base:=some (ι.at id off)) (x:=x) (n:=n) (old:=A8 ι old) V a0 (KL i) b1 b3
   (λw' hw=>lD o1 (λj v u=>by have:=o3 j v u;simpa [World.cell?,hw] using this)) g
  have X:dI (m.nm ι) (old++new):=eH.2 λv hv=>(O4.1 hv).elim (U5 o2) (U5 o);have d:=(jk _ _ _ _ J).1;have t:=Ik r (zl J X) (c:=(A8 ι old++A8 ι new++f).toArray) (e:=e) (w':={w with heap:=w.heap.push (.cells (A8 ι old++A8 ι new++f).toArray e),drawn:=w.drawn+1}) ⟨rfl,rfl,rfl,rfl⟩ (capN:=capN)
   (by
    rw [U1] at d;simp only [akW,U1,bF,d,r2];rw [← adX];congr 1;omega) (by omega)
   (λj v u=>by
    have A:=(eP.1 u).1;rw [U1] at A;rw [aht,ade (by simpa using A),dJ,dJ,← amR,adf,u];rfl)
  refine⟨_,_,rfl,r3,?_⟩;exact zm rfl t (MP r.ok rfl) E (need:=len+n) (adb _ (by omega)) (cap:=capN) (by show capN=capN*z.length / z.length;rw [ay3 _ E])
 ·
  obtain⟨ah,a8,Z⟩:=aa;have Z:off+len*es'<=(ι id).cap:=Z;have N:len<=((ι id).cap-off) / es':=(ako a8).2 (by omega);refine⟨some (ι.at id off),len,((ι id).cap-off) / es',?_⟩;cases n with
  | zero=>have h:one (.sliceU id off len es') m=some outs:=h;cases h;obtain rfl:=a3 rfl;refine⟨_,w,rfl,oI (w':=w) N (g w rfl) (by simp [A8,storeCells]),_,ql.2 rfl,ι,Step.refl r,⟨ah,a8,Z⟩,by simp [o8]⟩
  | succ n=>
   have h:bi (Nat.beq z.length es') (bi (big (len+(n+1)) F z.length) (bi (Nat.ble m.lim id) (bi (I6 new)
    (wG (m.get id)
     (λK k a=>
      bi (bi (Nat.beq K z.length) (bi (Nat.beq off 0) (bi (Nat.ble len k) (bi (Nat.beq (n+1) 1) (Nat.beq (len' new) z.length) false) false) false) false)
       (one (.sliceU m.nx 0 (Nat.succ len) z.length) ((m.set id .dead).new (.cells z.length (Nat.succ len) (a.put len new))))
       (ob (J8 K k a (len*z.length) off) λold=>grown (m.set id .dead) z.length (len+(n+1)) (bU old new)))
     (λp=>aO (m.get p) λ_ _ _=>bi (Nat.ble m.lim p) (bi (Nat.beq len 0) (grown (m.set p .dead) z.length (n+1) new) none) none)) none) none) none) none=some outs:=h
   obtain⟨q1,k1⟩:=I8 h;clear h;obtain rfl:=rW q1;obtain⟨q2,k2⟩:=I8 k1;obtain⟨b1,E,b3⟩:=Il q2;obtain⟨q3,k3⟩:=I8 k2;have R:m.lim<=id:=M8 q3;obtain⟨a6,h⟩:=I8 k3;clear k1 k2 k3;have H:∀(q K k:Nat) (a:T (List d9)),m.lim<=q->m.get q=some (.cells K k a)->∀(B C:Nat) (old:List d9) (b':U7),C=(ι id).cap-off->
     ((ι id).b=(ι q).b∨C=0)->B=(ι id).base+off->(C≠0->B+C<=(ι q).base+(ι q).cap)->(C≠0->(ι id).spot=none)->old.length=len*z.length->new.length=(n+1)*z.length->dI (m.nm ι) old->qg ι w id off old->
     Fits P ι m z.length (len+(n+1)) (old++new) b'->outs=[⟨.sliceU m.nx 0 (len+(n+1)) z.length,(m.set q .dead).new b'⟩]->
     ∃v w',o8 ι (.sliceU id off len z.length)=.slice (some (ι.at id off)) len (((ι id).cap-off) / z.length)∧
      (oH zs e z.length len (((ι id).cap-off) / z.length) (some (ι.at id off)) x (n+1)).run P w=.ok v w'∧iD P G ι m w outs v w':=by
    intro q K k a hq y B C old b' hC M hB ad a9 Y O ai a4 hF s;subst s;have a5:=(Step.kill r hq y).rm;have Q:((m.set q .dead).new b').has m.nx:=MP (m:=m.set q .dead) a5.ok hF.1;by_cases hfit:len+(n+1)<=((ι id).cap-off) / z.length;have I:(len+(n+1))*z.length<=C:=(by rw [hC];exact (ako E).1 hfit);have S:C≠0:=by have:1*1<=(len+(n+1))*z.length:=azY (by omega) E;omega
    have M:=M.resolve_right S;have D:=a9 S;obtain⟨c,a1,fz,c1,c2,c3⟩:=UG r y;obtain⟨w',g1,g2⟩:=ae6 r hq y c1 (B:=B) (C:=C) (len:=len) (n:=n+1) (es:=z.length) (old:=old) (new:=new) (b':=b') (by have:=ad S;omega) I Y O a6
     (λj v u=>by
      have:=a4 j v u;simp only [World.cell?,K7.at,M,c1,D] at this;rw [hB,ada];simpa using this) hF
    refine⟨_,w',by simp [o8],oI hfit (g w rfl) (by
     have:(ι.at id off).add (len*z.length)=⟨(ι q).b,B+len*z.length,none⟩:=(by simp [K7.at,Addr.add,M,hB,D]);simp only [this];exact g1),?_⟩
    have:=zm rfl g2 Q E (need:=len+(n+1)) I (cap:=((ι id).cap-off) / z.length) (by show _=C / z.length;rw [hC]);have U:ι.at id off=⟨(ι q).b,B,none⟩:=(by simp [K7.at,M,hB,D]);rw [U];exact this;obtain⟨capN,f,r1,r2,r3⟩:=uO (P:=P) (w:=w) (zs:=zs) (e:=e) (es:=z.length) (sLen:=len) (sCap:=((ι id).cap-off) / z.length) (base:=some (ι.at id off)) (x:=x) (n:=n+1) (old:=A8 ι old) V a0 hfit b1 b3
     (λw' hw=>lD Y (λj v u=>by have:=a4 j v u;simpa [World.cell?,hw] using this)) g
    have t:=Wh r hF hq y (c:=(A8 ι old++A8 ι new++f).toArray) (e:=e) (w':={w with heap:=w.heap.push (.cells (A8 ι old++A8 ι new++f).toArray e),drawn:=w.drawn+1}) ⟨rfl,rfl,rfl,rfl⟩ (capN:=capN)
     (by
      simp only [akW,U1,bF,Y,O,r2];rw [← adX,← adX];congr 1;omega) (by omega)
     (λj v u=>by
      have A:=(eP.1 u).1;rw [U1] at A;rw [aht,ade (by simpa using A),dJ,dJ,← amR,adf,u];rfl)
    refine⟨_,_,by simp [o8],r3,?_⟩;exact zm rfl t Q E (need:=len+(n+1)) (adb _ (by omega)) (cap:=capN) (by show capN=capN*z.length / z.length;rw [ay3 _ E])
   rcases Yt h with⟨K,k,a,y,h⟩ | ⟨p,y,h⟩
   ·obtain⟨cc,a1,ac,c1,c2,c3⟩:=UG r y;rcases Pv h with⟨i,h9⟩ | ⟨_,h⟩
    ·
     clear h;have af:K=z.length∧off=0∧len<=k∧n=0∧new.length=z.length:=by
      cases p1:Nat.beq K z.length<;>rw [p1] at i<;>simp only [Z6,aJ] at i<;>try (cases i;done)
      cases p2:Nat.beq off 0<;>rw [p2] at i<;>simp only [Z6,aJ] at i<;>try (cases i;done)
      cases p3:Nat.ble len k<;>rw [p3] at i<;>simp only [Z6,aJ] at i<;>try (cases i;done)
      cases p4:Nat.beq (n+1) 1<;>rw [p4] at i<;>simp only [Z6,aJ] at i<;>try (cases i;done)
      have p4:=rW p4;have i:=rW i;rw [K4] at i;exact⟨rW p1,rW p2,M8 p3,by omega,i⟩
     obtain⟨rfl,rfl,hk,rfl,O⟩:=af;cases h9;obtain⟨l,l1,l2,l3,l4⟩:=Wd r y len hk;exact H id z.length k a R y _ _ l _ rfl (.inl rfl) rfl (λ_=>by omega) (λ_=>r.spot id _ y rfl) l1 (by omega) l2 l3 (Yr r y hk l1 l4 O l2 o) rfl
    obtain⟨old,ho,h⟩:=D7 h;rw [U9] at h;obtain⟨rl,J,s⟩:=Cr h;obtain⟨o1,o2,o3⟩:=wV r y _ _ _ ho;have X:dI (m.nm ι) (old++new):=eH.2 λv hv=>(O4.1 hv).elim (U5 o2) (U5 o);have d:=(jk _ _ _ _ J).1;rw [U1,o1,adX] at d;exact H id K k a R y _ _ old _ rfl (.inl rfl) rfl (λ_=>by omega) (λ_=>r.spot id _ y rfl) o1 (by omega) o2 o3 (zl J X) s
   obtain⟨K,k,a,a2,h⟩:=oU h;obtain⟨q4,h⟩:=I8 h;have W:=M8 q4;obtain⟨q5,h⟩:=I8 h;obtain rfl:=rW q5;obtain⟨rl,J,s⟩:=Cr h;obtain⟨t1,L⟩:=r.blk id _ y;have d:=(jk _ _ _ _ J).1;refine H p K k a W a2 _ _ [] (.cells z.length (n+1) (T.ofList rl)) rfl ?_ rfl ?_ ?_ (by simp) d trivial (λj v u=>by simp at u) ?_ ?_;rcases L with L | L;exact .inr (by omega);exact .inl L.1;intro ag;rcases L with L | L;omega;omega;intro ag;rcases L with L | L;omega;exact L.2.2 (r.spot p _ a2 rfl);rw [adl,S9];exact zl J o;rw [s,S9];rfl
def aAn (d:TypeDesc):Bool:=match d with | .int _=>true | _=>false
theorem ae7 (d:TypeDesc):aAn d=MO d:=by cases d<;>rfl
theorem Wi (s:St P ι (m.nm ι) slots done ls env a.tmps)(O:RM P G ι m w.heap){c:Call}{t u e:TypeId}{d:TypeDesc}{x y:Operand}{U B:V9}{es j:Nat}{z:List d9}(hc:c.callee=.builtin .append)
  (r:c.argTypes.toList=[t,u]) (p:c.args.toList=[x,y]) (hu:P.underlying t=some (.slice e)) (hd:P.underlying u=some d) (q:eX P e=some es) (W:OM P e=some z) (E:jK P e=some j)
  (hx:V5 P slots done x=some U) (hy:V5 P slots done y=some B) {cf:H8} {g:List VM} (f:vJ (.app es (MO d) z j U B) cf ls env m=some g):
  ∀o:Oper,o.op=.call c->Does P a.eval o w (iD P G ι m w g):=by
 intro o ho;have r:c.argTypes=#[t,u]:=by rw [← r,adA]
 have p:c.args=#[x,y]:=by rw [← p,adA]
 obtain⟨e1,g1⟩:=D9 s hx;obtain⟨e2,g2⟩:=D9 s hy;obtain⟨J,I⟩:=En W;have F:es=z.length:=by rw [q] at I;exact LA I
 have C:∀(n:Nat) (b:List d9),an2 P w (MO d) j n (o8 ι (H9 B ls env))->dI (m.nm ι) b->(n=0->b=[])->
   (∀w':World,w'.heap=w.heap->(if (!MO d)=true then Builtin.firstCells es n (o8 ι (H9 B ls env)) else if n*es=0 then pure #[] else do pure (Builtin.zeroCells (← zeroValue e).cells n):Sem (Array Value)).run P w'=.ok (A8 ι b).toArray w')->
   oz m es j n b (H9 U ls env)=some g->Does P a.eval o w (iD P G ι m w g):=by
  intro n b hn N Q H h;obtain⟨V,Z,Y,v,w',q1,X,q3⟩:=Px O W q E N Q H g1 h;refine ak (v:=v) (w':=w') ?_ q3;rw [← Pt (T:=o.type) hu q hd E hn] at X;simp [execOp,ho,resolve,hc,p,r,invoke,builtin,e1,e2,q1,X]
 cases hi:MO d with
 | true=>rw [hi] at f;obtain⟨k,n,D,f⟩:=iC f;obtain⟨l,f⟩:=I8 f;obtain⟨M,f⟩:=I8 f;have l:n*j<=281474976710656:=M8 l;have M:n<9223372036854775808:=Eq.mp O6 M;have D:H9 B ls env=.int k n:=D;refine C n (P7 z n) (.inr ⟨hi,⟨k,by rw [D];rfl⟩,M,l⟩) (by obtain⟨_,_,_,K⟩:=gM (P:=P) (w:=w) J ι;exact uM (K _) n) (λA=>by rw [A];rfl) (λw' _=>?_) f;obtain⟨zv,R,S,K⟩:=gM (P:=P) (w:=w') J ι;simp only [hi,aAj,ady,if_false];split;rename_i A;have:P7 z n=[]:=acS.1 (by rw [gQ,← F];exact A);simp [this,A8];simp [R,S,Cq]
 | false=>
  rw [hi] at f;obtain⟨n,D,f⟩:=D7 f;obtain⟨b,l,f⟩:=D7 f;refine C n b (.inl ⟨hi,Fv D w⟩) (ni O l).2 (λA=>?_) (λw' hw=>?_) f;subst A;have A:∀i L,V4 m i L 0=some []:=λi L=>rfl;generalize H9 B ls env=v at l;cases v<;>simp only [bS,reduceCtorEq] at l<;>simp_all [bytesOf]
  simp only [hi,Bool.not_false,if_true];exact (ni (w:=w') (by rw [hw];exact O) l).1
end
section
variable {P:Program}{G:Mem}{ι:K7}{m:Mem}{w:World}{slots:List Nat}{done:List (Option Nat)}{ls:List d9}{env:T d9}{a:Act}
def ae8 (P:Program)(f:FuncId):Prop:=∃fn,P.funcs[f]?=some fn∧fn.body.isSome=true∧fn.name≠ "runtime.NumGoroutine"
def dK (P:Program)(G:Mem)(ι:K7)(m:Mem)(w:World)(outs:List VM)(e:Ending)(w':World):Prop:=
 (∃v,e=.returned v∧iD P G ι m w outs v w')∨
  ∃r∈outs,∃x ι',r.v=.dD x∧Step P G ι m w ι' r.m w'∧x.lt (r.m.nm ι')∧e=.panicked [{v:=o8 ι' x,recovered:=false}]
def lZ (P:Program)(ρ:Operand->Value)(o:Oper)(w:World)(R:Ending->World->Prop):Prop:=
 match (execOp ρ o).run P w with
 | .ok (.value v) w'=>R (.returned v) w'
 | .ok .skip w'=>R (.returned undef) w'
 | .ok (.enter f args) w'=>CallsIn Fence.wide 0 P f args w' R
 | .ok (.round l f tmps assign body) w'=>RoundIn Fence.wide 0 P l f tmps assign body w' R
 | .halt (.panic v) w'=>R (.panicked [{v,recovered:=false}]) w'
 | _=>False
theorem dS {d:Operand->Value}{o:Oper}{a:List VM}(h:Does P d o w (iD P G ι m w a)):lZ P d o w (dK P G ι m w a):=by
 unfold Does at h;unfold lZ;generalize (execOp d o).run P w=res at h;cases res with
 | halt=>exact h.elim
 | ok x w'=>
  cases x with
  | value v=>exact .inl ⟨_,rfl,h⟩
  | skip=>exact .inl ⟨_,rfl,h⟩
  | enter f args=>exact CallsIn.mono h λe c b=>.inl b
  | round l f tmps assign body=>exact RoundIn.mono h λe c b=>.inl b
  | _=>exact h.elim
theorem RQ {a:Operand->Value}{o:Oper}{R:Value->World->Prop}(h:Does P a o w R):lZ P a o w (λe w'=>∃v,e=.returned v∧R v w'):=by
 unfold Does at h;unfold lZ;generalize (execOp a o).run P w=res at h;cases res with
 | halt=>exact h.elim
 | ok x w'=>
  cases x with
  | value v=>exact⟨_,rfl,h⟩
  | skip=>exact⟨_,rfl,h⟩
  | enter f args=>exact h
  | round l f tmps assign body=>exact h
  | _=>exact h.elim
structure rZ (P:Program)(G:Mem)(cf:H8):Prop where
 func:∀{f:FuncId} {args:List d9} {m:Mem} {outs:List VM},cf (.func f) args m=some outs->ae8 P f∧∀{ι:K7} {w:World},RM P G ι m w.heap->dI (m.nm ι) args->
  CallsIn Fence.wide 0 P f (A8 ι args).toArray w (dK P G ι m w outs)
 yield:∀{l:Nat} {args:List d9} {m:Mem} {outs:List VM},cf (.yield l) args m=some outs->∀{ι:K7} {w:World},RM P G ι m w.heap->dI (m.nm ι) args->
  ∃L:Loop,w.heap[(ι l).b]?=some (.loop L)∧args.length=L.params.size∧
   RoundIn Fence.wide 0 P (ι l).b L.fn ((L.params.zip (A8 ι args).toArray).foldl (λt (p,v)=>t.setIfInBounds p v) L.tmps) L.assign L.body w (dK P G ι m w outs)
 other:∀{fn:Fn} {args:List d9} {m:Mem} {outs:List VM},cf fn args m=some outs->(∃f,fn=.func f)∨∃l,fn=.yield l
theorem oJ {f:FuncId}(h:ae8 P f)(args:Array Value)(w:World):(callFunc f args).run P w=.ok (.enter f args) w:=by
 obtain⟨b,d,a,e⟩:=h;cases hb:b.body with
 | none=>rw [hb] at a;cases a
 | some c=>simp [callFunc,d,e,hb]
theorem lF (ι:K7)(l r:List d9):A8 ι (l++r)=A8 ι l++A8 ι r:=by simp [dJ]
theorem jZ {n:Nm}{l r:List d9}(h:dI n l)(h':dI n r):dI n (l++r):=eH.2 λv a=>(O4.1 a).elim (U5 h) (U5 h')
theorem MQ (s:St P ι (m.nm ι) slots done ls env a.tmps){b:Array Operand}{os:List V9}(h:kI P slots done b.toList=some os):
  b.map a.eval=(A8 ι (evs (iH os) ls env)).toArray∧dI (m.nm ι) (evs (iH os) ls env):=by
 obtain⟨c,d⟩:=mK s h;refine⟨?_,d⟩;rw [← c,← aA6,adA]
theorem RU {cf:H8}(h:rZ P G cf)(s:St P ι (m.nm ι) slots done ls env a.tmps)(p:RM P G ι m w.heap){c:Call}{f:FuncId}{e:List V9}(l:c.callee=.value (.func f))
  (g:kI P slots done c.args.toList=some e) {outs:List VM} (i:vJ (.call f e) cf ls env m=some outs):
  ∀o:Oper,o.op=.call c->lZ P a.eval o w (dK P G ι m w outs):=by
 intro o q;obtain⟨j,k⟩:=MQ s g;have i:cf (.func f) (evs (iH e) ls env) m=some outs:=i;obtain⟨n,b⟩:=h.func i;have d:(execOp a.eval o).run P w=.ok (.enter f (A8 ι (evs (iH e) ls env)).toArray) w:=by simp [execOp,q,resolve,l,Act.eval,Deferred.ofValue,invoke,j,oJ n]
 unfold lZ;rw [d];exact b p k
theorem Py {cf:H8}(j:rZ P G cf)(s:St P ι (m.nm ι) slots done ls env a.tmps)(F:RM P G ι m w.heap){c:Call}{f:Operand}{q:V9}{e:List V9}(E:c.callee=.value f)
  (z:V5 P slots done f=some q) (u:kI P slots done c.args.toList=some e) {outs:List VM} (O:vJ (.callv q e) cf ls env m=some outs):
  ∀o:Oper,o.op=.call c->lZ P a.eval o w (dK P G ι m w outs):=by
 intro o H;obtain⟨A,B⟩:=MQ s u;obtain⟨n,C⟩:=D9 s z;obtain⟨D,x,y,r,h⟩:=Mx O;have r:H9 q ls env=.func D x y:=r;rw [r] at n C;obtain⟨_,I,k⟩:=C;cases D with
 | func g=>
  have h:cf (.func g) (bU x (bU (evs (iH e) ls env) y)) m=some outs:=h;rw [U9,U9] at h;obtain⟨N,i⟩:=j.func h;have d:(execOp a.eval o).run P w=.ok (.enter g (A8 ι (x++(evs (iH e) ls env++y))).toArray) w:=by simp [execOp,H,resolve,E,n,o8,jY,Deferred.ofValue,invoke,A,oJ N,lF]
  unfold lZ;rw [d];exact i F (jZ I (jZ B k))
 | yield l=>
  have h:cf (.yield l) (bU x (evs (iH e) ls env)) m=some outs:=h;rw [U9] at h;obtain⟨L,J,K,M⟩:=j.yield h F (jZ I B);have d:(execOp a.eval o).run P w=.ok (.round (ι l).b L.fn ((L.params.zip (A8 ι (x++evs (iH e) ls env)).toArray).foldl (λt (p,v)=>t.setIfInBounds p v) L.tmps) L.assign L.body) w:=by have k:=run_yield (P:=P) (args:=(A8 ι (x++evs (iH e) ls env)).toArray) J (by simpa using K);rw [lF,← List.append_toArray] at k ⊢;simp only [execOp,H,resolve,E,n,o8,jY,Deferred.ofValue,invoke,A,M0,adg,su,k]
  unfold lZ;rw [d];exact M
 | method=>cases h
 | methodOf=>cases h
 | via=>cases h
theorem Pz (s:St P ι (m.nm ι) slots done ls env a.tmps)(g:RM P G ι m w.heap){x:Operand}{d:V9}(i:V5 P slots done x=some d){cf:H8}{outs:List VM}(b:vJ (.panic d) cf ls env m=some outs):
  ∀o:Oper,o.op=.panic x->lZ P a.eval o w (dK P G ι m w outs):=by
 intro o h;obtain⟨e,f⟩:=D9 s i;have b:adW (H9 d ls env) m=some outs:=b;generalize H9 d ls env=v at *;cases v with
 | iface t y=>
  have b:some [(⟨.dD (.iface t y),m⟩:VM)]=some outs:=b;cases b;have c:(execOp a.eval o).run P w=.halt (.panic (o8 ι (.iface t y))) w:=by simp [execOp,h,e,o8,Instr.panic,goPanic]
  unfold lZ;rw [c];exact .inr ⟨_,ql.2 rfl,_,ι,rfl,Step.refl g,f,rfl⟩
 | _=>cases b
theorem Ep {cf:H8}(g:rZ P G cf)(s:St P ι (m.nm ι) slots done ls env a.tmps)(d:RM P G ι m w.heap){j:Op}{i:Xx}(h:jc P slots done j=some (.e i)){f:List VM}(c:vJ i cf ls env m=some f):
  ∀o:Oper,o.op=j->lZ P a.eval o w (dK P G ι m w f):=by
 cases Cg h with
 | store h1 h2 h3=>exact λo b=>dS (Pn s d h1 h2 h3 c o b)
 | mapUpdate h1 h2 h3 h4 h5=>exact λo b=>dS (Co s d h1 h2 h3 h4 h5 c o (.inl b))
 | insert h1 h2 h3 h4 h5=>exact λo b=>dS (Co s d h1 h2 h3 h4 h5 c o (.inr b))
 | range h1 h2=>exact λo b=>dS (Pp s d h1 h2 c o b)
 | next h1=>exact λo b=>dS (RO s d h1 c o b)
 | app h1 h2 h3 h4 h5 h6 h7 h8 h9 h10=>exact λo b=>dS (Wi s d h2 h3 h4 h5 h1 h6 h7 h8 h9 h10 (by rw [← ae7];exact c) o b)
 | copy h1 h2 h3 h4 h5 h6 h7=>exact λo b=>dS (RP s d h1 h2 h3 h4 h5 h6 h7 c o b)
 | clear h1 h2 h3 h4 h5 h6=>exact λo b=>dS (Pq s d h1 h2 h3 h4 h5 h6 c o b)
 | call h1 h2 h3 h4 h5=>exact RU g s d h1 h5 c
 | callv h1 h2 h3=>exact Py g s d h1 h2 h3 c
 | panic h1=>exact Pz s d h1 c
 | defer=>cases c
 | recover=>cases c
end
section
variable {f:V9->V9}{ls ls':List d9}{env env':T d9}
def Sm (f:V9->V9)(ls:List d9)(env:T d9)(ls':List d9)(env':T d9)(x:V9):Prop:=H9 (f x) ls' env'=H9 x ls env
theorem tK {l:List V9}(h:∀x∈l,Sm f ls env ls' env' x):evs (iH (l.map f)) ls' env'=evs (iH l) ls env:=by rw [evs_eq',evs_eq'];rw [aCq];exact List.map_congr_left h
where
 evs_eq' {l:List V9} {ls:List d9} {env:T d9}:evs (iH l) ls env=l.map λx=>H9 x ls env:=by
  induction l with
  | nil=>rfl
  | cons x l ih=>show H9 x ls env::evs (iH l) ls env=_;rw [ih];rfl
theorem KM {ps:List (Nat×Nat×V9)}(h:∀x∈ps.map (·.2.2),Sm f ls env ls' env' x)(cs:List d9):
  lay (Eb (ps.map λp=>(p.1,p.2.1,f p.2.2))) ls' env' cs=lay (Eb ps) ls env cs:=by
 induction ps generalizing cs with
 | nil=>rfl
 | cons p ps ih=>
  have a:H9 (f p.2.2) ls' env'=H9 p.2.2 ls env:=h _ (by simp);show bi (Nat.beq (len' (H9 (f p.2.2) ls' env').cells) p.2.1) (bi (Nat.ble (Nat.add p.1 p.2.1) (len' cs)) (lay (Eb (ps.map λp=>(p.1,p.2.1,f p.2.2))) ls' env' (nI p.1 (H9 (f p.2.2) ls' env').cells cs)) none) none =
   bi (Nat.beq (len' (H9 p.2.2 ls env).cells) p.2.1) (bi (Nat.ble (Nat.add p.1 p.2.1) (len' cs)) (lay (Eb ps) ls env (nI p.1 (H9 p.2.2 ls env).cells cs)) none) none
  rw [a,ih (λx b=>h x (adh _ b))]
theorem jB {b:Type}{o:Option V9}(h:∀x∈o.toList,Sm f ls env ls' env' x)(d:Nat)(k:Nat->Option b):iA (mq (o.map f)) d ls' env' k=iA (mq o) d ls env k:=by
 cases o with
 | none=>rfl
 | some x=>have a:H9 (f x) ls' env'=H9 x ls env:=h x (by simp);show iR (H9 (f x) ls' env') k=iR (H9 x ls env) k;rw [a]
theorem KN {o:XQ}(h:∀x∈jh o,Sm f ls env ls' env' x):oQ (mF f o) ls' env'=oQ o ls env:=by
 have e:∀x∈jh o,H9 (f x) ls' env'=H9 x ls env:=h;cases o with
 | build z ps=>show ob (lay (Eb (ps.map λp=>(p.1,p.2.1,f p.2.2))) ls' env' z) _=ob (lay (Eb ps) ls env z) _;rw [KM h]
 | mkFunc fn a b=>show some (d9.func fn (evs (iH (a.map f)) ls' env') (evs (iH (b.map f)) ls' env'))=some (d9.func fn (evs (iH a) ls env) (evs (iH b) ls env));rw [tK λx l=>h x (adK _ l),tK λx l=>h x (adO _ l)]
 | slStr x lo hi=>have d:=e x (by simp [jh]);have g:∀y∈lo.toList,Sm f ls env ls' env' y:=λy j=>h y (adh _ (adK _ j));have m:∀y∈hi.toList,Sm f ls env ls' env' y:=λy j=>h y (adh _ (adO _ j));simp only [mF,oQ,nT,d,jB g,jB m]
 | slArr es n x lo hi=>have d:=e x (by simp [jh]);have g:∀y∈lo.toList,Sm f ls env ls' env' y:=λy j=>h y (adh _ (adK _ j));have m:∀y∈hi.toList,Sm f ls env ls' env' y:=λy j=>h y (adh _ (adO _ j));simp only [mF,oQ,rM,d,jB g,jB m]
 | mm mx x xs=>show OE mx (evs (iH (xs.map f)) ls' env') (H9 (f x) ls' env')=OE mx (evs (iH xs) ls env) (H9 x ls env);rw [tK λx l=>h x (adh _ l),e x (by simp [jh])]
 | ib op x y=>have d:=e x (by simp [jh]);have g:=e y (by simp [jh]);cases op<;>simp only [mF,oQ,BL,GU,GV,d,g]
 | eq neg k x y=>have d:=e x (by simp [jh]);have g:=e y (by simp [jh]);cases neg<;>simp only [mF,oQ,EZ,Uz,d,g]
 | fld off size x=>have d:=e x (by simp [jh]);cases size<;>simp only [mF,oQ,wC,wD,d]
 | iArr es n size x i=>have d:=e x (by simp [jh]);have g:=e i (by simp [jh]);cases size<;>simp only [mF,oQ,XW,rO,d,g]
 | pick a b c=>simp only [mF,oQ,aB,e a (by simp [jh]),e b (by simp [jh]),e c (by simp [jh])]
 | iAddr es x i=>simp only [mF,oQ,nU,e x (by simp [jh]),e i (by simp [jh])]
 | iAddrArr es n x i=>simp only [mF,oQ,gD,e x (by simp [jh]),e i (by simp [jh])]
 | iStr x i=>simp only [mF,oQ,vI,e x (by simp [jh]),e i (by simp [jh])]
 | mov x=>simp only [mF,oQ,dG,e x (by simp [jh])]
 | nilCheck x=>simp only [mF,oQ,gB,e x (by simp [jh])]
 | not x=>simp only [mF,oQ,Ea,e x (by simp [jh])]
 | neg x=>simp only [mF,oQ,GX,e x (by simp [jh])]
 | conv k x=>simp only [mF,oQ,wB,e x (by simp [jh])]
 | mkIface t x=>simp only [mF,oQ,pK,e x (by simp [jh])]
 | fAddr o x=>simp only [mF,oQ,G8,e x (by simp [jh])]
 | ext x i=>simp only [mF,oQ,pExt,e x (by simp [jh])]
 | len x=>simp only [mF,oQ,Gf,e x (by simp [jh])]
 | lenS x=>simp only [mF,oQ,wE,e x (by simp [jh])]
 | cap x=>simp only [mF,oQ,GY,e x (by simp [jh])]
 | assert t z ok x=>simp only [mF,oQ,iZ,e x (by simp [jh])]
theorem KO {o:Rs}(h:∀x∈GH o,Sm f ls env ls' env' x)(m:Mem):wF (JU f o) ls' env' m=wF o ls env m:=by
 have e:∀x∈GH o,H9 (f x) ls' env'=H9 x ls env:=h;cases o with
 | load size x=>cases size<;>simp only [JU,wF,L9,U3,e x (by simp [GH])]
 | look k z ok x y=>simp only [JU,wF,jF,e x (by simp [GH]),e y (by simp [GH])]
 | lenM x=>simp only [JU,wF,agH,e x (by simp [GH])]
 | bytesStr x=>simp only [JU,wF,aN,e x (by simp [GH])]
 | entry x=>simp only [JU,wF,rP,e x (by simp [GH])]
theorem KP {o:VO}(h:∀x∈opsL o,Sm f ls env ls' env' x)(nid:Nat):Fa (OG f o) ls' env' nid=Fa o ls env nid:=by
 have e:∀x∈opsL o,H9 (f x) ls' env'=H9 x ls env:=h;cases o with
 | alloc z=>rfl
 | mkMap=>rfl
 | box x=>simp only [OG,Fa,pO,e x (by simp [opsL])]
 | buildSlice es len z ps=>show ob (lay (Eb (ps.map λp=>(p.1,p.2.1,f p.2.2))) ls' env' (P7 z len)) _=ob (lay (Eb ps) ls env (P7 z len)) _;rw [KM h]
 | mkSlice es b z l c=>simp only [OG,Fa,iI,e l (by simp [opsL]),e c (by simp [opsL])]
 | strBytes x=>simp only [OG,Fa,iO,e x (by simp [opsL])]
 | sl es x lo hi=>
  have a:=e x (by simp [opsL]);have d:∀y∈lo.toList,Sm f ls env ls' env' y:=λy i=>h y (adh _ (adK _ i));cases hi with
  | none=>show iA (mq (lo.map f)) 0 ls' env' (λl=>J5 nid es (H9 (f x) ls' env') l none)=iA (mq lo) 0 ls env (λl=>J5 nid es (H9 x ls env) l none);rw [jB d,a]
  | some y=>have g:=e y (by simp [opsL]);show iA (mq (lo.map f)) 0 ls' env' (λl=>iR (H9 (f y) ls' env') λh=>J5 nid es (H9 (f x) ls' env') l (some h))=iA (mq lo) 0 ls env (λl=>iR (H9 y ls env) λh=>J5 nid es (H9 x ls env) l (some h));rw [jB d,a,g]
theorem KQ {o:Xx}(h:∀x∈opsE o,Sm f ls env ls' env' x)(cf:H8)(m:Mem):vJ (Ec f o) cf ls' env' m=vJ o cf ls env m:=by
 have e:∀x∈opsE o,H9 (f x) ls' env'=H9 x ls env:=h;cases o with
 | store s a x=>simp only [Ec,vJ,gF,e a (by simp [opsE]),e x (by simp [opsE])]
 | mapSet k a b c=>simp only [Ec,vJ,kV,e a (by simp [opsE]),e b (by simp [opsE]),e c (by simp [opsE])]
 | range x=>simp only [Ec,vJ,rR,e x (by simp [opsE])]
 | next x=>simp only [Ec,vJ,zU,e x (by simp [opsE])]
 | app es zs z b s x=>cases zs<;>simp only [Ec,vJ,sQ,zV,e s (by simp [opsE]),e x (by simp [opsE])]
 | copy es d s=>simp only [Ec,vJ,wH,e d (by simp [opsE]),e s (by simp [opsE])]
 | clear z x=>simp only [Ec,vJ,pR,e x (by simp [opsE])]
 | call g as=>show cf (.func g) (evs (iH (as.map f)) ls' env') m=cf (.func g) (evs (iH as) ls env) m;rw [tK (l:=as) h]
 | callv g as=>simp only [Ec,vJ,pU,e g (by simp [opsE]),tK λx i=>h x (adh _ i)]
 | bad=>rfl
 | defer f as=>rfl
 | recover=>rfl
 | panic x=>simp only [Ec,vJ,mE,e x (by simp [opsE])]
end
section
variable {P:Program}{G:Mem}{ι:K7}{n:Nm}{m:Mem}{w:World}{slots:List Nat}{done:List (Option Nat)}{ls:List d9}{env:T d9}{a:Act}
def FR (r:Option Nat):Fence:={Fence.wide with round:=r}
theorem mP:o8 ι .undef=undef:=by simp only [o8];rfl
theorem Im {α b:Type}(f:α->Option (List b))(a:α)(l:List α):Ku f (a::l)=ob (f a) λx=>ob (Ku f l) λy=>some (x++y):=rfl
theorem Io {α β:Type}{f:α->Option (List β)}:∀{l:List α} {outs:List β},Ku f l=some outs->∀r∈l,∃os,f r=some os∧∀o∈os,o∈outs
 | [],_,_,r,hr=>by cases hr
 | a::l,outs,h,r,hr=>by rw [Im] at h;obtain⟨x,hx,h⟩:=D7 h;obtain⟨y,hy,h⟩:=D7 h;cases h;rcases O9.1 hr with rfl | hr;exact⟨x,hx,λo ho=>adK _ ho⟩;obtain⟨os,h1,h2⟩:=Io hy r hr;exact⟨os,h1,λo ho=>adO _ (h2 o ho)⟩
theorem dL {α d:Type}{x:Option (List α)}{f:α->Option (List d)}{outs:List d}(h:bnd x f=some outs):∃l,x=some l∧∀r∈l,∃os,f r=some os∧∀o∈os,o∈outs:=by
 cases x with
 | none=>cases h
 | some l=>
  refine⟨l,rfl,?_⟩;match l,h with
  | [],_=>intro r c;cases c
  | [a],h=>intro r c;obtain rfl:=ql.1 c;exact⟨outs,h,λo e=>e⟩
  | a::b::t,h=>exact Io (l:=a::b::t) h
def XF (cf:H8)(o:BJ)(ls:List d9)(env:T d9)(m:Mem):oF:=match o with
 | .p o=>ob (oQ o ls env) λv=>one v m
 | .r o=>ob (wF o ls env m) λv=>one v m
 | .a o=>ob (Fa o ls env m.nx) λr=>one r.1 (JR m r.2)
 | .e o=>vJ o cf ls env m
def evG (cf:H8)(g:Option (V9×Bool))(o:BJ)(ls:List d9)(env:T d9)(m:Mem):oF:=match g with
 | none=>XF cf o ls env m
 | some (x,w)=>bi (qD w (H9 x ls env)) (XF cf o ls env m) (one .undef m)
theorem Er {α b c:Type}(o:Option α)(g:α->b)(f:b->Option (List c)):bnd (ob o λa=>some [g a]) f=ob o λa=>f (g a):=by cases o<;>rfl
theorem RV {a c:Type}(b:Bool)(x y:Option (List a))(f:a->Option (List c)):bnd (bi b x y) f=bi b (bnd x f) (bnd y f):=by cases b<;>rfl
theorem Yu {α a:Type}(b:Bool)(x y:Option α)(f:α->Option a):ob (bi b x y) f=bi b (ob x f) (ob y f):=by cases b<;>rfl
def Ah:BJ->Bool
 | .e _=>true
 | _=>false
def PD (e:Bool)(d:Option Nat)(k:RC)(cf:H8)(ls:List d9)(env:T d9)(r:VM):Option (List EM):=
 bi e (fD r.v (λx=>some [⟨env,r.m,some x,[]⟩]) (k cf (r.v::ls) (iM d r.v env) r.m)) (k cf (r.v::ls) (iM d r.v env) r.m)
theorem Yv (o:BJ)(d:Option Nat)(g:Option (V9×Bool))(k:RC)(cf:H8)(ls:List d9)(env:T d9)(m:Mem):
  XC o d g k cf ls env m=bnd (evG cf g o ls env m) (PD (Ah o) d k cf ls env):=by
 cases o with
 | p o=>
  have h:XC (.p o) d g k cf ls env m=ob (Gh g (oQ o) ls env) (λv=>k cf (v::ls) (iM d v env) m):=by cases d<;>rfl
  rw [h];cases g with
  | none=>exact (Er (oQ o ls env) (λv=>(⟨v,m⟩:VM)) (λr=>k cf (r.v::ls) (iM d r.v env) r.m)).symm
  | some p=>obtain⟨x,b⟩:=p;show ob (bi (qD b (H9 x ls env)) (oQ o ls env) (some .undef)) _=bnd (bi (qD b (H9 x ls env)) (ob (oQ o ls env) λv=>some [⟨v,m⟩]) (one .undef m)) _;rw [RV,Yu,Er];rfl
 | r o=>
  have h:XC (.r o) d g k cf ls env m=ob (BM g (wF o) ls env m) (λv=>k cf (v::ls) (iM d v env) m):=by cases d<;>rfl
  rw [h];cases g with
  | none=>exact (Er (wF o ls env m) (λv=>(⟨v,m⟩:VM)) (λr=>k cf (r.v::ls) (iM d r.v env) r.m)).symm
  | some p=>obtain⟨x,b⟩:=p;show ob (bi (qD b (H9 x ls env)) (wF o ls env m) (some .undef)) _=bnd (bi (qD b (H9 x ls env)) (ob (wF o ls env m) λv=>some [⟨v,m⟩]) (one .undef m)) _;rw [RV,Yu,Er];rfl
 | a o=>
  have h:XC (.a o) d g k cf ls env m=ob (Rv g (Fa o) ls env m.nx) (λr=>k cf (r.1::ls) (iM d r.1 env) (JR m r.2)):=by cases d<;>rfl
  rw [h];cases g with
  | none=>exact (Er (Fa o ls env m.nx) (λr=>(⟨r.1,JR m r.2⟩:VM)) (λr=>k cf (r.v::ls) (iM d r.v env) r.m)).symm
  | some p=>obtain⟨x,b⟩:=p;show ob (bi (qD b (H9 x ls env)) (Fa o ls env m.nx) (some (.undef,none))) _=bnd (bi (qD b (H9 x ls env)) (ob (Fa o ls env m.nx) λr=>some [⟨r.1,JR m r.2⟩]) (one .undef m)) _;rw [RV,Yu,Er];rfl
 | e o=>
  have h:XC (.e o) d g k cf ls env m=bnd (Mq g (vJ o) cf ls env m) (PD true d k cf ls env):=by cases d<;>rfl
  rw [h];cases g with
  | none=>rfl
  | some p=>rfl
theorem Yw {o:BJ}{d:Option Nat}{g:Option (V9×Bool)}{k:RC}{cf:H8}{outs:List EM}(h:XC o d g k cf ls env m=some outs):
  ∃l,evG cf g o ls env m=some l∧∀r∈l,∃os,PD (Ah o) d k cf ls env r=some os∧∀o∈os,o∈outs:=by
 rw [Yv] at h;exact dL h
theorem UH {a:Type}{v:d9}{p:d9->a}{q:a}(h:v.lt n):fD v p q=q:=by cases v<;>first | rfl | exact h.elim
theorem ae9 {e:Bool}{d:Option Nat}{k:RC}{cf:H8}{r:VM}(h:r.v.lt n):PD e d k cf ls env r=k cf (r.v::ls) (iM d r.v env) r.m:=by
 cases e with
 | false=>rfl
 | true=>exact UH h
theorem AP {e:Op}{o:Oper}(f:o.op=e){v:d9}(d:RM P G ι m w.heap)(c:(execOp a.eval o).run P w=.ok (.value (o8 ι v)) w)(b:v.lt (m.nm ι)):
  Does P a.eval o w (iD P G ι m w [⟨v,m⟩]):=ak c ⟨_,ql.2 rfl,ι,Step.refl d,b,rfl⟩
theorem Yx {cf:H8}(A:rZ P G cf)(s:St P ι (m.nm ι) slots done ls env a.tmps)(f:RM P G ι m w.heap){C:Op}{u:BJ}(h:jc P slots done C=some u){k:List VM}(t:XF cf u ls env m=some k):
  ∀o:Oper,o.op=C->lZ P a.eval o w (dK P G ι m w k):=by
 intro o i;cases u with
 | p po=>obtain⟨v,n,q⟩:=D7 t;cases q;obtain⟨x,y⟩:=uJ s h n;exact dS (AP i f (y o i w) x)
 | r ro=>obtain⟨v,n,q⟩:=D7 t;cases q;obtain⟨x,y⟩:=uK s f (wW h) n;exact dS (AP i f (y o i) x)
 | a lo=>
  obtain⟨r,n,q⟩:=D7 t;cases q;have D:¬ (m.nm ι) m.nx:=λ⟨_,h3,_⟩=>amQ _ (Mem.N9 f.ok h3);have E:=uN s (λ_ _=>rfl) D (Ce h) n w;cases E with
  | none g hg=>exact dS (AP i f (hg o i w) g)
  | made l obj w' hmk=>rename_i v b;have c:=Laid.new f.ok f.limn b hmk.live;have d:∀j,m.has j->(ι.upd m.nx l) j=ι j:=λj B=>ι.upd_ne _ λh=>c.free (h▸B);obtain⟨z,g⟩:=hmk.blk ((m.new b).nm (ι.upd m.nx l)) (Mem.bA c.has d) c.self (by show ((ι.upd m.nx l) m.nx).cap=l.cap;rw [K7.V7]);exact dS (ak (hmk.run o i) ⟨_,ql.2 rfl,_,Step.lay f c hmk.grew hmk.loc hmk.spot z hmk.free,g,rfl⟩)
  | tail l hp z hg g=>rename_i v p;have c:=Laid.new f.ok f.limn (.tail p) rfl;have d:∀j,m.has j->(ι.upd m.nx l) j=ι j:=λj B=>ι.upd_ne _ λh=>c.free (h▸B);refine dS (ak (hg o i w) ⟨_,ql.2 rfl,_,Step.name f c rfl ⟨c.has p hp,?_⟩,g _ (Mem.bA c.has d) c.self (by show ((ι.upd m.nx l) m.nx).cap=l.cap;rw [K7.V7]),rfl⟩);rw [d p hp];exact z
 | e eo=>exact Ep A s f h t o i
theorem St.mono {ι':K7}{c:Nm}{tmps:Array Value}(s:St P ι n slots done ls env tmps)(hi:∀i,n i->ι' i=ι i)(a:n.le c):St P ι' c slots done ls env tmps where
 ls t k hk:=by obtain⟨v,d,b,e⟩:=s.ls t k hk;exact⟨v,d,d9.Y0 a v b,by rw [e,Z5 hi v b]⟩
 env:=s.env.mono hi a
 glob i hg:=by rw [hi i (s.gn i hg)];exact s.glob i hg
 gn g hg:=(a g (s.gn g hg)).1
theorem oK (t:Nat):∀(l:List (Option Nat)) (i j:Nat),jH t l (i+j)=(jH t l i).map (· + j)
 | [],i,j=>rfl
 | some x::l,i,j=>by
  simp only [jH];cases Nat.beq x t with
  | true=>simp
  | false=>simp only [cond_false];rw [show i+j+1=(i+1)+j from by omega];exact oK t l (i+1) j
 | none::l,i,j=>by simp only [jH];rw [show i+j+1=(i+1)+j from by omega];exact oK t l (i+1) j
def an3 (d:Option Tmp)(v:Value)(tmps:Array Value):Array Value:=match d with
 | some t=>tmps.setIfInBounds t v
 | none=>tmps
theorem St.put {tmps:Array Value}(s:St P ι n slots done ls env tmps)(d:Option Tmp)(h:∀t,d=some t->t<tmps.size){v:d9}(i:v.lt n):
  St P ι n slots (d::done) (v::ls) (iM (OO slots d) v env) (an3 d (o8 ι v) tmps) where
 ls t k hk:=by
  cases d with
  | none=>simp only [jH] at hk;rw [oK t done 0 1] at hk;obtain⟨g,a,rfl⟩:=ahr.1 hk;obtain⟨u,b,c,f⟩:=s.ls t g a;exact⟨u,by simpa using b,c,f⟩
  | some t0=>
   simp only [jH] at hk;cases hb:Nat.beq t0 t with
   | true=>rw [hb] at hk;cases hk;obtain rfl:=rW hb;exact⟨v,rfl,i,by show (tmps.setIfInBounds t0 (o8 ι v)).getD t0 undef=_;rw [bY _ _ _ _ (h t0 rfl),if_pos rfl]⟩
   | false=>rw [hb,cond_false,oK t done 0 1] at hk;obtain⟨g,a,rfl⟩:=ahr.1 hk;obtain⟨u,b,c,f⟩:=s.ls t g a;refine⟨u,by simpa using b,c,?_⟩;show (tmps.setIfInBounds t0 (o8 ι v)).getD t undef=_;rw [bY _ _ _ _ (h t0 rfl),if_neg (λe=>by rw [e] at hb;simp [adH] at hb)];exact f
 env:=s.env.put d i
 glob:=s.glob
 gn:=s.gn
theorem oL (a:Act)(d:Option Tmp)(v:Value):(a.put d v).tmps=an3 d v a.tmps∧(a.put d v).defers=a.defers:=by cases d<;>exact⟨rfl,rfl⟩
theorem jC (a:Act)(d:Option Tmp)(v:Value):(a.put d v).tmps.size=a.tmps.size:=by cases d<;>simp [Act.put]
def oM (ops:Array Oper)(done:List (Option Nat)):Option (Nat×Bool)->Option (V9×Bool)->Prop
 | none,g=>g=none
 | some (j,wt),g=>∃og d k,ops[j]?=some og∧og.dst=some d∧jH d done 0=some k∧g=some (.loc k,wt)
def vW (g:Option (V9×Bool))(ls:List d9)(env:T d9):Bool:=match g with
 | none=>true
 | some (x,wt)=>qD wt (H9 x ls env)
def bOf:Option Value->Option Bool
 | some (.bool b)=>some b
 | _=>none
theorem RX (ops:Array Oper)(tmps:Array Value)(j:Nat):yielded ops tmps j=bOf (((ops[j]?).bind (·.dst)).bind (tmps[·]?)):=by
 unfold yielded;generalize ((ops[j]?).bind (·.dst)).bind (tmps[·]?)=z;cases z with
 | none=>rfl
 | some v=>cases v<;>rfl
theorem Yy (a:Bool)(v:d9):(bOf (some (o8 ι v))==some a)=qD a v:=by
 cases v with
 | bool b=>simp only [o8,bOf,qD,Ef];cases b<;>cases a<;>rfl
 | _=>simp [o8,qD,bOf]
theorem oV {ops:Array Oper}{o:Oper}{g:Option (V9×Bool)}{tmps:Array Value}(s:St P ι n slots done ls env tmps)(b:oM ops done o.guard g):
  Region.wanted o (yielded ops tmps)=vW g ls env:=by
 unfold Region.wanted;cases hgd:o.guard with
 | none=>rw [hgd] at b;obtain rfl:g=none:=b;rfl
 | some p=>
  obtain⟨j,c⟩:=p;rw [hgd] at b;obtain⟨q,d,k,e,f,h,rfl⟩:=b;obtain⟨v,i,m,a⟩:=s.ls d k h;have l:H9 (.loc k) ls env=v:=by rw [Hu,i];rfl
  show (yielded ops tmps j==some c)=qD c (H9 (.loc k) ls env);rw [l,RX,e,W9,f,W9,← Yy (ι:=ι)];rw [M9] at a;cases ht:tmps[d]? with
  | none=>rw [ht] at a;have a:undef=o8 ι v:=a;rw [← a];rfl
  | some x=>rw [ht] at a;have a:x=o8 ι v:=a;rw [a]
theorem oN {r:Option Nat}{o:Oper}{a:Act}{w:World}{b:Act->World->Prop}{Q:Exit->Act->World->Prop}(j:∀c,o.op≠.defer c){R:Ending->World->Prop}(h:lZ P a.eval o w R)
  (g:∀v w',R (.returned v) w'->b (a.put o.dst v) w') (hp:∀c w',R (.panicked c) w'->Q (.panic c) a w') (m:∀w',¬ R .outgrown w'):o.wpIn (FR r) 0 P a w b Q:=by
 refine⟨λ_ _=>trivial,?_⟩;rw [Oper.semAt_eq _ _ _ j];unfold lZ at h;generalize (execOp a.eval o).run P w=res at h;cases res with
 | halt x w'=>
  cases x with
  | panic v=>exact hp _ _ h
  | _=>exact h.elim
 | ok x w'=>
  cases x with
  | value v=>exact g _ _ h
  | skip=>exact g _ _ h
  | enter f args=>
   refine⟨(λi=>by cases i),CallsIn.mono (F:=FR r) h ?_⟩;intro e k d;cases e with
   | returned v=>exact g _ _ d
   | panicked c=>exact hp _ _ d
   | outgrown=>exact absurd d (m _)
  | round l f tmps assign body=>
   refine⟨(λi=>by cases i),RoundIn.mono (F:=FR r) h ?_⟩;intro e k d;cases e with
   | returned v=>exact g _ _ d
   | panicked c=>exact hp _ _ d
   | outgrown=>exact absurd d (m _)
  | _=>exact h.elim
theorem jL {r:Option Nat}{o:Oper}{a:Act}{w:World}{b:Act->World->Prop}{Q:Exit->Act->World->Prop}(d:∀c,o.op≠.defer c){R:Value->World->Prop}(h:Does P a.eval o w R)
  (f:∀v w',R v w'->b (a.put o.dst v) w'):o.wpIn (FR r) 0 P a w b Q:=by
 refine oN d (RQ h) (λv w' h=>?_) (λc w' h=>?_) (λw' h=>?_);obtain⟨u,e,h⟩:=h;cases e;exact f _ _ h;obtain⟨u,e,_⟩:=h;cases e;obtain⟨u,e,_⟩:=h;cases e
theorem tL {d:Op}{b:BJ}(h:jc P slots done d=some b)(a:∀f as,b≠.e (.defer f as)):∀c,d≠.defer c:=by rintro c rfl;simp only [jc] at h;split at h;obtain⟨_,_,h⟩:=bind_eq h;obtain⟨_,_,h⟩:=bind_eq h;cases h;exact a _ _ rfl;cases h
theorem sj {a:List VM}{w':World}:¬ dK P G ι m w a .outgrown w':=by rintro (⟨v,h,_⟩ | ⟨r,_,x,ι',_,_,_,h⟩)<;>cases h
theorem Ip {d:Op}{b:BJ}{cf:H8}{a:List VM}(h:jc P slots done d=some b)(e:XF cf b ls env m=some a):∀c,d≠.defer c:=by rintro c rfl;simp only [jc] at h;split at h;obtain⟨_,_,h⟩:=bind_eq h;obtain⟨_,_,h⟩:=bind_eq h;cases h;cases e;cases h
theorem zn {ops:Array Oper}{i:Nat}{x:Inst}{d:Option Nat}(h:OP P slots done ops i=some (x,d)):
  ∃o,ops[i]?=some o∧d=o.dst∧x.op=pY P slots done o.op∧x.dst=OO slots o.dst∧oM ops done o.guard x.guard:=by
 obtain⟨o,a,h⟩:=bind_eq h;dsimp only at h;cases hg:o.guard with
 | none=>rw [hg] at h;dsimp only at h;cases h;exact⟨o,a,rfl,rfl,rfl,by rw [hg];rfl⟩
 | some p=>obtain⟨j,l⟩:=p;rw [hg] at h;dsimp only at h;obtain⟨g,c,h⟩:=bind_eq h;obtain⟨b,e,h⟩:=bind_eq h;obtain⟨k,f,h⟩:=bind_eq h;cases h;exact⟨o,a,rfl,rfl,rfl,by rw [hg];exact⟨g,b,k,c,e,f,rfl⟩⟩
theorem aea {r:Option Nat}{cf:H8}(i:rZ P G cf)(s:St P ι (m.nm ι) slots done ls env a.tmps)(l:RM P G ι m w.heap){ops:Array Oper}{o:Oper}{g:Option (V9×Bool)}(q:oM ops done o.guard g)
  {outs:List VM} (b:evG cf g (pY P slots done o.op) ls env m=some outs) {K:Act->World->Prop} {Q:Exit->Act->World->Prop}
  (k:∀v∈outs,∀ι' w',Step P G ι m w ι' v.m w'->v.v.lt (v.m.nm ι')->K (a.put o.dst (o8 ι' v.v)) w')
  (n:∀v∈outs,∀x ι' w',v.v=.dD x->Step P G ι m w ι' v.m w'->x.lt (v.m.nm ι')->Q (.panic [{v:=o8 ι' x,recovered:=false}]) a w'):
  if Region.wanted o (yielded ops a.tmps) then o.wpIn (FR r) 0 P a w K Q else (∀f,o.about P w a.eval=some f->(FR r).fn f)∧K (a.put o.dst undef) w:=by
 rw [oV s q];have d:XF cf (pY P slots done o.op) ls env m=some outs->o.wpIn (FR r) 0 P a w K Q:=by
  intro b;cases hc:jc P slots done o.op with
  | none=>simp only [pY,hc] at b;cases b
  | some ao=>simp only [pY,hc] at b;refine oN (Ip hc b) (Yx i s l hc b o rfl) ?_ ?_ λ_=>sj;rintro v w' (⟨u,hu,x,hx,ι',h1,h2,rfl⟩ | ⟨_,_,_,_,_,_,_,h⟩);cases hu;exact k x hx ι' w' h1 h2;cases h;rintro c w' (⟨u,hu,_⟩ | ⟨x,hx,y,ι',h1,h2,h3,h4⟩);cases hu;cases h4;exact n x hx y ι' w' h1 h2 h3
 cases g with
 | none=>exact d b
 | some p=>
  obtain⟨x,e⟩:=p;have b:bi (qD e (H9 x ls env)) (XF cf (pY P slots done o.op) ls env m) (one .undef m)=some outs:=b;have j:vW (some (x,e)) ls env=qD e (H9 x ls env):=rfl;rw [j];cases hb:qD e (H9 x ls env) with
  | true=>rw [hb] at b;simp only [if_true];exact d b
  | false=>rw [hb] at b;cases b;simp only [ady,if_false];refine⟨λ_ _=>trivial,?_⟩;have:=k ⟨.undef,m⟩ (ql.2 rfl) ι w (Step.refl l) trivial;rw [mP] at this;exact this
theorem qY {ops:Array Oper}{i:Nat}{rest:List Nat}{a:List Inst}(h:kY P slots ops done (i::rest)=some a):
  ∃x d l,OP P slots done ops i=some (x,d)∧kY P slots ops (d::done) rest=some l∧a=x::l:=by
 simp only [kY] at h;split at h;split at h;cases h;exact⟨_,_,_,by assumption,by assumption,rfl⟩;cases h;cases h
def vN (ι:K7):Mk->Deferred
 | .c id=>{target:=.collected (ι id).b,args:=#[]}
 | .d (.func fn a b) args=>{target:=.fn (jY ι fn) (A8 ι b).toArray,args:=(A8 ι a).toArray++(A8 ι args).toArray}
 | .d _ _=>{target:=.nil,args:=#[]}
def Wj (ι:K7)(m:Mem):Mk->Prop
 | .c id=>m.has id∧m.lim<=id
 | .d v args=>(∃fn a b,v=.func fn a b)∧v.lt (m.nm ι)∧dI (m.nm ι) args
def jf (ι:K7)(m:Mem)(k:List Mk)(ds:List Deferred):Prop:=ds=k.map (vN ι)∧∀x∈k,Wj ι m x
theorem Wj.step {ι':K7}{k:Mem}{w':World}{x:Mk}(h:Wj ι m x)(f:Step P G ι m w ι' k w'):Wj ι' k x∧vN ι' x=vN ι x:=by
 cases x with
 | c id=>exact⟨⟨f.has id h.1,by rw [f.lim];exact h.2⟩,by simp only [vN,f.ext id h.1]⟩
 | d v args=>obtain⟨⟨r,a,b,rfl⟩,i,j⟩:=h;have e:=f.o8 i;have g:=Mem.bA f.has f.ext;refine⟨⟨⟨r,a,b,rfl⟩,d9.Y0 g _ i,gK g _ j⟩,?_⟩;have l:=iq (n:=m.nm ι) f.ext args j;simp only [o8,Value.func.injEq] at e;obtain⟨o,p,q⟩:=e;simp only [vN,l,o,p,q]
theorem jf.step {ι':K7}{c:Mem}{w':World}{k:List Mk}{ds:List Deferred}(h:jf ι m k ds)(a:Step P G ι m w ι' c w'):jf ι' c k ds:=by refine⟨?_,λx b=>((h.2 x b).step a).1⟩;rw [h.1];exact List.map_congr_left λx b=>((h.2 x b).step a).2.symm
def Yz (ι:K7)(e:EM):Exit:=match e.px with
 | none=>.normal
 | some x=>.panic [{v:=o8 ι x,recovered:=false}]
theorem AQ {i:Inst}{l:List Inst}(h:l≠[]∨qM i=none):iK (i::l)=XC i.op i.dst i.guard (iK l):=by
 cases l with
 | cons=>rfl
 | nil=>rcases h with h | h;exact absurd rfl h;show He i=XC i.op i.dst i.guard aG;unfold He;rw [h]
theorem ajF {r:Option Nat}(L:r=none)(s:St P ι (m.nm ι) slots done ls env a.tmps)(K:RM P G ι m w.heap){ops:Array Oper}{o:Oper}{x:Inst}(h:x.op=pY P slots done o.op)(u:x.dst=OO slots o.dst)(A:oM ops done o.guard x.guard)
  {f:V9} {i:List V9} (n:qM x=some (f,i)) {b:List EM} {cf:H8} (C:sS (H9 f) (iH i) cf ls env m=some b) {Q:Exit->Act->World->Prop}
  (J:∀e∈b,∀ι' w' a',Step P G ι m w ι' e.m w'->aW ι' (e.m.nm ι') slots e.env a'.tmps->a'.defers=e.mks.map (vN ι')++a.defers->(∀y∈e.mks,Wj ι' e.m y)->a'.tmps.size=a.tmps.size->(∀y,e.px=some y->y.lt (e.m.nm ι'))->Q (Yz ι' e) a' w'):
  if Region.wanted o (yielded ops a.tmps) then o.wpIn (FR r) 0 P a w (Q .normal) Q else (∀f,o.about P w a.eval=some f->(FR r).fn f)∧Q .normal (a.put o.dst undef) w:=by
 subst L;obtain⟨op,dst,guard⟩:=x;have h:op=pY P slots done o.op:=h;have u:dst=OO slots o.dst:=u;have A:oM ops done o.guard guard:=A;have g:op=.e (.defer f i)∧guard=none∧dst=none:=by unfold qM at n;split at n;rename_i p q t;cases n;exact⟨p,q,t⟩;cases n
 obtain⟨rfl,rfl,rfl⟩:=g;have M:Region.wanted o (yielded ops a.tmps)=true:=by rw [oV s A];rfl
 rw [M,if_pos rfl];have l:jc P slots done o.op=some (.e (.defer f i)):=by unfold pY at h;split at h;rename_i R B;rw [B,← h];cases h
 cases hop:o.op with
 | defer c=>
  rw [hop] at l;cases Cg l with
  | defer p q t=>
   obtain⟨D,E⟩:=D9 s q;obtain⟨F,H⟩:=MQ s t;obtain⟨fn,x,y,I,C⟩:=Mx C;cases C;rw [I] at D E;refine⟨λ_ _=>trivial,?_⟩;have k:(Oper.semAt none a.eval o).run P w=.ok (.defer (vN ι (.d (.func fn x y) (evs (iH i) ls env)))) w:=by rw [Oper.semAt_none];simp [execOp,hop,resolve,p,D,F,o8,Deferred.ofValue,vN]
   show o.uponIn (FR none) 0 P a (Q .normal) Q ((Oper.semAt none a.eval o).run P w);rw [k];have j:=s.env.put o.dst (v:=.undef) trivial;rw [← u,mP] at j;refine J _ (ql.2 rfl) ι w _ (Step.refl K) ?_ ?_ ?_ ?_ (λy N=>by cases N);rw [(oL _ o.dst undef).1];exact j;rw [(oL _ o.dst undef).2];rfl;intro z O;obtain rfl:=ql.1 O;exact⟨⟨_,_,_,rfl⟩,E,H⟩;rw [jC]
 | _=>rw [hop] at l;cases Cg l
theorem Wl {r:Option Nat}{cf:H8}(J:rZ P G cf){ops:Array Oper}{nt:Nat}(a3:∀(i:Nat)(o:Oper)(t:Tmp),ops[i]?=some o->o.dst=some t->t<nt){Q:Exit->Act->World->Prop}:
  ∀(l:List Nat) (done:List (Option Nat)) (insts:List Inst),kY P slots ops done l=some insts->(jW insts=true->r=none)->∀(ls:List d9) (env:T d9) (m:Mem) (ι:K7) (w:World) (a:Act) (outs:List EM),
   RM P G ι m w.heap->nt<=a.tmps.size->St P ι (m.nm ι) slots done ls env a.tmps->iK insts cf ls env m=some outs->
   (∀e∈outs,∀ι' w' a',Step P G ι m w ι' e.m w'->aW ι' (e.m.nm ι') slots e.env a'.tmps->a'.defers=e.mks.map (vN ι')++a.defers->(∀y∈e.mks,Wj ι' e.m y)->a'.tmps.size=a.tmps.size->(∀y,e.px=some y->y.lt (e.m.nm ι'))->Q (Yz ι' e) a' w')->
   wpOpsIn (FR r) 0 P ops Q l a w:=by
 intro l;induction l with
 | nil=>intro done insts E K ls env m ι w a outs F M s B S;simp only [kY,l7] at E;subst E;have B:some [EM.mk env m none []]=some outs:=B;cases B;exact S _ (ql.2 rfl) ι w a (Step.refl F) s.env rfl (λy W=>by cases W) rfl (λy W=>by cases W)
 | cons i rest ih=>
  intro done insts E K ls env m ι w a outs F M s B S;obtain⟨x,d,l,hx,hl,rfl⟩:=qY E;obtain⟨o,h1,rfl,I,Z,h4⟩:=zn hx;simp only [wpOpsIn,h1];by_cases hdd:l≠[]∨qM x=none;rw [AQ hdd] at B;obtain⟨vs,c,hk⟩:=Yw B;rw [I] at c;refine aea J s F h4 c ?_ ?_;intro v g ι' w' A k;obtain⟨os,C,D⟩:=hk v g;rw [ae9 k,Z] at C;have s':=(St.mono (n:=m.nm ι) s A.ext (Mem.bA A.has A.ext)).put o.dst (λt ht=>nA (a3 i o t h1 ht) M) k;refine ih _ _ hl (λh=>K (by simp [jW,h])) _ _ _ ι' w' (a.put o.dst (o8 ι' v.v)) os A.rm (by rw [jC];exact M) (by rw [(oL a o.dst (o8 ι' v.v)).1];exact s') C ?_;intro e he Y a7 a0 V a2 U L a5 a4;exact S e (D e he) Y a7 a0 (A.trans V) a2 (by rw [U,(oL a o.dst _).2]) L (a5.trans (jC a o.dst _)) a4;intro v g y ι' w' b A k;obtain⟨os,C,D⟩:=hk v g;have hE:Ah x.op=true:=by
   cases hb:Ah x.op with
   | true=>rfl
   | false=>exfalso;exact not_pan J s F h4 I hb c g b
  have C:some [(⟨env,v.m,some y,[]⟩:EM)]=some os:=by
   have:PD (Ah x.op) x.dst (iK l) cf ls env v=some [⟨env,v.m,some y,[]⟩]:=by unfold PD;rw [hE,b];rfl
   rw [← C,this]
  cases C;exact S _ (D _ (ql.2 rfl)) ι' w' a A (A.env s.env) rfl (λy W=>by cases W) rfl (λz hz=>by cases hz;exact k);simp only [not_or,Decidable.not_not] at hdd;obtain⟨rfl,a1⟩:=hdd;cases hdo:qM x with
  | none=>exact absurd hdo a1
  | some p=>
   obtain⟨f,as⟩:=p;have hr:r=none:=K (by simp [jW,hdo]);have B:sS (H9 f) (iH as) cf ls env m=some outs:=by have:iK [x]=sS (H9 f) (iH as):=(by show He x=_;unfold He;rw [hdo]);rw [← this];exact B
   have N:rest=[]:=by
    cases rest with
    | nil=>rfl
    | cons j rest=>obtain⟨_,_,_,_,_,h⟩:=qY hl;cases h
   subst N;exact ajF hr s F I Z h4 hdo B S
where
 not_pan {P:Program} {G:Mem} {ι:K7} {m:Mem} {w:World} {slots:List Nat} {done:List (Option Nat)} {ls:List d9} {env:T d9} {a:Act} {cf:H8} (J:rZ P G cf) (s:St P ι (m.nm ι) slots done ls env a.tmps) (F:RM P G ι m w.heap) {ops:Array Oper} {o:Oper} {x:Inst}
   (h4:oM ops done o.guard x.guard) (I:x.op=pY P slots done o.op) (hb:Ah x.op=false) {vs:List VM} (c:evG cf x.guard (pY P slots done o.op) ls env m=some vs) {v:VM} (g:v∈vs) {y:d9} (b:v.v=.dD y):False:=by
  rw [← I] at c;have X:XF cf x.op ls env m=some vs->False:=by
   intro B;cases E:jc P slots done o.op with
   | none=>rw [I] at hb;simp [pY,E,Ah] at hb
   | some ao=>
    have a6:x.op=ao:=(by rw [I];simp [pY,E]);rw [a6] at B hb;cases ao with
    | p po=>obtain⟨u,O,R⟩:=D7 B;cases R;obtain rfl:=ql.1 g;have:=(uJ s E O).1;have b:u=.dD y:=b;rw [b] at this;exact this
    | r ro=>obtain⟨u,O,R⟩:=D7 B;cases R;obtain rfl:=ql.1 g;have:=(uK s F (wW E) O).1;have b:u=.dD y:=b;rw [b] at this;exact this
    | a lo=>
     obtain⟨u,O,R⟩:=D7 B;cases R;obtain rfl:=ql.1 g;have H:u.1=.dD y:=b;clear g c B b;have b:=H;clear H;have hn:¬ (m.nm ι) m.nx:=λ⟨_,Z,_⟩=>amQ _ (Mem.N9 F.ok Z);have hs:=uN s (λ_ _=>rfl) hn (Ce E) O w;cases hs with
     | none k hg=>dsimp only at b;subst b;exact k
     | made l obj w' L=>have:=(L.blk ⟨λ_=>True,λi=>if i=m.nx then l.cap else (ι i).cap⟩ (λi hi=>⟨trivial,by show (if i=m.nx then l.cap else (ι i).cap)=(ι i).cap;rw [if_neg];rintro rfl;exact hn hi⟩) trivial (if_pos rfl)).2;dsimp only at b;subst b;exact this
     | tail l hp hbb hg k=>have:=k ⟨λ_=>True,λi=>if i=m.nx then l.cap else (ι i).cap⟩ (λi hi=>⟨trivial,by show (if i=m.nx then l.cap else (ι i).cap)=(ι i).cap;rw [if_neg];rintro rfl;exact hn hi⟩) trivial (if_pos rfl);dsimp only at b;subst b;exact this
    | e eo=>simp [Ah] at hb
  cases hg:x.guard with
  | none=>rw [hg] at c;exact X c
  | some z=>
   obtain⟨q,wt⟩:=z;rw [hg] at c;have c:bi (qD wt (H9 q ls env)) (XF cf x.op ls env m) (one .undef m)=some vs:=c;cases hB:qD wt (H9 q ls env) with
   | true=>rw [hB] at c;exact X c
   | false=>rw [hB] at c;cases c;obtain rfl:=ql.1 g;cases b
end
theorem YA (v:d9):∀(n i j:Nat) (t:T d9),i≠j->way n j (pJ n i v t)=way n j t:=by
 intro n;induction n with
 | zero=>intro i j t h;rfl
 | succ n ih=>
  intro i j t h;cases t with
  | e=>
   cases i with
   | zero=>rfl
   | succ i=>rcases adu i with h0 | h0<;>simp only [pJ,h0]<;>rfl
  | nd l x r=>
   cases i with
   | zero=>
    cases j with
    | zero=>exact absurd rfl h
    | succ j=>rcases adu j with h0 | h0<;>simp only [way,pJ,h0]<;>rfl
   | succ i=>
    cases j with
    | zero=>rcases adu i with h0 | h0<;>simp only [way,pJ,h0]<;>rfl
    | succ j=>
     rcases adu i with h0 | h0<;>rcases adu j with h1 | h1<;>simp only [way,pJ,h0,h1]
     exact ih (i / 2) (j / 2) l (by omega);rfl;rfl;exact ih (i / 2) (j / 2) r (by omega)
theorem Iq {d:Option Nat}{j:Nat}(h:d≠some j)(v:d9)(ls ls':List d9)(env:T d9):H9 (.slot j) ls' (iM d v env)=H9 (.slot j) ls env:=by
 cases d with
 | none=>rfl
 | some i=>exact YA v 64 i j env (λe=>h (by rw [e]))
theorem YB {d:Option Nat}{y:V9}(h:∀j,y=.slot j->d≠some j)(v:d9)(ls:List d9)(env:T d9):H9 (bump y) (v::ls) (iM d v env)=H9 y ls env:=by
 cases y with
 | loc k=>rw [Hu];show H9 (.loc (k+1)) (v::ls) (iM d v env)=_;rw [Hu];simp
 | slot j=>exact Iq (h j rfl) v ls (v::ls) env
 | con c=>rfl
section
variable {f:V9->V9}{ls ls':List d9}{env env':T d9}
theorem KR {o:BJ}(h:∀x∈GI o,Sm f ls env ls' env' x)(cf:H8)(m:Mem):XF cf (mapA f o) ls' env' m=XF cf o ls env m:=by
 cases o with
 | p o=>show ob (oQ (mF f o) ls' env') _=ob (oQ o ls env) _;rw [KN h]
 | r o=>show ob (wF (JU f o) ls' env' m) _=ob (wF o ls env m) _;rw [KO h]
 | a o=>show ob (Fa (OG f o) ls' env' m.nx) _=ob (Fa o ls env m.nx) _;rw [KP h]
 | e o=>exact KQ h cf m
theorem Wm {o:BJ}{g:Option (V9×Bool)}(h:∀x∈GI o,Sm f ls env ls' env' x)(c:∀p,g=some p->Sm f ls env ls' env' p.1)(cf:H8)(m:Mem):
  evG cf (g.map λp=>(f p.1,p.2)) (mapA f o) ls' env' m=evG cf g o ls env m:=by
 cases g with
 | none=>exact KR h cf m
 | some p=>obtain⟨x,a⟩:=p;have b:H9 (f x) ls' env'=H9 x ls env:=c _ rfl;show bi (qD a (H9 (f x) ls' env')) (XF cf (mapA f o) ls' env' m) (one .undef m)=bi (qD a (H9 x ls env)) (XF cf o ls env m) (one .undef m);rw [b,KR h]
end
theorem YC {α i:Type}{x:Option (List α)}{f g:α->Option (List i)}(h:∀a os,f a=some os->g a=some os){outs:List i}(c:bnd x f=some outs):bnd x g=some outs:=by
 have e:∀(l:List α) (outs:List i),Ku f l=some outs->Ku g l=some outs:=by
  intro l;induction l with
  | nil=>intro outs h;exact h
  | cons a l ih=>intro outs d;rw [Im] at d ⊢;obtain⟨x,j,d⟩:=D7 d;obtain⟨y,k,d⟩:=D7 d;rw [h _ _ j,ih _ k];exact d
 cases x with
 | none=>cases c
 | some l=>
  match l,c with
  | [],c=>exact c
  | [a],c=>exact h a _ c
  | a::b::t,c=>exact e (a::b::t) _ c
theorem Wn (f:V9->V9)(o:BJ):Ah (mapA f o)=Ah o:=by cases o<;>rfl
theorem UJ {a:Type}{v:d9}{p:d9->a}{q:a}(h:¬ ∃x,v=.dD x):fD v p q=q:=by cases v<;>first | rfl | exact absurd ⟨_,rfl⟩ h
theorem Wo {e:Bool}{d:Option Nat}{k c:RC}{cf:H8}{ls ls':List d9}{env:T d9}{r:VM}{os:List EM}(h:∀os,k cf (r.v::ls') (iM d r.v env) r.m=some os->c cf (r.v::ls) (iM d r.v env) r.m=some os)
  (a:PD e d k cf ls' env r=some os):PD e d c cf ls env r=some os:=by
 cases e with
 | false=>exact h os a
 | true=>have a:fD r.v (λx=>some [⟨env,r.m,some x,[]⟩]) (k cf (r.v::ls') (iM d r.v env) r.m)=some os:=a;show fD r.v (λx=>some [⟨env,r.m,some x,[]⟩]) (c cf (r.v::ls) (iM d r.v env) r.m)=some os;by_cases b:∃x,r.v=.dD x;obtain⟨v,f⟩:=r;obtain⟨x,b⟩:=b;have b:v=.dD x:=b;subst b;exact a;rw [UJ b] at a ⊢;exact h os a
theorem Wp {f:V9->V9}{i:Inst}{g:Option (V9×Bool)}(h:qM i=none)(a:g.isNone=i.guard.isNone):qM ⟨mapA f i.op,i.dst,g⟩=none:=by
 obtain⟨op,dst,guard⟩:=i;cases guard with
 | some p=>
  cases g with
  | none=>cases a
  | some q=>simp [qM]
 | none=>
  cases g with
  | some q=>cases a
  | none=>
   cases dst with
   | some d=>simp [qM]
   | none=>
    cases op with
    | e o=>cases o<;>first | rfl | cases h
    | _=>rfl
def Rl (r:List V9)(ls ls':List d9)(env:T d9):Prop:=∀k,H9 (r.getD k (.con .undef)) ls' env=(ls[k]?).getD .undef
theorem Rl.rn {r:List V9}{ls ls':List d9}{env:T d9}(h:Rl r ls ls' env)(x:V9):Sm (rn r) ls env ls' env x:=by
 cases x with
 | loc k=>show H9 (r.getD k (.con .undef)) ls' env=H9 (.loc k) ls env;rw [h k,Hu]
 | slot j=>rfl
 | con c=>rfl
theorem Fw {i:Inst}{l:List Inst}(h:jW (i::l)=false):iK (i::l)=XC i.op i.dst i.guard (iK l):=by
 refine AQ (.inr ?_);simp only [jW,azR] at h;cases hd:qM i with
 | none=>rfl
 | some p=>rw [hd] at h;cases h.1
theorem MR (cf:H8):∀(l:List Inst) (r:List V9) (ls ls':List d9) (env:T d9) (m:Mem) (outs:List EM),jW l=false->Rl r ls ls' env->(∀j,.slot j∈r->Aq j l=false)->
  iK (nW r l) cf ls' env m=some outs->iK l cf ls env m=some outs:=by
 intro l;induction l with
 | nil=>intro r ls ls' env m outs _ _ _ h;exact h
 | cons i l ih=>
  intro r ls ls' env m outs b q E h;have e:jW l=false:=by simp only [jW,azR] at b;exact b.2
  have g:∀j,.slot j∈r->i.dst≠some j∧Aq j l=false:=λj a=>by have:=E j a;simpa [Aq] using this
  have f:iK (⟨mapA (rn r) i.op,i.dst,i.guard.map λp=>(rn r p.1,p.2)⟩::nW (.loc 0::r.map bump) l) cf ls' env m=some outs->iK (i::l) cf ls env m=some outs:=by
   intro h;have w:qM i=none:=by
    simp only [jW,azR] at b;cases w:qM i with
    | none=>rfl
    | some p=>rw [w] at b;cases b.1
   rw [AQ (.inr (Wp w (by cases i.guard<;>rfl)))] at h
   rw [Fw b];have h:XC (mapA (rn r) i.op) i.dst (i.guard.map λp=>(rn r p.1,p.2)) (iK (nW (.loc 0::r.map bump) l)) cf ls' env m=some outs:=h;rw [Yv] at h ⊢;rw [Wm (λx _=>q.rn x) (λp _=>q.rn p.1),Wn] at h;refine YC (λv G A=>Wo (λG A=>?_) A) h;refine ih _ _ _ _ _ _ e ?_ ?_ A;intro k;cases k with
   | zero=>rfl
   | succ k=>
    have C:(V9.loc 0::r.map bump).getD (k+1) (.con .undef)=bump (r.getD k (.con .undef)):=by rw [U0,U0,adJ,adf];cases r[k]? <;> rfl
    rw [C,YB,q k];simp;intro j a;have:V9.slot j∈r:=by
     rw [U0] at a;cases hk:r[k]? with
     | none=>rw [hk] at a;cases a
     | some y=>rw [hk] at a;obtain rfl:y=.slot j:=a;exact O0 hk
    exact (g j this).1
   intro j a;rcases O9.1 a with a | a;cases a;obtain⟨y,F,n⟩:=adM.1 a;cases y with
   | slot B=>obtain rfl:B=j:=by simpa [bump] using n
             exact (g _ F).2
   | loc k=>simp [bump] at n
   | con c=>simp [bump] at n
  have d:∀x,i.op=.p (.mov x)->i.dst=none->i.guard=none->(∀j,rn r x=.slot j->Aq j l=false)->iK (nW (rn r x::r) l) cf ls' env m=some outs->iK (i::l) cf ls env m=some outs:=by
   intro x s t u D h;rw [Fw b,s,t,u];show iK l cf (H9 x ls env::ls) env m=some outs;refine ih _ _ _ _ _ _ e ?_ ?_ h;intro k;cases k with
   | zero=>exact q.rn x
   | succ k=>simpa using q k
   intro j a;rcases O9.1 a with a | a;exact D j a.symm;exact (g j a).2
  simp only [nW] at h;split at h;rename_i x s t u;split at h;rename_i j a;cases hw:Aq j l with
  | true=>rw [hw] at h;exact f h
  | false=>rw [hw] at h;refine d x s t u (λB o=>?_) (by rw [a];exact h);rw [a] at o;cases o;exact hw
  rename_i z;exact d x s t u (λj a=>absurd a (z j)) h;exact f h
section
variable {P:Program}{G:Mem}{ι:K7}{n:Nm}{m:Mem}{w:World}{slots:List Nat}{done:List (Option Nat)}{ls:List d9}{env:T d9}{a:Act}
def YD:bn->Exit
 | .normal=>.normal
 | .exit id=>.exit id
 | .ret=>.ret
def UK (ι:K7)(o:Out):Exit:=match o.pv with
 | none=>YD o.x
 | some x=>.panic [{v:=o8 ι x,recovered:=false}]
def Wq (ι:K7)(o:Out):Prop:=∀x,o.pv=some x->o.x=.ret∧x.lt (o.m.nm ι)
theorem dU {ι:K7}{o:Out}(h:o.pv=none):Wq ι o:=λx a=>by rw [h] at a;cases a
theorem nk {ι:K7}{o:Out}(h:Wq ι o)(a:o.x≠.ret):o.pv=none:=by
 cases hp:o.pv with
 | none=>rfl
 | some x=>exact absurd (h x hp).1 a
def Ws (ι:K7)(m:Mem)(ir r:Option Nat):Prop:=r=ir.map (λl=>(ι l).b)∧∀l,ir=some l->m.has l
theorem Ws.step {ι':K7}{c:Mem}{w':World}{b r:Option Nat}{G:Mem}(h:Ws ι m b r)(a:Step P G ι m w ι' c w'):Ws ι' c b r:=by
 refine⟨?_,λl d=>a.has l (h.2 l d)⟩;rw [h.1];cases b with
 | none=>rfl
 | some l=>simp [a.ext l (h.2 l rfl)]
theorem St.start (a:RM P G ι m w.heap){tmps:Array Value}(h:aW ι (m.nm ι) slots env tmps):St P ι (m.nm ι) slots [] [] env tmps:=
 ⟨λt k b=>by simp [jH] at b,h,a.glob,a.ghas⟩
theorem xw {a:Type}{b:Option U7}{f:LoopState->Option bn->T d9->List (Option Nat)->ay->ay->Option a}{r:a}(h:qP b f=some r):
  ∃st pend env params assign body,b=some (.loop st pend env params assign body)∧f st pend env params assign body=some r:=by
 unfold qP at h;split at h;exact⟨_,_,_,_,_,_,rfl,h⟩;cases h
theorem PE {cf:H8}(i:rZ P G cf)(q:RM P G ι m w.heap){g:Operand}{l:Nat}{e:d9}(o:a.eval g=o8 ι e)(j:e.lt (m.nm ι))(p:m.has l){outs:List VM}
  (h:Yb cf m [.func (.yield l) [] []] e=some outs):
  ∃d f args,(resolve a.eval (rangeCall g (ι l).b) 0).run P w=.ok d w∧(invoke d.target d.args).run P w=.ok (.enter f args) w∧CallsIn Fence.wide 0 P f args w (dK P G ι m w outs):=by
 obtain⟨k,x,y,rfl,h⟩:=Mx h;obtain⟨_,r,s⟩:=j;cases k with
 | func gf=>have h:cf (.func gf) (bU x (bU [.func (.yield l) [] []] y)) m=some outs:=h;rw [U9,U9] at h;obtain⟨n,c⟩:=i.func h;refine⟨{target:=.fn (.func gf) (A8 ι y).toArray,args:=(A8 ι x).toArray ++ #[.func (.yield (ι l).b) #[] #[]]},gf,_,?_,?_,c q (jZ r ⟨⟨p,trivial,trivial⟩,s⟩)⟩;show (Deferred.ofValue (a.eval g) (#[Operand.const (.func (.yield (ι l).b) #[] #[])].map a.eval)).run P w=_;rw [o];simp [o8,jY,Deferred.ofValue,Act.eval];simp [invoke,oJ n,lF,A8,o8,jY]
 | _=>cases h
theorem Km {F:Fence}{b:Nat}{Q:Exit->Act->World->Prop}{x:bn}(h:Q (YD x) a w):(exitCode x).wpIn F b P Q a w:=by
 cases x with
 | normal=>exact wpIn_skip h
 | exit id=>exact wpIn_exit h
 | ret=>exact wpIn_ret h
theorem PG {r:Option Nat}{cf:H8}(a6:rZ P G cf){nt:Nat}{g:Operand}{ps:Array Tmp}{assign body:Code}{z:V9}{x y:ay}(hz:V5 P slots [] g=some z)(hx:X9 P slots assign=some x)(hy:X9 P slots body=some y)
  (ha:tmpsIn nt assign=true) (hb:tmpsIn nt body=true) {u:World} {p:Mem} {q:K7} {k:List Mk} {mark:List Deferred} {D:Nat} (hm:RM P G ι m w.heap) (s:Step P G ι m w q p u)
  (Z:aW ι (m.nm ι) slots env a.tmps) (a7:nt<=a.tmps.size)
  (I:∀fn,(Instr.enterLoop fn a.tmps ps assign body r).run P w=.ok (u.heap.size,mark) (u.alloc (.loop {state:=.ready,pending:=none,fn,tmps:=a.tmps,params:=ps,assign,body,defers:=D})))
  (J:jf q p k (mark++a.defers)) {outs:List Out} (hv:Rx cf (H9 z [] env) (ps.toList.map λt=>idxOf t slots 0) x y env p k=some outs) {Q:Exit->Act->World->Prop}
  (hQ:∀o∈outs,∀ι' w' a',Step P G ι m w ι' o.m w'->aW ι' (o.m.nm ι') slots o.env a'.tmps->a'.tmps.size=a.tmps.size->jf ι' o.m o.marks a'.defers->Wq ι' o->Q (UK ι' o) a' w'):
  (Code.rangeFunc g ps assign body).wpIn (FR r) 0 P Q a w:=by
 refine wpIn_rangeFunc λfn _=>?_;obtain⟨e1,e2⟩:=D9 (St.start hm Z) hz;have A:=Laid.new s.rm.ok s.rm.limn (.loop .ready none env (ps.toList.map λt=>idxOf t slots 0) x y) rfl;generalize hrec:({state:=.ready,pending:=none,fn,tmps:=a.tmps,params:=ps,assign,body,defers:=D}:Loop)=rec at *;have N:∀j,p.has j->(q.upd p.nx ⟨u.heap.size,0,0,none⟩) j=q j:=λj hj=>q.upd_ne _ λh=>A.free (h▸hj);have H:Step P G q p u (q.upd p.nx ⟨u.heap.size,0,0,none⟩) (p.new (.loop .ready none env (ps.toList.map λt=>idxOf t slots 0) x y)) (u.alloc (.loop rec)):=by refine Step.lay (w':=u.alloc (.loop rec)) s.rm A (o:=.loop rec) (l:=⟨u.heap.size,0,0,none⟩) ⟨rfl,rfl,rfl,rfl⟩ rfl rfl ?_ (by intro _ _ _ h;cases h);refine⟨rec,jA,by rw [← hrec],by rw [← hrec];rfl,slots,?_,by rw [← hrec],by rw [← hrec];exact hx,by rw [← hrec];exact hy,nt,by rw [← hrec];exact a7,by rw [← hrec];exact ha,by rw [← hrec];exact hb⟩;have:=(s.env Z).mono (n:=p.nm q) N (Mem.bA A.has N);rw [← hrec];exact this
 have E:=s.trans H;have S:((q.upd p.nx ⟨u.heap.size,0,0,none⟩) p.nx).b=u.heap.size:=by rw [K7.V7]
 generalize hι2:q.upd p.nx ⟨u.heap.size,0,0,none⟩=ι2 at *;generalize hm2:p.new (.loop .ready none env (ps.toList.map λt=>idxOf t slots 0) x y)=m2 at *;have R:m2.has p.nx:=A.self;have hv:bnd (Yb cf m2 [.func (.yield p.nx) [] []] (H9 z [] env)) (λr=>fD r.v (λ_=>none) <| qP (r.m.get p.nx) λst B _ _ _ _=>match st with
   | .busy=>none
   | _=>match B with
    | none=>rT .normal env (r.m.set p.nx .dead) k
    | some x=>rT x env (r.m.set p.nx .dead) k)=some outs:=by rw [← hm2];exact hv
 obtain⟨vs,a8,hk⟩:=dL hv;obtain⟨d,f,a0,T,a2,Y⟩:=PE (a:=a) a6 E.rm (by rw [e1];exact (E.o8 e2).symm) (d9.Y0 (Mem.bA E.has E.ext) _ e2) R a8;rw [S] at T;refine⟨u.heap.size,mark,u.alloc (.loop rec),d,u.alloc (.loop rec),f,a0,u.alloc (.loop rec),(by rw [← hrec];exact I fn),T,λ_ _=>trivial,a2,(λhc=>by cases hc),CallsIn.mono (F:=FR r) Y ?_⟩;rintro e w3 (⟨v,rfl,r0,hr0,ι3,hst3,hlt3,_⟩ | ⟨r0,hr0,x0,ι3,hx0,_⟩)
 case inr=>obtain⟨os,i,_⟩:=hk r0 hr0;rw [hx0] at i;cases i
 obtain⟨os,i,V⟩:=hk r0 hr0;rw [UH hlt3] at i;obtain⟨st,B,aa,a5,ab,ac,O,i⟩:=xw i;obtain⟨L,hL,K⟩:=hst3.rm.blk p.nx _ O;have W:(ι3 p.nx).b=u.heap.size:=by rw [hst3.ext _ R];exact S
 rw [W] at hL;have a3:r0.m.lim<=p.nx:=by rw [hst3.lim,H.lim];exact s.rm.limn
 have X:L.state≠.busy:=by rw [K.state];intro e;subst e;cases i
 have a1:=run_endLoop (P:=P) hL X;have U:Step P G ι3 r0.m w3 ι3 (r0.m.set p.nx .dead) (w3.putObj u.heap.size (.loop {L with state:=.exhausted})):=by refine Step.set hst3.rm a3 O rfl rfl (o:=.loop {L with state:=.exhausted}) ⟨by rw [W];rfl,rfl,rfl,rfl⟩ trivial (by intro _ _ _ h;cases h)
 have C:=(E.trans hst3).trans U;have a4:jf ι3 (r0.m.set p.nx .dead) k (mark++a.defers):=J.step ((H.trans hst3).trans U);have M:aW ι3 ((r0.m.set p.nx .dead).nm ι3) slots env a.tmps:=C.env Z;refine⟨L.pending,_,a1,?_⟩;have a9:∀j:Option Code,j=B.map exitCode->(match j with
   | none=>Q .normal {a with defers:=mark++a.defers} (w3.putObj u.heap.size (.loop {L with state:=.exhausted}))
   | some c=>c.wpIn (FR r) 0 P Q {a with defers:=mark++a.defers} (w3.putObj u.heap.size (.loop {L with state:=.exhausted}))):=by
  rintro j rfl;cases B with
  | none=>
   have i:rT .normal env (r0.m.set p.nx .dead) k=some os:=by cases st<;>first | exact i | cases i
   cases i;exact hQ _ (V _ (ql.2 rfl)) ι3 _ {a with defers:=mark++a.defers} C M rfl a4 (dU rfl)
  | some x'=>
   have i:rT x' env (r0.m.set p.nx .dead) k=some os:=by cases st<;>first | exact i | cases i
   cases i;exact Km (hQ _ (V _ (ql.2 rfl)) ι3 _ {a with defers:=mark++a.defers} C M rfl a4 (dU rfl))
 exact a9 _ K.pending
end
section
variable {P:Program}{G:Mem}
def Wt (P:Program)(G:Mem)(slots:List Nat)(nt:Nat)(cf:H8)(fuel:Nat)(r:Option Nat)(c:Code)(ac:ay):Prop:=
 ∀(Q:Exit->Act->World->Prop) (ir:Option Nat) (env:T d9) (m:Mem) (k:List Mk) (ι:K7) (w:World) (a:Act) (outs:List Out),
  RM P G ι m w.heap->aW ι (m.nm ι) slots env a.tmps->nt<=a.tmps.size->jf ι m k a.defers->Ws ι m ir r->wI ac cf fuel ir env m k=some outs->
  (∀o∈outs,∀ι' w' a',Step P G ι m w ι' o.m w'->aW ι' (o.m.nm ι') slots o.env a'.tmps->a'.tmps.size=a.tmps.size->jf ι' o.m o.marks a'.defers->Wq ι' o->Q (UK ι' o) a' w')->
  c.wpIn (FR r) 0 P Q a w
def mQ (P:Program)(G:Mem)(slots:List Nat)(nt:Nat)(cf:H8)(r:Option Nat):Prop:=
 ∀(id:Nat) (ops:Array Oper) (n:Nat) (l:List (Nat×Inst)),Fh P slots ops=some (.dreg n l)->(∀(i:Nat) (o:Oper) (t:Tmp),ops[i]?=some o->o.dst=some t->t<nt)->
  ∀(Q:Exit->Act->World->Prop) (env:T d9) (m:Mem) (ι:K7) (w:World) (a:Act) (outs:List EM),
  RM P G ι m w.heap->aW ι (m.nm ι) slots env a.tmps->nt<=a.tmps.size->Ed l cf m.nx [] env (reserve n m) [reserve n m]=some outs->
  (∀e∈outs,e.px=none->e.mks=[]->∀ι' w' a',Step P G ι m w ι' e.m w'->aW ι' (e.m.nm ι') slots e.env a'.tmps->a'.defers=a.defers->a'.tmps.size=a.tmps.size->Q .normal a' w')->
  (∀e∈outs,∀y,e.px=some y->e.mks=[]->∀ι' w' a',Step P G ι m w ι' e.m w'->y.lt (e.m.nm ι')->aW ι' (e.m.nm ι') slots e.env a'.tmps->a'.defers=a.defers->a'.tmps.size=a.tmps.size->Q (.panic [{v:=o8 ι' y,recovered:=false}]) a' w')->
  (Code.region id ops true).wpIn (FR r) 0 P Q a w
theorem sw {nt id:Nat}{ops:Array Oper}{d:Bool}(h:tmpsIn nt (.region id ops d)=true)(i:Nat)(o:Oper)(t:Tmp)(a:ops[i]?=some o)(b:o.dst=some t):t<nt:=by simp only [tmpsIn,adz] at h;have:=h o (by simpa using Array.mem_of_getElem? a);rw [b] at this;exact Eq.mp O6 this
theorem uP {a:Type}{x:bn}{p:Option a}{q:Nat->Option a}{s:Option a}{r:a}(h:(bn.rec p q s x:Option a)=some r):
  (x=.normal∧p=some r)∨(∃id,x=.exit id∧q id=some r)∨(x=.ret∧s=some r):=by
 cases x with
 | normal=>exact .inl ⟨rfl,h⟩
 | exit id=>exact .inr (.inl ⟨id,rfl,h⟩)
 | ret=>exact .inr (.inr ⟨rfl,h⟩)
theorem uQ {V:List Nat}{nt:Nat}{cf:H8}(an:rZ P G cf)(M:Nat){r:Option Nat}(ao:mQ P G V nt cf r):
  ∀(c:Code) (ac:ay),X9 P V c=some ac->tmpsIn nt c=true->Wt P G V nt cf M r c ac:=by
 intro c;induction c with
 | skip=>intro ac u _ Q Z f m k W w a outs X C J B N i S;simp only [X9,l7] at u;subst u;have i:rT .normal f m k=some outs:=i;cases i;exact wpIn_skip (S _ (ql.2 rfl) W w a (Step.refl X) C rfl B (dU rfl))
 | exit id=>intro ac u _ Q Z f m k W w a outs X C J B N i S;simp only [X9,l7] at u;subst u;have i:rT (.exit id) f m k=some outs:=i;cases i;exact wpIn_exit (S _ (ql.2 rfl) W w a (Step.refl X) C rfl B (dU rfl))
 | ret=>intro ac u _ Q Z f m k W w a outs X C J B N i S;simp only [X9,l7] at u;subst u;have i:rT .ret f m k=some outs:=i;cases i;exact wpIn_ret (S _ (ql.2 rfl) W w a (Step.refl X) C rfl B (dU rfl))
 | region id ops d=>
  intro ac u I Q Z f m k W w a outs X C J B N i S;cases d with
  | false=>
   simp only [X9] at u;split at u;rename_i l hl;cases u;have am:∃es,iK l cf [] f m=some es∧(jW l=true->r=none)∧∀e∈es,∃os,mG k e=some os∧∀o∈os,o∈outs:=by
    cases hd:jW l with
    | true=>
     have i:(bif jW l then nX (iK l) else aI (iK (nW [] l))) cf M Z f m k=some outs:=i;rw [hd,cond_true] at i;cases Z with
     | some l'=>cases i
     | none=>have i:bnd (iK l cf [] f m) (mG k)=some outs:=i;obtain⟨es,a7,hk⟩:=dL i;exact⟨es,a7,λ_=>N.1,hk⟩
    | false=>have i:(bif jW l then nX (iK l) else aI (iK (nW [] l))) cf M Z f m k=some outs:=i;rw [hd,cond_false] at i;have i:bnd (iK (nW [] l) cf [] f m) (mG k)=some outs:=i;obtain⟨es,a7,hk⟩:=dL i;exact⟨es,MR cf l [] [] [] f m es hd (λk=>by simp [H9,au]) (λj hj=>by cases hj) a7,λh=>(by cases h),hk⟩
   obtain⟨es,a7,b1,hk⟩:=am;refine wpIn_region (Wl an (sw I) _ _ _ hl b1 [] f m W w a es X J (St.start X C) a7 ?_);intro e he A w' Y v p a4 aq K af;obtain⟨os,H,q⟩:=hk e he;obtain⟨R,a2,a3,U⟩:=e;have E:jf A a2 (U++k) Y.defers:=by refine⟨by rw [a4,(B.step v).1,amR],λx hx=>?_⟩;rcases O4.1 hx with hx | hx;exact aq x hx;exact (B.step v).2 x hx
   cases a3 with
   | none=>have H:rT .normal R a2 (bU U k)=some os:=H;rw [U9] at H;cases H;exact S _ (q _ (ql.2 rfl)) A w' Y v p K E (dU rfl)
   | some x=>have H:some [(⟨.ret,R,a2,bU U k,some x⟩:Out)]=some os:=H;rw [U9] at H;cases H;exact S _ (q _ (ql.2 rfl)) A w' Y v p K E (λy hy=>by cases hy;exact⟨rfl,af _ rfl⟩)
   cases u
  | true=>
   simp only [X9] at u;have ap:∃n l,ac=.dreg n l:=by unfold Fh at u;split at u;cases u;split at u;cases u;exact⟨_,_,rfl⟩;cases u
   obtain⟨n,l,rfl⟩:=ap;have i:bnd (Ed l cf m.nx [] f (reserve n m) [reserve n m]) (mG k)=some outs:=i;obtain⟨es,a7,hk⟩:=dL i;refine ao id ops n l u (sw I) Q f m W w a es X C J a7 ?_ ?_;intro e he af ad A w' Y v p a4 K;obtain⟨os,H,q⟩:=hk e he;obtain⟨R,a2,a3,U⟩:=e;obtain rfl:a3=none:=af;obtain rfl:U=[]:=ad;have H:rT .normal R a2 k=some os:=H;cases H;exact S _ (q _ (ql.2 rfl)) A w' Y v p K (by rw [a4];exact B.step v) (dU rfl);intro e he y af ad A w' Y v az p a4 K;obtain⟨os,H,q⟩:=hk e he;obtain⟨R,a2,a3,U⟩:=e;obtain rfl:a3=some y:=af;obtain rfl:U=[]:=ad;have H:some [(⟨.ret,R,a2,k,some y⟩:Out)]=some os:=H;cases H;exact S _ (q _ (ql.2 rfl)) A w' Y v p K (by rw [a4];exact B.step v) (λz hz=>by cases hz;exact⟨rfl,az⟩)
 | seq x y ihx ihy=>
  intro ac u I Q Z f m k W w a outs X C J B N i S;simp only [tmpsIn,D5] at I;simp only [X9] at u;split at u;rename_i cx cy hx hy;cases u;have i:bnd (wI cx cf M Z f m k) (λo=>bn.rec (wI cy cf M Z o.env o.m o.marks) (λ_=>some [o]) (some [o]) o.x)=some outs:=i;obtain⟨os,H,hk⟩:=dL i;refine wpIn_seq (ihx cx hx I.1 _ Z f m k W w a os X C J B N H ?_);intro o ho A w' Y v p K E a1;obtain⟨ak,a5,q⟩:=hk o ho;obtain⟨O,a0,aa,a9,F⟩:=o;rcases uP a5 with⟨h1,h2⟩ | ⟨id,h1,h2⟩ | ⟨h1,h2⟩;obtain rfl:O=.normal:=h1;obtain rfl:F=none:=nk a1 (by intro e;cases e);refine ihy cy hy I.2 Q Z a0 aa a9 A w' Y ak v.rm p (by rw [K];exact J) E (N.step v) h2 ?_;intro o2 ar aj av al ag a6 ai a8 ae;exact S o2 (q _ ar) aj av al (v.trans ag) a6 (ai.trans K) a8 ae;obtain rfl:O=.exit id:=h1;obtain rfl:F=none:=nk a1 (by intro e;cases e);cases h2;exact S _ (q _ (ql.2 rfl)) A w' Y v p K E (dU rfl);obtain rfl:O=.ret:=h1;cases h2;have:=S _ (q _ (ql.2 rfl)) A w' Y v p K E a1;cases F<;>exact this
  cases u
 | cond c x y ihx ihy=>
  intro ac u I Q Z f m k W w a outs X C J B N i S;simp only [tmpsIn,D5] at I;simp only [X9] at u;split at u;rename_i z cx cy hz hx hy;cases u;obtain⟨t,h1,i⟩:=tq i;obtain⟨e1,_⟩:=D9 (St.start X C) hz;have h1:H9 z [] f=.bool t:=h1;refine wpIn_cond (t:=t) (by rw [e1,h1];rfl) ?_;cases t with
  | true=>exact ihx cx hx I.1 Q Z f m k W w a outs X C J B N i S
  | false=>exact ihy cy hy I.2 Q Z f m k W w a outs X C J B N i S
  cases u
 | block id x ihx=>
  intro ac u I Q Z f m k W w a outs X C J B N i S;simp only [tmpsIn] at I;simp only [X9] at u;split at u;rename_i cx hx;cases u;have i:bnd (wI cx cf M Z f m k) (λo=>bn.rec (some [o]) (λid'=>bi (Nat.beq id id') (rT .normal o.env o.m o.marks) (some [o])) (some [o]) o.x)=some outs:=i;obtain⟨os,H,hk⟩:=dL i;refine wpIn_block (ihx cx hx I _ Z f m k W w a os X C J B N H ?_);intro o ho A w' Y v p K E a1;obtain⟨ak,a5,q⟩:=hk o ho;obtain⟨O,a0,aa,a9,F⟩:=o;rcases uP a5 with⟨h1,h2⟩ | ⟨id',h1,h2⟩ | ⟨h1,h2⟩;obtain rfl:O=.normal:=h1;obtain rfl:F=none:=nk a1 (by intro e;cases e);cases h2;exact S _ (q _ (ql.2 rfl)) A w' Y v p K E (dU rfl);obtain rfl:O=.exit id':=h1;obtain rfl:F=none:=nk a1 (by intro e;cases e);show Exit.inBlock id Q (.exit id') Y w';simp only [Exit.inBlock];rw [wU] at h2;split at h2;rename_i he;subst he;cases h2;rw [if_pos rfl];exact S _ (q _ (ql.2 rfl)) A w' Y v p K E (dU rfl);rename_i he;cases h2;rw [if_neg (λe=>he e.symm)];exact S _ (q _ (ql.2 rfl)) A w' Y v p K E (dU rfl);obtain rfl:O=.ret:=h1;cases h2;have:=S _ (q _ (ql.2 rfl)) A w' Y v p K E a1;cases F<;>exact this
  cases u
 | loop x ihx=>
  intro ac u I Q Z f m k W w a outs X C J B N i S;simp only [tmpsIn] at I;simp only [X9] at u;split at u;rename_i cx hx;cases u;have i:T9 (λf m k=>wI cx cf M Z f m k) M f m k=some outs:=i;have b2:∀(j:Nat) (f:T d9) (m:Mem) (k:List Mk) (W:K7) (w:World) (a:Act) (outs:List Out),RM P G W m w.heap->aW W (m.nm W) V f a.tmps->nt<=a.tmps.size->jf W m k a.defers->Ws W m Z r->
    T9 (λf m k=>wI cx cf M Z f m k) j f m k=some outs->
    (∀o∈outs,∀A w' Y,Step P G W m w A o.m w'->aW A (o.m.nm A) V o.env Y.tmps->Y.tmps.size=a.tmps.size->jf A o.m o.marks Y.defers->Wq A o->Q (UK A o) Y w')->
    Code.roundsIn (FR r) 0 P x Q j a w:=by
   intro j;induction j with
   | zero=>intro f m k W w a outs _ _ _ _ _ i;cases i
   | succ j ih=>intro f m k W w a outs X C J B N i S;have i:bnd (wI cx cf M Z f m k) (λo=>bn.rec (T9 (λf m k=>wI cx cf M Z f m k) j o.env o.m o.marks) (λ_=>some [o]) (some [o]) o.x)=some outs:=i;obtain⟨os,H,hk⟩:=dL i;rw [roundsIn_succ];refine ihx cx hx I _ Z f m k W w a os X C J B N H ?_;intro o ho A w' Y v p K E a1;obtain⟨ak,a5,q⟩:=hk o ho;obtain⟨O,a0,aa,a9,F⟩:=o;rcases uP a5 with⟨h1,h2⟩ | ⟨id',h1,h2⟩ | ⟨h1,h2⟩;obtain rfl:O=.normal:=h1;obtain rfl:F=none:=nk a1 (by intro e;cases e);refine ih a0 aa a9 A w' Y ak v.rm p (by rw [K];exact J) E (N.step v) h2 ?_;intro o2 ar aj av al ag a6 ai a8 ae;exact S o2 (q _ ar) aj av al (v.trans ag) a6 (ai.trans K) a8 ae;obtain rfl:O=.exit id':=h1;obtain rfl:F=none:=nk a1 (by intro e;cases e);cases h2;exact S _ (q _ (ql.2 rfl)) A w' Y v p K E (dU rfl);obtain rfl:O=.ret:=h1;cases h2;have:=S _ (q _ (ql.2 rfl)) A w' Y v p K E a1;cases F<;>exact this
  exact wpIn_loop_rounds M (b2 M f m k W w a outs X C J B N i S);cases u
 | rangeFunc g ps x y ihx ihy=>
  intro ac u I Q Z f m k W w a outs X C J B N i S;simp only [tmpsIn,D5] at I;simp only [X9] at u;split at u;rename_i z cx cy hz hx hy;cases u;cases Z with
  | none=>
   obtain rfl:r=none:=N.1;have i:Rx cf (H9 z [] f) (ps.toList.map λt=>idxOf t V 0) cx cy f (m.new .deferred) (.c m.nx::k)=some outs:=i;have ab:=Laid.new X.ok X.limn .deferred rfl;have ah:Step P G W m w (W.upd m.nx ⟨w.heap.size,0,0,none⟩) (m.new .deferred) (w.alloc (.deferred (some []))):=
    Step.lay (w':=w.alloc (.deferred (some []))) (l:=⟨w.heap.size,0,0,none⟩) X ab (o:=.deferred (some [])) ⟨rfl,rfl,rfl,rfl⟩ rfl rfl (by show (w.heap.push _)[w.heap.size]?=_;exact jA) (by intro _ _ _ h;cases h)
   have ax:(w.alloc (.deferred (some []))).heap.size=w.heap.size+1:=by show (w.heap.push _).size=_;simp
   refine PG an hz hx hy I.1 I.2 (mark:=[{target:=.collected w.heap.size,args:=#[]}]) (D:=w.heap.size) X ah C J (λfn=>?_) ⟨?_,?_⟩ i S;rw [run_enterLoop_outer,ax];rw [(B.step ah).1];simp [vN];intro x hx;rcases O9.1 hx with rfl | hx;exact⟨ab.self,X.limn⟩;exact (B.step ah).2 x hx
  | some l=>obtain rfl:r=some (W l).b:=N.1;have i:qP (m.get l) (λ_ _ _ _ _ _=>Rx cf (H9 z [] f) (ps.toList.map λt=>idxOf t V 0) cx cy f m k)=some outs:=i;obtain⟨st,b4,b3,b0,b5,b6,aw,i⟩:=xw i;obtain⟨L,hL,_⟩:=X.blk l _ aw;refine PG an hz hx hy I.1 I.2 (mark:=[]) (D:=L.defers) X (Step.refl X) C J (λfn=>?_) (by simpa using B) i S;exact run_enterLoop_inner hL fn a.tmps ps x y
  cases u
 | scope x ihx=>intro ac u;simp only [X9] at u;cases u
 | label l=>intro ac u;simp only [X9] at u;cases u
 | goto l=>intro ac u;simp only [X9] at u;cases u
 | refuse s=>intro ac u;simp only [X9] at u;cases u
end
section
variable {P:Program}{G:Mem}{ι:K7}{n:Nm}{m:Mem}{w:World}{slots:List Nat}
theorem Ko (vs:List d9)(env:T d9):eZ [] vs env=match vs with | []=>some env | _ :: _=>none:=by cases vs<;>rfl
theorem Ir (j:Option Nat)(a:List (Option Nat))(vs:List d9)(env:T d9):
  eZ (j::a) vs env=match vs with | []=>none | v::vs=>eZ a vs (iM j v env):=by cases vs<;>rfl
theorem vO:∀(ps:List Nat) (vs:List d9) (env env1:T d9) (tmps:Array Value),aW ι n slots env tmps->dI n vs->eZ (ps.map λt=>idxOf t slots 0) vs env=some env1->
  vs.length=ps.length∧aW ι n slots env1 ((ps.zip (A8 ι vs)).foldl (λt (p,v)=>t.setIfInBounds p v) tmps)∧((ps.zip (A8 ι vs)).foldl (λt (p,v)=>t.setIfInBounds p v) tmps).size=tmps.size:=by
 intro ps;induction ps with
 | nil=>
  intro vs env env1 tmps h b a;rw [azU,Ko] at a;cases vs with
  | nil=>cases a;exact⟨rfl,h,rfl⟩
  | cons v vs=>cases a
 | cons p ps ih=>
  intro vs env env1 tmps h b a;rw [adU,Ir] at a;cases vs with
  | nil=>cases a
  | cons v vs=>have f:=h.put (some p) b.1;obtain⟨c,d,e⟩:=ih vs _ env1 _ f b.2 a;exact⟨by simp [c],d,by rw [show ((p::ps).zip (A8 ι (v::vs))).foldl (λt (p,v)=>t.setIfInBounds p v) tmps=(ps.zip (A8 ι vs)).foldl (λt (p,v)=>t.setIfInBounds p v) (tmps.setIfInBounds p (o8 ι v)) from rfl,e];simp⟩
theorem Wu (ps:Array Nat)(vs:List Value)(tmps:Array Value):
  (ps.zip vs.toArray).foldl (λt (p,v)=>t.setIfInBounds p v) tmps=(ps.toList.zip vs).foldl (λt (p,v)=>t.setIfInBounds p v) tmps:=by
 rw [← Array.foldl_toList,Array.toList_zip]
theorem RY {ι':K7}{f:Nm}{L:Loop}{k d:LoopState}{c b:Option bn}{env:T d9}{a:List (Option Nat)}{e bd:ay}(h:Az P ι n L k c env a e bd)(hi:∀i,n i->ι' i=ι i)(j:n.le f):
  Az P ι' f {L with state:=d,pending:=b.map exitCode} d b env a e bd:=by
 obtain⟨_,_,g⟩:=h.mono hi j;exact⟨rfl,rfl,g⟩
theorem step_loop {ι:K7}{m:Mem}{w:World}(n:RM P G ι m w.heap){l:Nat}(s:m.lim<=l){p:LoopState}{d:Option bn}{env:T d9}{a:List (Option Nat)}{f g:ay}
  (k:m.get l=some (.loop p d env a f g)) {L:Loop} (q:w.heap[(ι l).b]?=some (.loop L)) (j:Az P ι (m.nm ι) L p d env a f g) (e:LoopState) (c:Option bn):
  Step P G ι m w ι (m.set l (.loop e c env a f g)) (w.putObj (ι l).b (.loop {L with state:=e,pending:=c.map exitCode})):=by
 refine Step.set n s k rfl rfl (o:=.loop {L with state:=e,pending:=c.map exitCode}) ⟨rfl,rfl,rfl,rfl⟩ ?_ (by intro _ _ _ h;cases h);exact⟨_,mZ q,RY j (λ_ _=>rfl) (Mem.bA (λi r=>Mem.qX n.ok k rfl i r) λ_ _=>rfl)⟩
theorem PI {cf:H8}(af:rZ P G cf)(j:Nat)(M:∀slots nt r,mQ P G slots nt cf r){l:Nat}{args:List d9}{outs:List VM}(h:Ms cf j l args m=some outs)(hm:RM P G ι m w.heap)(a6:dI (m.nm ι) args):
  ∃L:Loop,w.heap[(ι l).b]?=some (.loop L)∧args.length=L.params.size∧
   RoundIn Fence.wide 0 P (ι l).b L.fn ((L.params.zip (A8 ι args).toArray).foldl (λt (p,v)=>t.setIfInBounds p v) L.tmps) L.assign L.body w (dK P G ι m w outs):=by
 obtain⟨B,h⟩:=BP h;have B:=tJ B;obtain⟨st,D,H,params,as,bd,X,h⟩:=xw h;have b5:st=.ready∧D=none∧ob (eZ params args H) (λA=>bnd (wI as cf j (some l) A m []) λo=>match o.x,o.marks with
   | .normal,[]=>qP (o.m.get l) λE g u d i z=>match E,g with
    | .ready,none=>bnd (wI bd cf j (some l) o.env (o.m.set l (.loop .busy none u d i z)) []) (roundEnd l)
    | _,_=>none
   | _,_=>none)=some outs:=by
  cases st<;>cases D<;>first | exact⟨rfl,rfl,h⟩ | cases h
 obtain⟨rfl,rfl,h⟩:=b5;obtain⟨A,hp,h⟩:=D7 h;obtain⟨os,b4,hk⟩:=dL h;obtain⟨L,hL,bg,bf,slots,az,ae,ax,ay,nt,aj,b6,b7⟩:=hm.blk l _ X;rw [ae] at hp;obtain⟨g1,g2,g3⟩:=vO L.params.toList args H A L.tmps az a6 hp;refine⟨L,hL,by rw [g1];simp,?_⟩;rw [Wu];have R:m.has l:=⟨_,X,rfl⟩;have ah:Ws ι m (some l) (some (ι l).b):=⟨rfl,λl' b2=>by cases b2;exact R⟩;refine roundIn_of_wpIn (F:=Fence.wide) trivial ?_;refine uQ af j (M slots nt (some (ι l).b)) L.assign as ax b6 _ (some l) A m [] ι w {tmps:=(L.params.toList.zip (A8 ι args)).foldl (λt (p,v)=>t.setIfInBounds p v) L.tmps,defers:=[]} os hm g2 (by rw [g3];exact aj)
  ⟨rfl,λ_ h=>by cases h⟩ ah b4 ?_
 intro o ho aq w1 a1 y ag ao ai am;obtain⟨os',f,an⟩:=hk o ho;obtain⟨a2,q,C,a0,ab⟩:=o
 have hx:a2=.normal∧a0=[]∧qP (C.get l) (λE g u d i z=>match E,g with
    | .ready,none=>bnd (wI bd cf j (some l) q (C.set l (.loop .busy none u d i z)) []) (roundEnd l)
    | _,_=>none)=some os':=by
  cases a2<;>cases a0<;>first | exact⟨rfl,rfl,f⟩ | cases f
 obtain⟨rfl,rfl,f⟩:=hx;obtain rfl:ab=none:=nk am (by intro e;cases e);obtain⟨E,g,u,d,au,av,O,f⟩:=xw f;have k:E=.ready∧g=none∧bnd (wI bd cf j (some l) q (C.set l (.loop .busy none u d au av)) []) (roundEnd l)=some os':=by cases E<;>cases g<;>first | exact⟨rfl,rfl,f⟩ | cases f
 obtain⟨rfl,rfl,f⟩:=k;obtain⟨b8,al,b0⟩:=dL f;obtain⟨L2,ac,S⟩:=y.rm.blk l _ O;have a7:C.lim<=l:=by rw [y.lim];exact B
 have Z:(aq l).b=(ι l).b:=by rw [y.ext l R]
 have W:=run_beginRound (P:=P) ac S.state;have k:=step_loop y.rm a7 O ac S .busy none;rw [Z] at W;rw [Z,show ({L2 with state:=.busy,pending:=(none:Option bn).map exitCode}:Loop)={L2 with state:=.busy} from by rw [← S.pending]] at k;refine⟨_,W,?_⟩;have T:=y.trans k;refine uQ af j (M slots nt (some (ι l).b)) L.body bd ay b7 _ (some l) q _ [] aq _ a1 b8 k.rm (k.env ag) (by rw [ao];show nt<=Array.size _;rw [g3];exact aj)
  (ai.step k) (ah.step T) al ?_
 intro o3 b3 ar w3 a3 U ba be bb bc;obtain⟨os3,c,a9⟩:=b0 o3 b3;obtain⟨x3,b9,m3,k3,aa⟩:=o3;have K:=T.trans U;have b1:k3=[]∧aa=none∧qP (m3.get l) (λst D H params assign body=>match st,D with
  | .busy,none=>match x3 with
   | .normal=>one (.bool true) (m3.set l (.loop .ready none H params assign body))
   | x=>one (.bool false) (m3.set l (.loop .done (some x) H params assign body))
  | _,_=>none)=some os3:=by
  cases k3 with
  | nil=>
   cases aa with
   | none=>exact⟨rfl,rfl,c⟩
   | some=>cases c
  | cons=>cases aa<;>cases c
 obtain⟨rfl,rfl,c⟩:=b1;obtain⟨V,s,I,n,a4,a5,Q,c⟩:=xw c;obtain⟨L4,ad,ak⟩:=U.rm.blk l _ Q;have a8:m3.lim<=l:=by rw [K.lim];exact B
 have ap:(ar l).b=(ι l).b:=by rw [K.ext l R]
 have aw:∀(b:Bool) (a:Option bn),os3=[⟨.bool b,m3.set l (.loop (if b then .ready else .done) a I n a4 a5)⟩]->(a.map exitCode).isNone=b->
   ∃v w',(Instr.endRound (ι l).b (a.map exitCode)).run P w3=.ok v w'∧dK P G ι m w outs (.returned v) w':=by
  intro b a h1 h2;have N:=run_endRound (P:=P) (a.map exitCode) ad;have Y:=step_loop U.rm a8 Q ad ak (if b then .ready else .done) a;rw [ap] at N Y;rw [h2] at N;refine⟨_,_,N,.inl ⟨_,rfl,⟨.bool b,m3.set l (.loop (if b then .ready else .done) a I n a4 a5)⟩,an _ ?_,ar,K.trans Y,trivial,by simp [o8]⟩⟩;exact a9 _ (by rw [h1];exact ql.2 rfl)
 have J:∀(b:Bool) (a:Option bn),(V=.busy∧s=none∧one (.bool b) (m3.set l (.loop (if b then .ready else .done) a I n a4 a5))=some os3)->(a.map exitCode).isNone=b->
   ∃v w',(Instr.endRound (ι l).b (a.map exitCode)).run P w3=.ok v w'∧dK P G ι m w outs (.returned v) w':=by
  rintro b a ⟨_,_,h⟩ h2;exact aw b a (by cases h;rfl) h2
 cases x3 with
 | normal=>exact J true none (by cases V<;>cases s<;>first | exact⟨rfl,rfl,c⟩ | cases c) rfl
 | exit id=>exact J false (some (.exit id)) (by cases V<;>cases s<;>first | exact⟨rfl,rfl,c⟩ | cases c) rfl
 | ret=>exact J false (some .ret) (by cases V<;>cases s<;>first | exact⟨rfl,rfl,c⟩ | cases c) rfl
theorem Wv {r:ResultVar}{l:List ResultVar}{rs:List pF}(h:Gj P slots (r::l)=some rs):
  ∃x rs',rs=x::rs'∧Gj P slots l=some rs'∧((∃t j,r=.tmp t∧idxOf t slots 0=some j∧x=.tmp j)∨∃t ty j s,r=.cell t ty∧idxOf t slots 0=some j∧partT P ty=some s∧x=.cell j s):=by
 cases r with
 | tmp t=>simp only [Gj] at h;split at h;cases h;exact⟨_,_,rfl,by assumption,.inl ⟨t,_,rfl,by assumption,rfl⟩⟩;cases h
 | cell t ty=>simp only [Gj] at h;split at h;cases h;exact⟨_,_,rfl,by assumption,.inr ⟨t,ty,_,_,rfl,by assumption,by assumption,rfl⟩⟩;cases h
theorem MS (r:pF)(rs:List pF)(env:T d9)(m:Mem):results (r::rs) env m=ob (match r with
  | .tmp j=>T.get env j
  | .cell j size=>ob (T.get env j) λp=>mo p λid off=>aO (m.get id) λrs n rows=>match size with
   | none=>cell1 rs n rows off
   | some k=>ob (nR rs n rows off k) λl=>some (.agg l)) λv=>ob (results rs env m) λl=>some (v::l):=rfl
def aeb (tmps:Array Value):ResultVar->Sem Value
 | .tmp t=>pure (tmps.getD t undef)
 | .cell a t=>do loadVar t (← asAddr (tmps.getD a undef))
theorem Iu (a:Func)(tmps:Array Value):Go.results a tmps=(do
  let vs ← a.results.mapM (aeb tmps)
  pure (if h:vs.size=1 then vs[0] else .tuple vs)):=by
 unfold Go.results;congr 1
theorem RZ (ad:Addr):asAddr (.pointer (some ad))=pure ad:=rfl
theorem Ai (B:RM P G ι m w.heap){env:T d9}{tmps:Array Value}(d:aW ι (m.nm ι) slots env tmps):∀(l:List ResultVar) (rs:List pF),Gj P slots l=some rs->∀vs,results rs env m=some vs->
  dI (m.nm ι) vs∧(l.mapM (aeb tmps):Sem (List Value)).run P w=.ok (A8 ι vs) w:=by
 intro l;induction l with
 | nil=>intro rs e vs a;simp only [Gj,l7] at e;subst e;have a:some []=some vs:=a;cases a;exact⟨trivial,by simp [A8]⟩
 | cons r l ih=>
  intro rs e vs a;obtain⟨x,k,rfl,h,C⟩:=Wv e;rw [MS] at a;obtain⟨v,b,a⟩:=D7 a;obtain⟨n,A,a⟩:=D7 a;cases a;obtain⟨q,y⟩:=ih k h n A;rcases C with⟨t,j,rfl,hj,rfl⟩ | ⟨t,ty,j,s,rfl,hj,hs,rfl⟩;obtain⟨_,u,c,o,f⟩:=d.val t j hj;have b:env.get j=some v:=b;rw [b] at c;cases c;refine⟨⟨o,q⟩,?_⟩;simp only [aCL,aeb,M0,adg,su,y,f,A8];obtain⟨p,b,g⟩:=D7 b;obtain⟨id,i,rfl,g⟩:=jV g;obtain⟨_,u,c,o,f⟩:=d.val t j hj;rw [b] at c;cases c;obtain⟨D,E⟩:=Ac hs B g;refine⟨⟨E,q⟩,?_⟩;have z:tmps.getD t undef=.pointer (some (ι.at id i)):=by rw [f];simp [o8]
  simp only [aCL,aeb,M0,adg,su,y,z,A8,RZ,D]
theorem KS (l:List d9):o8 ι (result l)=(if h:(A8 ι l).toArray.size=1 then (A8 ι l).toArray[0] else .tuple (A8 ι l).toArray):=by
 match l with
 | []=>simp [result,o8,A8]
 | [v]=>simp [result,A8]
 | v::u::l=>simp [result,o8,A8]
theorem Ww {l:List d9}(h:dI n l):(result l).lt n:=by
 match l with
 | []=>exact trivial
 | [v]=>exact h.1
 | v::u::l=>exact h
theorem aec {a:Type}{b:Option U7}{k:Option a}{r:a}(h:Yc b k=some r):b=some .deferred∧k=some r:=by unfold Yc at h;split at h;exact⟨rfl,h⟩;cases h
def AR (ι:K7):Option d9->FrameMode
 | none=>.returning
 | some x=>.panicking [{v:=o8 ι x,recovered:=false}]
theorem YE {ι:K7}{a:Option d9}:AR ι a≠.run:=by cases a<;>simp [AR]
def Es (ι:K7)(m:Mem)(md:Option d9):Prop:=∀x,md=some x->x.lt (m.nm ι)
theorem Es.step {ι ι':K7}{m b:Mem}{w w':World}{md:Option d9}(h:Es ι m md)(a:Step P G ι m w ι' b w'):Es ι' b md∧AR ι' md=AR ι md:=by
 refine⟨λx c=>d9.Y0 (Mem.bA a.has a.ext) _ (h x c),?_⟩;cases md with
 | none=>rfl
 | some x=>simp only [AR,a.o8 (h x rfl)]
def aed (P:Program)(G:Mem)(dcf:kX):Prop:=∀{f:FuncId} {args:List d9} {md:Option d9} {m:Mem} {outs:List (Mem×Option d9)},dcf f args md m=some outs->
 ae8 P f∧∀{ι:K7} {w:World},RM P G ι m w.heap->dI (m.nm ι) args->Es ι m md->
  CallsDIn Fence.wide 0 P f (A8 ι args).toArray (AR ι md) w λe u' w'=>∃v,e=.returned v∧∃r∈outs,∃ι',Step P G ι m w ι' r.1 w'∧Es ι' r.1 r.2∧settle u'=AR ι' r.2
theorem Fx {q:kX}(M:aed P G q){K:Func}{rs:List pF}(O:Gj P slots K.results.toList=some rs){J:K7}{S:Mem}{U:World}{C:List VM}:
  ∀(k:List Mk) (m:Mem) (ι:K7) (w:World) (env:T d9) (tmps:Array Value) (ds:List Deferred) (md:Option d9) (vs:List VM),
  Step P G J S U ι m w->aW ι (m.nm ι) slots env tmps->jf ι m k ds->Es ι m md->Hf q (Au rs env) k md m=some vs->(∀v∈vs,v∈C)->
  LeavesInM Fence.wide 0 P K tmps (dK P G J S U C) ds (AR ι md) w:=by
 intro k;induction k with
 | nil=>
  intro m ι w env tmps ds md vs j z s A g n;rw [s.1];have g:Au rs env md m=some vs:=g;show LeavesIn Fence.wide 0 P K tmps _ [] (AR ι md) w;cases md with
  | none=>have g:ob (results rs env m) (λl=>one (result l) m)=some vs:=g;obtain⟨l,X,g⟩:=D7 g;cases g;obtain⟨V,W⟩:=Ai j.rm z _ rs O l X;refine⟨o8 ι (result l),?_,.inl ⟨_,rfl,⟨result l,m⟩,n _ (ql.2 rfl),ι,j,Ww V,rfl⟩⟩;rw [KS,Iu,aA2];simp only [M0,map_eq_pure_bind,bind_assoc,pure_bind];rw [W];simp
  | some x=>have g:some [(⟨.dD x,m⟩:VM)]=some vs:=g;cases g;exact .inr ⟨_,n _ (ql.2 rfl),x,ι,rfl,j,A x rfl,rfl⟩
 | cons y k ih=>
  intro m ι w env tmps ds md vs j z s A g n;have u:jf ι m k (k.map (vN ι)):=⟨rfl,λi hi=>s.2 i (adh _ hi)⟩;have R:=s.2 y (by simp);rw [s.1];refine⟨YE,?_⟩;cases y with
  | c id=>
   have g:Yc (m.get id) (Hf q (Au rs env) k md (m.set id .dead))=some vs:=g;obtain⟨B,g⟩:=aec g;have L:w.heap[(ι id).b]?=some (.deferred (some [])):=j.rm.blk id _ B;have p:Step P G ι m w ι (m.set id .dead) (w.putObj (ι id).b (.deferred none)):=
    Step.set j.rm R.2 B rfl rfl (o:=.deferred none) ⟨rfl,rfl,rfl,rfl⟩ trivial (by intro _ _ _ h;cases h)
   refine .inl ⟨(ι id).b,_,rfl,run_takeDeferred L,?_⟩;exact ih (m.set id .dead) ι _ env tmps _ md vs (j.trans p) (p.env z) (u.step p) (A.step p).1 g n
  | d v args=>
   obtain⟨⟨H,a,b,rfl⟩,N,D⟩:=R;have g:bnd (Yd q (.func H a b) args md m) (λr=>Hf q (Au rs env) k r.2 r.1)=some vs:=g;obtain⟨os,t,hk⟩:=dL g;cases H with
   | func f=>have t:q f (bU a (bU args b)) md m=some os:=t;rw [U9,U9] at t;obtain⟨Z,E⟩:=M t;obtain⟨_,Y,L⟩:=N;refine .inr ⟨(λh=>by cases h),.func f,(A8 ι b).toArray,f,(A8 ι (a++(args++b))).toArray,rfl,?_,(λ_ _=>trivial),?_⟩;show (invoke (.fn (.func f) (A8 ι b).toArray) ((A8 ι a).toArray++(A8 ι args).toArray)).run P w=_;simp [invoke,oJ Z,lF];refine CallsDIn.mono (E j.rm (jZ Y (jZ D L)) A) ?_;rintro e u' w' ⟨v,rfl,r,hr,ι',hst',hmd',hset⟩;obtain⟨Q,I,F⟩:=hk r hr;show LeavesInM Fence.wide 0 P K tmps _ (k.map (vN ι)) (settle u') w';rw [hset];exact ih r.1 ι' w' env tmps _ r.2 Q (j.trans hst') (hst'.env z) (u.step hst') hmd' I (λv g=>n v (F v g))
   | _=>cases t
structure qG (P:Program)(f:FuncId)(sf:K3):Prop where
 ok:ae8 P f
 is:∃(slots:List Nat) (fn:Func) (c:Code) (ac:ay) (rs:List pF),P.funcs[f]?=some fn∧fn.body=some c∧X9 P slots c=some ac∧Gj P slots fn.results.toList=some rs∧
  tmpsIn fn.ntmps c=true∧(∀t∈slots,t<fn.ntmps)∧slots.length<2^60∧
  sf.args=(List.range (fn.params.size+fn.nfree)).map (λt=>idxOf t slots 0)∧sf.nslots=slots.length∧sf.results=rs∧sf.code=wI ac∧∀c',sf.rcode=some c'->c'=ac
theorem YF:∀(l:List Value) (k:Nat) (A:Array Value) (i:Nat),(((List.range' k l.length).zip l).foldl (λt (p,v)=>t.setIfInBounds p v) A).size=A.size∧
  (((List.range' k l.length).zip l).foldl (λt (p,v)=>t.setIfInBounds p v) A)[i]?=if k<=i∧i<k+l.length∧i<A.size then l[i-k]? else A[i]?:=by
 intro l;induction l with
 | nil=>intro k A i;simp;omega
 | cons v l ih=>
  intro k A i;have e:((List.range' k (v::l).length).zip (v::l)).foldl (λt (p,v)=>t.setIfInBounds p v) A=((List.range' (k+1) l.length).zip l).foldl (λt (p,v)=>t.setIfInBounds p v) (A.setIfInBounds k v):=by simp [List.range'_succ]
  obtain⟨a,b⟩:=ih (k+1) (A.setIfInBounds k v) i;rw [e];refine⟨by rw [a];simp,?_⟩;rw [b];simp only [Array.size_setIfInBounds,adk];by_cases hk:i=k;subst hk;rw [if_neg (by omega)];by_cases hs:i<A.size;rw [if_pos (by omega),O8 hs];simp;rw [if_neg (by omega),azJ (aq8 hs)];rw [O7 (λe=>hk e.symm)];by_cases hc:k+1<=i∧i<k+1+l.length∧i<A.size;rw [if_pos hc,if_pos (by omega),show i-k=(i-(k+1))+1 from by omega];simp;rw [if_neg hc,if_neg (by omega)]
theorem Sb (vs:List Value)(a:Nat):((List.range vs.length).zip vs).foldl (λt (p,v)=>t.setIfInBounds p v) (Array.replicate (max vs.length a) undef)=vs.toArray++Array.replicate (a-vs.toArray.size) undef:=by apply akc;intro i;rw [azQ,(YF vs 0 _ i).2];simp only [Array.size_replicate,adC,true_and,S9,Nat.sub_zero];by_cases h:i<vs.length;rw [if_pos (by omega),aAk (by simpa using h)];simp;rw [if_neg (by omega),Array.getElem?_append_right (by simpa using h)];simp only [ay2,akW];by_cases h2:i<max vs.length a;rw [if_pos h2,if_pos (by omega)];rw [if_neg h2,if_neg (by omega)]
theorem KT {a:Func}(l:∀t∈slots,t<a.ntmps)(n:slots.length<2^60){args:List d9}{env:T d9}(b:dI (m.nm ι) args)
  (hp:eZ ((List.range (a.params.size+a.nfree)).map λt=>idxOf t slots 0) args (T.rep .undef slots.length .e 0)=some env):
  args.length=a.params.size+a.nfree∧aW ι (m.nm ι) slots env ((A8 ι args).toArray++Array.replicate (a.ntmps-(A8 ι args).toArray.size) undef)∧
   a.ntmps<=((A8 ι args).toArray++Array.replicate (a.ntmps-(A8 ι args).toArray.size) undef).size:=by
 have c:aW ι (m.nm ι) slots (T.rep .undef slots.length .e 0) (Array.replicate (max (A8 ι args).length a.ntmps) undef):=by
  refine⟨by have:=T.RA d9.undef slots.length .e 0 .e;simpa using this,n,λt j o=>?_⟩;have d:=wP o;have f:t∈slots:=by have:=d.2.2;exact O0 this
  have:=l t f;refine⟨by simp;omega,.undef,?_,trivial,?_⟩;rw [T.Mw _ _ _ _ .e,if_neg (by omega),if_pos d.2.1];rw [M9,ay2];rw [mP];split<;>rfl
 obtain⟨h,i,k⟩:=vO (List.range (a.params.size+a.nfree)) args _ env _ c b hp;rw [aAt] at h;have g:=Sb (A8 ι args) a.ntmps;rw [bF,h] at g;rw [bF,h] at i k;rw [g] at i k;refine⟨h,i,?_⟩;rw [Array.size_append,Array.size_replicate];omega
theorem PL {cf:H8}(F:rZ P G cf){y:kX}(z:aed P G y)(d:Nat)(v:∀slots nt r,mQ P G slots nt cf r){f:FuncId}{sf:K3}(hf:qG P f sf){args:List d9}{s:List VM}(h:oC cf y d sf args m=some s)(hm:RM P G ι m w.heap)(u:dI (m.nm ι) args):
  CallsIn Fence.wide 0 P f (A8 ι args).toArray w (dK P G ι m w s):=by
 obtain⟨_,slots,H,c,N,rs,V,W,X,I,Y,Z,h7,O,Q,R,S,_⟩:=hf;obtain⟨E,J,h⟩:=D7 h;obtain⟨os,A,hk⟩:=dL h;rw [O,Q] at J;obtain⟨g1,T,U⟩:=KT Z h7 u J;refine callsIn_of_wp_marks V W trivial ?_;rw [S] at A;refine uQ F d (v slots H.ntmps none) c N X Y _ none E m [] ι w {tmps:=(A8 ι args).toArray++Array.replicate (H.ntmps-(A8 ι args).toArray.size) undef,defers:=[]} os hm T U ⟨rfl,λ_ h=>by cases h⟩ ⟨rfl,λ_ h=>by cases h⟩ A ?_;intro o ho C M D k g K i j;obtain⟨L,B,l⟩:=hk o ho;obtain⟨t,b,q,p,a⟩:=o;rw [R] at B;rcases uP B with⟨n,hl⟩ | ⟨id,n,hl⟩ | ⟨n,hl⟩;obtain rfl:t=.normal:=n;obtain rfl:a=none:=nk j (by intro e;cases e);exact Fx z I p q C M b D.tmps D.defers none L k g i (λx n=>by cases n) hl l;cases hl;obtain rfl:t=.ret:=n;have:=Fx z I p q C M b D.tmps D.defers a L k g i (λx n=>(j x n).2) hl l;cases a<;>exact this
end
inductive Iw (ops:Array Oper):Nat->Nat->Prop
 | edge {i:Nat} {o:Oper} {e:Edge}:ops[i]?=some o->e∈o.after->Region.binds .any e=true->Iw ops i e.on
 | more {i:Nat} {o:Oper} {e:Edge} {j:Nat}:ops[i]?=some o->e∈o.after->Region.binds .any e=true->Iw ops e.on j->Iw ops i j
theorem Iw.trans {ops:Array Oper}{i j k:Nat}(h:Iw ops i j)(g:Iw ops j k):Iw ops i k:=by
 induction h with
 | edge h1 h2 h3=>exact .more h1 h2 h3 g
 | more h1 h2 h3 _ ih=>exact .more h1 h2 h3 (ih g)
theorem Wx (a:List Nat)(j:Nat):∀(l:List Edge) (s:Nat),Nat.testBit (l.foldl (λs x=>if Region.binds .any x then s ||| (1 <<< x.on) ||| (a.getD x.on 0) else s) s) j=true->
  Nat.testBit s j=true∨∃e∈l,Region.binds .any e=true∧(j=e.on∨Nat.testBit (a.getD e.on 0) j=true):=by
 intro l;induction l with
 | nil=>intro s h;exact .inl h
 | cons e l ih=>
  intro s h;rw [at0] at h;rcases ih _ h with h | ⟨e',h1,h2⟩;cases hb:Region.binds .any e with
  | false=>rw [hb] at h;exact .inl (by simpa using h)
  | true=>rw [hb] at h;simp only [if_true,Nat.testBit_or,asg] at h;rcases h with (h | h) | h;exact .inl h;refine .inr ⟨e,by simp,hb,.inl ?_⟩;rw [Nat.one_shiftLeft,Nat.testBit_two_pow] at h;exact (of_decide_eq_true h).symm;exact .inr ⟨e,by simp,hb,.inr h⟩
  exact .inr ⟨e',adh _ h1,h2⟩
theorem qh (ops:Array Oper)(i j:Nat)(h:mOf (masks ops.toList) i j=true):Iw ops i j:=by
 have d:∀(l:List Oper) (a:List Nat),(∀k,k<l.length->ops[a.length+k]?=l[k]?)->(∀i j,Nat.testBit (a.getD i 0) j=true->Iw ops i j)->
   ∀i j,Nat.testBit ((l.foldl (λa o=>a ++ [bitsOf o.after a]) a).getD i 0) j=true->Iw ops i j:=by
  intro l;induction l with
  | nil=>intro a _ h;exact h
  | cons o l ih=>
   intro a c h;rw [at0];refine ih _ (λk f=>?_) ?_;have:=c (k+1) (by simpa using f);simpa [ada,an6 1] using this;intro i j b;by_cases hi:i<a.length;refine h i j ?_;simpa [U0,ade hi] using b;by_cases hi2:i=a.length;subst hi2;have b:Nat.testBit (bitsOf o.after a) j=true:=by simpa [U0] using b
   have g:ops[a.length]?=some o:=by have:=c 0 (by simp);simpa using this
   rcases Wx a j o.after.toList 0 b with h0 | ⟨e,h1,h2,h3⟩;simp at h0;rcases h3 with rfl | h3;exact .edge g (by simpa using h1) h2;exact .more g (by simpa using h1) h2 (h _ _ h3);have:(a ++ [bitsOf o.after a]).getD i 0=0:=by rw [U0,akp (by simp;omega)];rfl
   rw [this] at b;simp at b
 refine d ops.toList [] (λk f=>by simp) (λi j b=>by simp at b) i j h
def MU (ops:Array Oper)(listed:Array Bool):Prop:=∀i o,listed.getD i false=true->ops[i]?=some o->∀e∈o.after,Region.binds .any e=true->listed.getD e.on false=true
theorem Iw.listed {ops:Array Oper}{listed:Array Bool}(c:MU ops listed){i j:Nat}(h:Iw ops i j):
  (∀o,ops[i]?=some o->∀e∈o.after,Region.binds .any e=true->listed.getD e.on false=true)->listed.getD j false=true:=by
 induction h with
 | edge ho he hb=>intro a;exact a _ ho _ he hb
 | more ho he hb _ ih=>intro a;exact ih λd b=>c _ d (a _ ho _ he hb) b
theorem AU:∀{l:List Nat},OQ l=true->l.Nodup
 | [],_=>List.nodup_nil
 | x::l,h=>by simp only [OQ,D5,azF] at h;refine azO.2 ⟨λhx=>?_,AU h.2⟩;have:=h.1;simp [hx] at this
theorem PN {ms:List Nat}{ops:Array Oper}:∀{l before:List (Nat×Inst)},zf ms ops l before=true->∀p y,l[p]?=some y->wN ms ops y.1 y.2 ((l.take p).reverse++before)=true
 | [],_,_,p,y,hp=>by simp at hp
 | z::l,before,h,p,y,hp=>by
  simp only [zf,D5] at h;cases p with
  | zero=>simp at hp;subst hp;simpa using h.1
  | succ p=>have:=PN h.2 p y (by simpa using hp);simpa using this
structure DS where
 ls:List d9
 env:T d9
 m:Mem
 gs:List Mem
def RdB (o:Rs)(g:Option (V9×Bool))(s:DS)(v:d9):Prop:=
 g=none∧∃y id off len cp,o=.bytesStr y∧H9 y s.ls s.env=.slice id off len cp∧isVoid ((hd s.m s.gs).get id)=true∧isCells (s.m.get id)=true∧aN (H9 y) s.ls s.env s.m=some v
def DStep (cf:H8)(b:Nat)(x:Nat×Inst)(s s':DS):Prop:=
 ∃v,s'.ls=v::s.ls∧s'.env=iM x.2.dst v s.env∧match x.2.op with
  | .p o=>Gh x.2.guard (oQ o) s.ls s.env=some v∧s'.m=s.m∧s'.gs=s.gs
  | .r o=>((BM x.2.guard (wF o) s.ls s.env (hd s.m s.gs)=some v∧stable (BM x.2.guard (wF o)) s.ls s.env v x.1 (tl s.gs)=true)∨RdB o x.2.guard s v)∧True∧s'.m=s.m∧s'.gs=s.gs
  | .a o=>∃r,Rv x.2.guard (Fa o) s.ls s.env (b+x.1)=some r∧v=r.1∧isVoid (s.m.get (b+x.1))=true∧qO (b+x.1) s.gs=true∧s'.m=VQ s.m (b+x.1) r.2∧s'.gs=s.gs
  | .e o=>Mq x.2.guard (vJ o) cf s.ls s.env s.m=some [⟨v,s'.m⟩]∧s'.gs=s'.m::s.gs∧¬ ∃x,v=.dD x
theorem aee {α b:Type}{x:Option (List α)}{f:α->Option b}{r:b}(h:Rw x f=some r):∃a,x=some [a]∧f a=some r:=by
 cases x with
 | none=>cases h
 | some l=>match l,h with
  | [a],h=>exact⟨a,rfl,h⟩
  | [],h=>cases h
  | _ :: _ :: _,h=>cases h
def GStep (x:Nat×Inst)(s s':DS):Prop:=
 ∃v,s'.ls=v::s.ls∧s'.env=iM x.2.dst v s.env∧s'.m=s.m∧s'.gs=(if J7 x.2=true then s'.m::s.gs else s.gs)∧∀o,x.2.op≠.a o
def PO (cf:H8)(b:Nat)(x:Nat×Inst)(s s':DS):Prop:=DStep cf b x s s'∨GStep x s s'
theorem Wy {cf:H8}{b:Nat}{x:Nat×Inst}{j:GF}{k:DC}{s:DS}{outs:List EM}(h:ajB x.1 x.2.op x.2.dst x.2.guard j k cf b s.ls s.env s.m s.gs=some outs):
  (∃s',DStep cf b x s s'∧k cf b s'.ls s'.env s'.m s'.gs=some outs)∨
  ∃eo y m',x.2.op=.e eo∧Mq x.2.guard (vJ eo) cf s.ls s.env s.m=some [⟨.dD y,m'⟩]∧j (.undef::s.ls) (iM x.2.dst .undef s.env)=true∧outs=[⟨s.env,m',some y,[]⟩]:=by
 obtain⟨c,op,dst,guard⟩:=x;unfold DStep;cases op with
 | p o=>obtain⟨v,g,h⟩:=D7 h;exact .inl ⟨⟨v::s.ls,iM dst v s.env,s.m,s.gs⟩,⟨v,rfl,rfl,g,rfl,rfl⟩,h⟩
 | r o=>
  have d:∀{f:RF},f=BM guard (wF o)->vV f c (iM dst) k cf b s.ls s.env s.m s.gs=some outs->(∃s':DS,(∃v,s'.ls=v::s.ls∧s'.env=iM dst v s.env∧((BM guard (wF o) s.ls s.env (hd s.m s.gs)=some v∧stable (BM guard (wF o)) s.ls s.env v c (tl s.gs)=true)∨RdB o guard s v)∧True∧s'.m=s.m∧s'.gs=s.gs)∧k cf b s'.ls s'.env s'.m s'.gs=some outs):=by rintro f rfl h;obtain⟨v,g,h⟩:=D7 h;obtain⟨i,h⟩:=I8 h;exact⟨⟨v::s.ls,iM dst v s.env,s.m,s.gs⟩,⟨v,rfl,rfl,.inl ⟨g,i⟩,trivial,rfl,rfl⟩,h⟩
  change ajA c o dst guard k cf b s.ls s.env s.m s.gs=some outs at h
  unfold ajA at h;split at h;rename_i y;unfold JV at h;split at h;rename_i id n l q u;cases hvo:isVoid ((hd s.m s.gs).get id) with
  | false=>rw [hvo] at h;exact .inl (d rfl h)
  | true=>rw [hvo] at h;obtain⟨g,h⟩:=I8 h;obtain⟨v,i,h⟩:=D7 h;exact .inl ⟨⟨v::s.ls,iM dst v s.env,s.m,s.gs⟩,⟨v,rfl,rfl,.inr ⟨rfl,y,id,n,l,q,rfl,u,hvo,g,i⟩,trivial,rfl,rfl⟩,h⟩
  exact .inl (d rfl h);exact .inl (d rfl h)
 | a o=>obtain⟨r,g,h⟩:=D7 h;obtain⟨i,h⟩:=I8 h;obtain⟨t,h⟩:=I8 h;exact .inl ⟨⟨r.1::s.ls,iM dst r.1 s.env,VQ s.m (b+c) r.2,s.gs⟩,⟨r.1,rfl,rfl,r,g,rfl,i,t,rfl,rfl⟩,h⟩
 | e o=>obtain⟨r,g,h⟩:=aee h;obtain⟨v,m'⟩:=r;have h:fD v (λx=>bi (j (.undef::s.ls) (iM dst .undef s.env)) (some [⟨s.env,m',some x,[]⟩]) none) (k cf b (v::s.ls) (iM dst v s.env) m' (m'::s.gs))=some outs:=h;by_cases hx:∃x,v=.dD x;obtain⟨x,rfl⟩:=hx;have h:bi (j (.undef::s.ls) (iM dst .undef s.env)) (some [(⟨s.env,m',some x,[]⟩:EM)]) none=some outs:=h;obtain⟨i,h⟩:=I8 h;cases h;exact .inr ⟨o,x,m',rfl,g,i,rfl⟩;rw [UJ hx] at h;exact .inl ⟨⟨v::s.ls,iM dst v s.env,m',m'::s.gs⟩,⟨v,rfl,rfl,g,rfl,hx⟩,h⟩
def Waits (x:Nat×Inst)(p:Nat)(A:Nat->Prop):Prop:=(∃o,x.2.op=.e o)∨∃k,(V9.loc k∈GI x.2.op∨∃wt,x.2.guard=some (.loc k,wt))∧A k
theorem Iy {d:List Bool}{i:Inst}(h:Fb d i=true):∃k,(V9.loc k∈GI i.op∨∃wt,i.guard=some (.loc k,wt))∧d.getD k false=true:=by
 have b:∀y,Ya d y=true->∃k,y=.loc k∧d.getD k false=true:=λy a=>by
  cases y with
  | loc k=>exact⟨k,rfl,a⟩
  | slot j=>cases a
  | con c=>cases a
 unfold Fb at h;rcases Bool.or_eq_true_iff.1 h with h | h;obtain⟨y,a,h⟩:=List.any_eq_true.1 h;obtain⟨k,rfl,e⟩:=b y h;exact⟨k,.inl a,e⟩;cases hg:i.guard with
 | none=>rw [hg] at h;cases h
 | some q=>obtain⟨y,wt⟩:=q;rw [hg] at h;obtain⟨k,rfl,e⟩:=b y h;exact⟨k,.inr ⟨wt,rfl⟩,e⟩
theorem YG {cf:H8}{b:Nat}:∀(l:List (Nat×Inst)) (ds:List Bool) (s:DS),BN l ds s.ls s.env=true->
  ∃(S:Nat->DS) (D:Nat->Bool),S 0=s∧∀p x,l[p]?=some x->x.2.dst=none∧((D p=false∧DStep cf b x (S p) (S (p+1)))∨
   (D p=true∧GStep x (S p) (S (p+1))∧Waits x p λk=>(∃q,q<p∧k=p-1-q∧D q=true)∨(p<=k∧ds.getD (k-p) false=true))):=by
 intro l;induction l with
 | nil=>intro ds s _;exact⟨λ_=>s,λ_=>false,rfl,λp x t=>by simp at t⟩
 | cons x l ih=>
  intro ds s h;have c:∀(g:Bool) (i:DS),BN l (g::ds) i.ls i.env=true->x.2.dst=none->((g=false∧DStep cf b x s i)∨(g=true∧GStep x s i∧Waits x 0 λk=>ds.getD k false=true))->
    ∃(S:Nat->DS) (D:Nat->Bool),S 0=s∧∀p y,(x::l)[p]?=some y->y.2.dst=none∧((D p=false∧DStep cf b y (S p) (S (p+1)))∨
     (D p=true∧GStep y (S p) (S (p+1))∧Waits y p λk=>(∃q,q<p∧k=p-1-q∧D q=true)∨(p<=k∧ds.getD (k-p) false=true))):=by
   intro g i A d n;obtain⟨S,D,w,z⟩:=ih (g::ds) i A;refine⟨λp=>match p with | 0=>s | p+1=>S p,λp=>match p with | 0=>g | p+1=>D p,rfl,λp y t=>?_⟩;cases p with
   | zero=>simp at t;subst t;refine⟨d,?_⟩;show (g=false∧DStep cf b x s (S 0))∨(g=true∧GStep x s (S 0)∧_);rw [w];rcases n with n | ⟨n,h3,h4⟩;exact .inl n;refine .inr ⟨n,h3,?_⟩;rcases h4 with h4 | ⟨k,h4,h5⟩;exact .inl h4;exact .inr ⟨k,h4,.inr ⟨adC _,by simpa using h5⟩⟩
   | succ p=>
    obtain⟨B,u⟩:=z p y (by simpa using t);refine⟨B,?_⟩;rcases u with u | ⟨u,q3,q4⟩;exact .inl u;refine .inr ⟨u,q3,?_⟩;rcases q4 with q4 | ⟨k,q4,q5⟩;exact .inl q4;refine .inr ⟨k,q4,?_⟩;rcases q5 with⟨q,r1,r2,r3⟩ | ⟨r1,r2⟩;exact .inl ⟨q+1,by omega,by omega,r3⟩;cases hk:k-p with
    | zero=>rw [hk] at r2;exact .inl ⟨0,by omega,by omega,by simpa using r2⟩
    | succ j=>rw [hk] at r2;exact .inr ⟨by omega,by rw [show k-(p+1)=j from by omega];simpa using r2⟩
  unfold BN at h;cases d:x.2.dst with
  | some j=>rw [d] at h;cases h
  | none=>
   rw [d] at h;have f:∀v:d9,iM x.2.dst v s.env=s.env:=λv=>by rw [d];rfl
   cases ho:x.2.op with
   | e o=>rw [ho] at h;exact c true ⟨.undef::s.ls,s.env,s.m,s.m::s.gs⟩ h d (.inr ⟨rfl,⟨.undef,rfl,(f _).symm,rfl,by simp [J7,ho],by simp [ho]⟩,.inl ⟨o,ho⟩⟩)
   | a o=>rw [ho] at h;cases h
   | r o=>
    rw [ho] at h;cases hdd:Fb ds x.2 with
    | false=>simp only [hdd,cond_false] at h;cases h
    | true=>simp only [hdd,cond_true] at h;exact c true ⟨.undef::s.ls,s.env,s.m,s.gs⟩ h d (.inr ⟨rfl,⟨.undef,rfl,(f _).symm,rfl,by simp [J7,ho],by simp [ho]⟩,.inr (Iy hdd)⟩)
   | p o=>
    rw [ho] at h;cases hdd:Fb ds x.2 with
    | true=>simp only [hdd,cond_true] at h;exact c true ⟨.undef::s.ls,s.env,s.m,s.gs⟩ h d (.inr ⟨rfl,⟨.undef,rfl,(f _).symm,rfl,by simp [J7,ho],by simp [ho]⟩,.inr (Iy hdd)⟩)
    | false=>
     simp only [hdd,cond_false] at h;have h:(Option.rec false (λv=>BN l (false::ds) (v::s.ls) s.env) (Gh x.2.guard (oQ o) s.ls s.env):Bool)=true:=h;cases hv:Gh x.2.guard (oQ o) s.ls s.env with
     | none=>rw [hv] at h;cases h
     | some v=>rw [hv] at h;refine c false ⟨v::s.ls,s.env,s.m,s.gs⟩ h d (.inl ⟨rfl,v,rfl,(f _).symm,?_⟩);rw [ho];exact⟨hv,rfl,rfl⟩
theorem Wz {o:BJ}{l:List (Nat×Inst)}{ls:List d9}{env:T d9}(h:adY o l ls env=true):BN l [true] ls env=true:=by
 have a:(bif OH l [true] then BN l [true] else Gt) ls env=true->BN l [true] ls env=true:=λh=>by
  cases hg:OH l [true] with
  | true=>rw [hg] at h;exact h
  | false=>rw [hg] at h;cases h
 unfold adY at h;split at h<;>first | exact a h | cases h
structure an4 (cf:H8)(b:Nat)(l:List (Nat×Inst))(S:Nat->DS)(D:Nat->Bool)(N:Nat)(y:d9)(m':Mem):Prop where
 at_:∃x eo,l[N]?=some x∧x.2.op=.e eo∧Mq x.2.guard (vJ eo) cf (S N).ls (S N).env (S N).m=some [⟨.dD y,m'⟩]
 lo:∀p,p<N->D p=false
 here:D N=true
 step:∀p x,l[p]?=some x->(D p=false∧DStep cf b x (S p) (S (p+1)))∨(N<=p∧D p=true∧GStep x (S p) (S (p+1))∧(p=N∨Waits x p λk=>∃q,q<p∧k=p-1-q∧D q=true))
 dst:∀p x,N<p->l[p]?=some x->x.2.dst=none
theorem Sc {cf:H8}{b:Nat}:∀(l:List (Nat×Inst)) (s:DS) (outs:List EM),Ed l cf b s.ls s.env s.m s.gs=some outs->
  ∃S:Nat->DS,S 0=s∧(((∀p x,l[p]?=some x->DStep cf b x (S p) (S (p+1)))∧outs=[⟨(S l.length).env,(S l.length).m,none,[]⟩])∨
   ∃N D y m',an4 cf b l S D N y m'∧outs=[⟨(S N).env,m',some y,[]⟩]):=by
 intro l;induction l with
 | nil=>intro s outs h;have h:some [EM.mk s.env s.m none []]=some outs:=h;cases h;exact⟨λ_=>s,rfl,.inl ⟨λp x a=>by simp at a,rfl⟩⟩
 | cons x l ih=>
  intro s outs h;have h:ajB x.1 x.2.op x.2.dst x.2.guard (adY x.2.op l) (Ed l) cf b s.ls s.env s.m s.gs=some outs:=h;rcases Wy h with⟨s',h1,h2⟩ | ⟨g,y,m',h1,h2,h3,h4⟩;obtain⟨S,i,c⟩:=ih s' outs h2;have n:DStep cf b x s (S 0):=by rw [i];exact h1
  refine⟨λp=>match p with | 0=>s | p+1=>S p,rfl,?_⟩;rcases c with⟨c,g3⟩ | ⟨N,D,y,m',c,g3⟩;refine .inl ⟨λp y a=>?_,by simpa using g3⟩;cases p with
  | zero=>simp at a;subst a;exact n
  | succ p=>exact c p y (by simpa using a)
  refine .inr ⟨N+1,λp=>match p with | 0=>false | p+1=>D p,y,m',⟨?_,λp a=>?_,c.here,λp z a=>?_,λp z r a=>?_⟩,g3⟩
  obtain⟨z,g,f,e,d⟩:=c.at_;exact⟨z,g,by simpa using f,e,d⟩;cases p with
  | zero=>rfl
  | succ p=>exact c.lo p (by omega)
  cases p with
  | zero=>simp at a;subst a;exact .inl ⟨rfl,n⟩
  | succ p=>rcases c.step p z (by simpa using a) with q | ⟨f,e,d,q4⟩;exact .inl q;refine .inr ⟨by omega,e,d,?_⟩;rcases q4 with rfl | q4 | ⟨k,q4,q,r1,r2,r3⟩;exact .inl rfl;exact .inr (.inl q4);exact .inr (.inr ⟨k,q4,q+1,by omega,by omega,r3⟩)
  cases p with
  | zero=>omega
  | succ p=>exact c.dst p z (by omega) (by simpa using a)
  have o:J7 x.2=true:=by simp [J7,h1]
  obtain⟨S,D,i,c⟩:=YG (cf:=cf) (b:=b) l [true] ⟨.undef::s.ls,iM x.2.dst .undef s.env,s.m,s.m::s.gs⟩ (Wz h3);refine⟨λp=>match p with | 0=>s | p+1=>S p,rfl,.inr ⟨0,λp=>match p with | 0=>true | p+1=>D p,y,m',⟨⟨x,g,rfl,h1,h2⟩,λp a=>by omega,rfl,λp z a=>?_,λp z r a=>?_⟩,h4⟩⟩;cases p with
  | zero=>simp at a;subst a;refine .inr ⟨aA _,rfl,?_,.inl rfl⟩;show GStep x s (S 0);rw [i];exact⟨.undef,rfl,rfl,rfl,by simp [o],by simp [h1]⟩
  | succ p=>
   obtain⟨_,q⟩:=c p z (by simpa using a);rcases q with q | ⟨f,e,d⟩;exact .inl q;refine .inr ⟨by omega,f,e,.inr ?_⟩;rcases d with d | ⟨k,d,q4⟩;exact .inl d;refine .inr ⟨k,d,?_⟩;rcases q4 with⟨q,r1,r2,r3⟩ | ⟨r1,r2⟩;exact⟨q+1,by omega,by omega,r3⟩;cases hk:k-p with
   | zero=>exact⟨0,by omega,by omega,rfl⟩
   | succ j=>rw [hk] at r2;simp at r2
  cases p with
  | zero=>omega
  | succ p=>exact (c p z (by simpa using a)).1
def iT (ops:Array Oper)(ord:List Nat)(p:Nat):List (Option Nat):=((ord.take p).map λi=>(ops[i]?).bind (·.dst)).reverse
theorem WA {P:Program}{a:List Nat}{ops:Array Oper}:∀(l:List Nat) (done:List (Option Nat)) (insts:List Inst),kY P a ops done l=some insts->
  insts.length=l.length∧∀p i,l[p]?=some i->∃x o,insts[p]?=some x∧ops[i]?=some o∧OP P a (iT ops l p++done) ops i=some (x,o.dst):=by
 intro l;induction l with
 | nil=>intro done insts h;simp only [kY,l7] at h;subst h;exact⟨rfl,λp i b=>by simp at b⟩
 | cons j l ih=>
  intro done insts h;obtain⟨x,d,t,e,q,rfl⟩:=qY h;obtain⟨m,n⟩:=ih _ _ q;obtain⟨o,c,rfl,_⟩:=zn e;refine⟨by simp [m],λp i b=>?_⟩;cases p with
  | zero=>simp at b;subst b;exact⟨x,o,rfl,c,by simpa [iT] using e⟩
  | succ p=>
   obtain⟨s,r,f,g,k⟩:=n p i (by simpa using b);refine⟨s,r,by simpa using f,g,?_⟩;have:iT ops (j::l) (p+1)++done=iT ops l p++o.dst::done:=by simp [iT,c]
   rw [this];exact k
theorem PS (b:List Nat):∀(l:List (Nat×Inst)) (effs:List Nat) (nal:Nat),(numbered b l effs nal).length=l.length∧
  ∀p i x,l[p]?=some (i,x)->∃c,(numbered b l effs nal)[p]?=some (c,x)∧
   (isR x=true->c=(((((l.take p).filter λy=>J7 y.2).map (·.1)).reverse++effs).takeWhile λe=>!mOf b i e).length)∧
   (isR x=false->c=nal+((l.take p).filter λy=>isA y.2).length):=by
 intro l;induction l with
 | nil=>intro effs nal;exact⟨rfl,λp i x a=>by simp at a⟩
 | cons z l ih=>
  intro effs nal;obtain⟨j,y⟩:=z;obtain⟨k,m⟩:=ih (if J7 y then j::effs else effs) (if isA y then nal+1 else nal);refine⟨by simp [numbered,k],λp i x a=>?_⟩;cases p with
  | zero=>simp at a;obtain⟨rfl,rfl⟩:=a;exact⟨_,rfl,λh=>by simp [ajC,h],λh=>by simp [ajC,h]⟩
  | succ p=>
   obtain⟨c,d,f,g⟩:=m p i x (by simpa using a);refine⟨c,by simpa [numbered] using d,λh=>?_,λh=>?_⟩;rw [f h];cases hy:J7 y<;>simp [hy]
   rw [g h];cases hy:isA y<;>simp [hy];omega
def Mem.sub (m m':Mem):Prop:=∀i b,m.get i=some b->jd b=false->m'.get i=some b
theorem AV {c:Type}{m a:Mem}(h:m.sub a){i:Nat}{k:Nat->Nat->T (List d9)->Option c}{r:c}(f:aO (m.get i) k=some r):aO (a.get i) k=some r:=by obtain⟨g,n,b,d,e⟩:=oU f;rw [h i _ d rfl];exact e
theorem MV {b:Type}{m a:Mem}(h:m.sub a){i:Nat}{k:List (d9×d9)->Option b}{r:b}(e:VP (m.get i) k=some r):VP (a.get i) k=some r:=by obtain⟨f,c,d⟩:=AB e;rw [h i _ c rfl];exact d
theorem Ct {m c:Mem}(h:m.sub c){i off n:Nat}{l:List d9}(b:V4 m i off n=some l):V4 c i off n=some l:=by
 cases n with
 | zero=>exact b
 | succ n=>exact AV h (k:=λd k a=>J8 d k a (n+1) off) b
theorem aef {m d:Mem}(h:m.sub d){o:Rs}{ls:List d9}{env:T d9}{v:d9}(b:wF o ls env m=some v):wF o ls env d=some v:=by
 cases o with
 | load size x=>
  cases size with
  | none=>obtain⟨id,off,a,b⟩:=jV b;have a:H9 x ls env=.ptr id off:=a;show mo (H9 x ls env) _=_;rw [a];exact AV h b
  | some k=>obtain⟨id,off,a,b⟩:=jV b;have a:H9 x ls env=.ptr id off:=a;show mo (H9 x ls env) _=_;rw [a];exact AV h b
 | look kk z ok x y=>rcases zk b with⟨a,b⟩ | ⟨id,a,b⟩;have a:H9 x ls env=.nilMap:=a;show wo (H9 x ls env) _ _=_;rw [a];exact b;have a:H9 x ls env=.map id:=a;show wo (H9 x ls env) _ _=_;rw [a];exact MV h b
 | lenM x=>rcases zk b with⟨a,b⟩ | ⟨id,a,b⟩;have a:H9 x ls env=.nilMap:=a;show wo (H9 x ls env) _ _=_;rw [a];exact b;have a:H9 x ls env=.map id:=a;show wo (H9 x ls env) _ _=_;rw [a];exact MV h b
 | bytesStr x=>rcases wR b with⟨a,b⟩ | ⟨id,off,len,cap,a,b⟩ | ⟨id,off,len,cap,a,b⟩;have a:H9 x ls env=.nilSlice:=a;show ze (H9 x ls env) _ _ _=_;rw [a];exact b;have a:H9 x ls env=.slice id off len cap:=a;show ze (H9 x ls env) _ _ _=_;rw [a];obtain⟨l,c,b⟩:=D7 b;show ob (V4 d id off len) _=_;rw [Ct h c];exact b;have a:H9 x ls env=.sliceU id off len cap:=a;show ze (H9 x ls env) _ _ _=_;rw [a];obtain⟨l,c,b⟩:=D7 b;show ob (V4 d id off len) _=_;rw [Ct h c];exact b
 | entry x=>
  obtain⟨id,off,a,b⟩:=jV b;have a:H9 x ls env=.ptr id off:=a;show mo (H9 x ls env) _=_;rw [a];obtain⟨c,b⟩:=I8 b;show bi (Nat.beq off 0) _ none=_;rw [c];rcases HZ b with⟨_,_,_,b⟩ | ⟨mp,since,seen,h3,b⟩;cases b;show UC (d.get id) _ _=_;rw [h id _ h3 rfl];cases seen with
  | nil=>cases b
  | cons i t=>exact MV h b
theorem mR {f:d9->d9->Bool}(hf:∀x y,f x y=true->x=y):∀a b:List d9,uD f a b=true->a=b
 | [],[],_=>rfl
 | [],y::b,h=>by cases h
 | x::a,[],h=>by cases h
 | x::a,y::b,h=>by
  have h:bi (f x y) (uD f a b) false=true:=h;cases hx:f x y with
  | false=>rw [hx] at h;cases h
  | true=>rw [hx] at h;rw [hf x y hx,mR hf a b h]
theorem iU {a b:Bool}(h:bi a b false=true):a=true∧b=true:=by cases a<;>cases b<;>first | exact⟨rfl,rfl⟩ | cases h
theorem kg:∀(n:Nat) (x y:d9),bM n x y=true->x=y:=by
 intro n;induction n with
 | zero=>intro x y h;cases h
 | succ n ih=>
  intro x y h;cases x with
  | bool a=>cases y<;>first | (cases h;done) | (have h:GN _ _=true:=h;rw [Ef] at h;rw [eq_of_beq h])
  | int k a=>
   cases y<;>first | (cases h;done) | skip
   obtain⟨e,g⟩:=iU (a:=kEq _ _) (b:=qK _ _) h;rw [RD] at e;rw [lu] at g;rw [of_decide_eq_true e,eq_of_beq g]
  | str a=>cases y<;>first | (cases h;done) | (have h:strEq _ _=true:=h;rw [BX] at h;rw [eq_of_beq h])
  | ptr a b=>
   cases y<;>first | (cases h;done) | skip
   obtain⟨e,g⟩:=iU (a:=Nat.beq _ _) (b:=Nat.beq _ _) h;rw [rW e,rW g]
  | slice a b c d=>
   cases y<;>first | (cases h;done) | skip
   obtain⟨e,h⟩:=iU (a:=Nat.beq _ _) h;obtain⟨g,h⟩:=iU (a:=Nat.beq _ _) h;obtain⟨i,l⟩:=iU (a:=Nat.beq _ _) h;rw [rW e,rW g,rW i,rW l]
  | sliceU a b c d=>
   cases y<;>first | (cases h;done) | skip
   obtain⟨e,h⟩:=iU (a:=Nat.beq _ _) h;obtain⟨g,h⟩:=iU (a:=Nat.beq _ _) h;obtain⟨i,l⟩:=iU (a:=Nat.beq _ _) h;rw [rW e,rW g,rW i,rW l]
  | map a=>cases y<;>first | (cases h;done) | (have h:Nat.beq _ _=true:=h;rw [rW h])
  | func fn a b=>
   cases fn<;>cases y<;>first | (cases h;done) | skip
   all_goals
   rename_i f j c d;cases j<;>first | (cases h;done) | skip
   obtain⟨e,h⟩:=iU (a:=Nat.beq _ _) h;obtain⟨g,i⟩:=iU h;rw [rW e,mR ih _ _ g,mR ih _ _ i]
  | iface t a=>
   cases y<;>first | (cases h;done) | skip
   obtain⟨e,g⟩:=iU (a:=Nat.beq _ _) h;rw [rW e,ih _ _ g]
  | agg a=>cases y<;>first | (cases h;done) | (rw [mR ih _ _ h])
  | tuple a=>cases y<;>first | (cases h;done) | (rw [mR ih _ _ h])
  | _=>cases y<;>first | rfl | (cases h;done)
theorem Fy {f:RF}{ls:List d9}{env:T d9}{v:d9}:∀{n:Nat} {gs:List Mem},stable f ls env v n gs=true->∀k,k<n->∃g,gs[k]?=some g∧f ls env g=some v
 | 0,_,_,k,hk=>by omega
 | n+1,[],h,k,hk=>by cases h
 | n+1,g::gs,h,k,hk=>by
  have h:bi (Option.rec false (λu=>bM 100 u v) (f ls env g)) (stable f ls env v n gs) false=true:=h;obtain⟨h1,h2⟩:=iU h;cases k with
  | zero=>
   refine⟨g,rfl,?_⟩;cases hf:f ls env g with
   | none=>rw [hf] at h1;cases h1
   | some u=>rw [hf] at h1;rw [kg 100 u v h1]
  | succ k=>obtain⟨g',h3,h4⟩:=Fy h2 k (by omega);exact⟨g',by simpa using h3,h4⟩
theorem xA {b:Option U7}(h:isVoid b=true):b=some .void:=by unfold isVoid at h;split at h;rfl;cases h
theorem Cu {i:Nat}:∀{gs:List Mem},qO i gs=true->∀g∈gs,g.get i=some .void
 | [],_,g,hg=>by cases hg
 | x::gs,h,g,hg=>by obtain⟨h1,h2⟩:=iU (a:=isVoid (x.get i)) (b:=qO i gs) h;rcases O9.1 hg with rfl | hg;exact xA h1;exact Cu h2 g hg
section
variable {P:Program}{G:Mem}{ι:K7}{m:Mem}{w:World}
theorem MW (m:Mem):reserve 0 m=m:=rfl
theorem MX (n:Nat)(m:Mem):reserve (n+1) m=reserve n (m.new .void):=rfl
theorem Iz (h:RM P G ι m w.heap):Step P G ι m w ι (m.new .void) w:=by
 have c:=Mem.Q5 h.ok .void;have o:∀i x,m.get i=some x->i≠m.nx:=λi x a e=>by have:=Mem.N9 h.ok a;omega
 have f:∀i,m.has i->(m.new .void).has i:=λi ⟨x,a,hv⟩=>⟨x,by rw [c,if_neg (o i x a)];exact a,hv⟩;have d:∀i x,(m.new .void).get i=some x->aC x=true->m.get i=some x:=λi x a g=>by rw [c] at a;split at a;cases a;cases g;exact a
 refine⟨⟨h.ok.push .void,?_,?_,h.glim,aA0 h.limn,h.gle,λi k=>by rw [c,if_neg (by have:=h.glim;have:=h.limn;omega)];exact h.base i k,λi k=>f i (h.ghas i k),h.glob,λi x a g=>h.spot i x (d i x a g) g,h.gsz⟩,
  λ_ _=>rfl,f,Nat.le_succ _,rfl,λi k=>by rw [c,if_neg (by have:=h.limn;omega)],aA _,λ_ _ _=>rfl,?_,rfl,rfl,rfl⟩
 intro i x a;rw [c] at a;split at a;cases a;trivial;exact (h.blk i x a).mono (n:=m.nm ι) (λ_ _=>rfl) (Mem.bA f λ_ _=>rfl) λ_=>rfl;intro i x k a g;have p:=h.own i x k (d i x a g) g;exact⟨λj y q r l=>p.alone j y q (d j y r l) l,p.free⟩;rintro b ⟨i,x,k,a,g,rfl⟩;exact .inl ⟨i,x,k,d i x a g,g,rfl⟩
theorem Cv:∀(n:Nat) {m:Mem},RM P G ι m w.heap->Step P G ι m w ι (reserve n m) w
 | 0,_,h=>Step.refl h
 | n+1,_,h=>(Iz h).trans (Cv n (Iz h).rm)
structure aAo (P:Program)(ι:K7)(n:Nm)(h:Array Obj)(id:Nat)(b:U7)(m:Mem):Prop where
 blk:fG P ι n h (ι id) b
 live:jd b=false
 alone:aC b=true->∀j y,j≠id->m.get j=some y->aC y=true->(ι j).b≠(ι id).b
 free:aC b=true->∀c e fz,h[(ι id).b]?=some (.cells c e fz)->∀k,k<c.size->¬ (fz.1<=k∧k<fz.2)
 spot:aC b=true->(ι id).spot=none
theorem Step.add {v:K7}{F:Mem}{C:World}(c:Step P G v F C ι m w){id:Nat}{b:U7}(E:m.get id=some .void)(H:m.lim<=id)(s:aAo P ι ((m.set id b).nm ι) w.heap id b m)
  (u:aC b=true->C.heap.size<=(ι id).b):Step P G v F C ι (m.set id b) w:=by
 have h:=c.rm;have t:=Mem.N9 h.ok E;have g:=Mem.U6 h.ok t b;have A:¬ m.has id:=λ⟨x,q,r⟩=>by rw [E] at q;cases q;cases r
 have l:∀i,m.has i->(m.set id b).has i:=λi k=>by have o:i≠id:=λe=>A (e▸k);obtain⟨x,q,r⟩:=k;exact⟨x,by rw [g,if_neg o];exact q,r⟩
 have a:∀i x,(m.set id b).get i=some x->(i=id∧x=b)∨(i≠id∧m.get i=some x):=λi x f=>by rw [g] at f;split at f;cases f;exact .inl ⟨by assumption,rfl⟩;exact .inr ⟨by assumption,f⟩
 refine⟨⟨h.ok.put id b t,?_,?_,h.glim,h.limn,h.gle,λi k=>by rw [g,if_neg (by have:=h.glim;omega)];exact h.base i k,λi k=>l i (h.ghas i k),h.glob,λi x f d=>by
   rcases a i x f with⟨rfl,rfl⟩ | ⟨_,f⟩;exact s.spot d;exact h.spot i x f d,h.gsz⟩,
  c.ext,λi k=>l i (c.has i k),c.nx,c.lim,λi k=>by rw [g,if_neg (by have:=c.lim;omega)];exact c.old i k,c.size,c.frame,?_,c.os,c.out,c.tape⟩
 intro i x f;rcases a i x f with⟨rfl,rfl⟩ | ⟨o,f⟩;exact s.blk;exact (h.blk i x f).mono (n:=m.nm ι) (λ_ _=>rfl) (Mem.bA l λ_ _=>rfl) λ_=>rfl;intro i x k f d;rcases a i x f with⟨rfl,rfl⟩ | ⟨o,f⟩;refine⟨λj y z B p=>?_,s.free d⟩;rcases a j y B with⟨q,_⟩ | ⟨q,r⟩;exact absurd q z;exact s.alone d j y z r p;rename_i I;have D:=h.own i x k f d;refine⟨λj y z B p=>?_,D.free⟩;rcases a j y B with⟨rfl,rfl⟩ | ⟨q,r⟩;exact λe=>s.alone p i x o f d e.symm;exact D.alone j y z r p;rintro b' ⟨i,x,k,f,d,rfl⟩;rcases a i x f with⟨rfl,rfl⟩ | ⟨o,f⟩;exact .inr (u d);exact c.own _ ⟨i,x,k,f,d,rfl⟩
theorem Step.push {ι':K7}{w':World}{o:Obj}(h:RM P G ι m w.heap)(r:Yj w w' o)(d:∀i,m.has i->ι' i=ι i):Step P G ι m w ι' m w':=by
 have f:∀k,k<w.heap.size->w'.heap[k]?=w.heap[k]?:=λk s=>by rw [r.heap];exact (azK s).trans (ads s).symm
 have u:(m.nm ι).le (m.nm ι'):=Mem.bA (λi p=>p) d;have a:∀i x,m.get i=some x->aC x=true->ι' i=ι i:=λi x g l=>d i (sV g l);refine⟨⟨h.ok,?_,?_,h.glim,h.limn,h.gle,h.base,h.ghas,λi p=>by rw [d i (h.ghas i p)];exact h.glob i p,λi x g l=>by rw [a i x g l];exact h.spot i x g l,h.OV λk s _=>f k s⟩,d,λi p=>p,aA _,rfl,λ_ _=>rfl,by rw [r.heap];simp,λb t _=>f b t,?_,r.os,r.out,r.tape⟩;intro i x g;by_cases hv:jd x=true;cases x<;>first | trivial | cases hv
 rw [d i ⟨x,g,by simpa using hv⟩];exact (h.blk i x g).mono (n:=m.nm ι) d u λl=>f _ (fH (h.blk i x g) l);intro i x p g l;have z:=h.own i x p g l;have t:=fH (h.blk i x g) l;refine⟨λj y C A q=>?_,λc e B v=>?_⟩;rw [a i x g l,a j y A q];exact z.alone j y C A q;rw [a i x g l,f _ t] at v;exact z.free c e B v;rintro b ⟨i,x,p,g,l,rfl⟩;rw [a i x g l];exact .inl ⟨i,x,p,g,l,rfl⟩
end
section
variable {P:Program}{G:Mem}{slots:List Nat}{nt:Nat}{cf:H8}{b:Nat}{ops:Array Oper}{ord:List Nat}{X:Nat->Nat×Inst}{S:Nat->DS}
def PU (ops:Array Oper)(ord:List Nat)(X:Nat->Nat×Inst)(p i:Nat):V9->Prop
 | .loc k=>∃j,k<p∧ord[p-1-k]?=some j∧Iw ops i j
 | .slot j=>∀q,q<p->(X q).2.dst≠some j
 | .con _=>True
def Cw (ord:List Nat)(X:Nat->Nat×Inst):Nat->List Nat
 | 0=>[]
 | p+1=>if J7 (X p).2 then (ord.getD p 0)::Cw ord X p else Cw ord X p
structure Fixed (P:Program)(slots:List Nat)(nt:Nat)(cf:H8)(b:Nat)(ops:Array Oper)(ord:List Nat)(X:Nat->Nat×Inst)(S:Nat->DS):Prop where
 nodup:ord.Nodup
 all:∀i,i<ops.size->i∈ord
 lt:∀i∈ord,i<ops.size
 inst:∀(p i:Nat),ord[p]?=some i->∃o,ops[i]?=some o∧(X p).2.op=pY P slots (iT ops ord p) o.op∧(X p).2.dst=OO slots o.dst∧oM ops (iT ops ord p) o.guard (X p).2.guard
 step:∀p,p<ord.length->PO cf b (X p) (S p) (S (p+1))
 eff:∀(p i:Nat),ord[p]?=some i->J7 (X p).2=true->∀(q j:Nat),q<p->ord[q]?=some j->Iw ops i j
 edges:∀(p i:Nat) (o:Oper),ord[p]?=some i->ops[i]?=some o->∀e∈o.after,Region.binds .any e=true->∃q:Nat,q<p∧ord[q]?=some e.on
 dsts:∀(i j:Nat) (oi oj:Oper) (t:Tmp),ops[i]?=some oi->ops[j]?=some oj->oi.dst=some t->oj.dst=some t->i=j
 looks:∀(i:Nat) (o:Oper) (t:Tmp),ops[i]?=some o->t∈Aw ops o->∀(q:Nat) (oq:Oper),ops[q]?=some oq->q≠i->oq.dst=some t->Iw ops i q∨Iw ops q i
 opd:∀(p i:Nat),ord[p]?=some i->∀y∈GI (X p).2.op,PU ops ord X p i y
 opdg:∀(p i:Nat) (y:V9) (wt:Bool),ord[p]?=some i->(X p).2.guard=some (y,wt)->PU ops ord X p i y
 cnt:∀(p i:Nat) o,ord[p]?=some i->(X p).2.op=.r o->(X p).1=((Cw ord X p).takeWhile λe=>!mOf (masks ops.toList) i e).length
 nal:∀(p q:Nat) o o',p<q->q<ord.length->(X p).2.op=.a o->(X q).2.op=.a o'->(X p).1<(X q).1
 din:∀(i:Nat) (o:Oper) (t:Tmp),ops[i]?=some o->o.dst=some t->t<nt
 gs0:(S 0).gs=[(S 0).m]
 ls0:(S 0).ls=[]
def zo (S:Nat->DS)(p:Nat):d9:=(S (p+1)).ls.headD .undef
def fM (b:Nat)(X:Nat->Nat×Inst)(S:Nat->DS)(p:Nat):Option (Nat×U7):=match (X p).2.op with
 | .a o=>match Rv (X p).2.guard (Fa o) (S p).ls (S p).env (b+(X p).1) with
  | some (_,some blk)=>some (b+(X p).1,blk)
  | _=>none
 | _=>none
def bL (b:Nat)(X:Nat->Nat×Inst)(S:Nat->DS)(q:Nat)(L:Nat->Bool):Nat->Mem
 | 0=>(S q).m
 | d+1=>if L (q+d) then (match fM b X S (q+d) with
    | some (i,blk)=>(bL b X S q L d).set i blk
    | none=>bL b X S q L d)
  else bL b X S q L d
theorem YH {x:Nat×Inst}{s a:DS}(h:PO cf b x s a):∃v,a.ls=v::s.ls∧a.env=iM x.2.dst v s.env:=by rcases h with⟨v,h1,h2,_⟩ | ⟨v,h1,h2,_⟩<;>exact⟨v,h1,h2⟩
theorem PV {x:Nat×Inst}{s c:DS}(h:PO cf b x s c):c.gs=if J7 x.2=true then c.m::s.gs else s.gs:=by
 rcases h with⟨v,h1,h2,h3⟩ | ⟨v,_,_,_,h4,_⟩;cases hop:x.2.op with
 | p o=>rw [hop] at h3;simp [J7,hop,h3.2.2]
 | r o=>rw [hop] at h3;simp [J7,hop,h3.2.2.2]
 | a o=>rw [hop] at h3;obtain⟨_,_,_,_,_,_,h⟩:=h3;simp [J7,hop,h]
 | e o=>rw [hop] at h3;simp [J7,hop,h3.2.1]
 exact h4
theorem Fixed.ls (F:Fixed P slots nt cf b ops ord X S){p:Nat}(hp:p<ord.length):(S (p+1)).ls=zo S p::(S p).ls∧(S (p+1)).env=iM (X p).2.dst (zo S p) (S p).env:=by
 obtain⟨v,a,c⟩:=YH (F.step p hp);have:zo S p=v:=by simp [zo,a]
 rw [this];exact⟨a,c⟩
theorem Fixed.len (F:Fixed P slots nt cf b ops ord X S):∀p,p<=ord.length->(S p).ls.length=p∧∀k,k<p->(S p).ls[k]?=some (zo S (p-1-k)):=by
 intro p;induction p with
 | zero=>intro _;exact⟨by rw [F.ls0];rfl,λk e=>by omega⟩
 | succ p ih=>
  intro f;obtain⟨a,c⟩:=ih (by omega);obtain⟨d,_⟩:=F.ls (p:=p) (by omega);rw [d];refine⟨by simp [a],λk e=>?_⟩;cases k with
  | zero=>simp
  | succ k=>rw [adJ,c k (by omega),show p+1-1-(k+1)=p-1-k from by omega]
theorem Fixed.gs (F:Fixed P slots nt cf b ops ord X S){q:Nat}(i:q=0∨J7 (X (q-1)).2=true):∀d,q+d<=ord.length->
  ∃r:Nat,(S (q+d)).gs[r]?=some (S q).m∧∀k:Nat,k<r->∃pos e,q<=pos∧pos<q+d∧ord[pos]?=some e∧J7 (X pos).2=true∧(Cw ord X (q+d))[k]?=some e:=by
 intro d;induction d with
 | zero=>
  intro v;refine⟨0,?_,λk p=>by omega⟩;rcases i with rfl | i;rw [adw,F.gs0];rfl;cases q with
  | zero=>rw [adw,F.gs0];rfl
  | succ q=>have f:=PV (F.step q (by omega));simp only [Nat.add_sub_cancel] at i;rw [if_pos i] at f;rw [adw,f];rfl
 | succ d ih=>
  intro v;obtain⟨r,s,t⟩:=ih (by omega);have f:=PV (F.step (q+d) (by omega));have h:q+d<ord.length:=by omega
  have g:ord[q+d]?=some (ord.getD (q+d) 0):=by rw [U0,aP h];rfl
  cases he:J7 (X (q+d)).2 with
  | true=>
   have c:(S (q+(d+1))).gs=(S (q+(d+1))).m::(S (q+d)).gs:=by rw [if_pos he] at f;exact f
   refine⟨r+1,by rw [c];simpa using s,λk p=>?_⟩;have a:Cw ord X (q+(d+1))=ord.getD (q+d) 0::Cw ord X (q+d):=by show Cw ord X (q+d+1)=_;simp [Cw,he]
   cases k with
   | zero=>exact⟨q+d,_,by omega,by omega,g,he,by rw [a];rfl⟩
   | succ k=>obtain⟨pos,e,j,u,l,n,o⟩:=t k (by omega);exact⟨pos,e,j,by omega,l,n,by rw [a];simpa using o⟩
  | false=>
   have c:(S (q+(d+1))).gs=(S (q+d)).gs:=by rw [if_neg (by rw [he];exact Bool.false_ne_true)] at f;exact f
   refine⟨r,by rw [c];exact s,λk p=>?_⟩;obtain⟨pos,e,j,u,l,n,o⟩:=t k p;refine⟨pos,e,j,by omega,l,n,?_⟩;have:Cw ord X (q+(d+1))=Cw ord X (q+d):=by show Cw ord X (q+d+1)=_;simp [Cw,he]
   rw [this];exact o
theorem Aj {α:Type}(f:α->Bool):∀(l:List α) (r:Nat),(∀k,k<r->∃e,l[k]?=some e∧f e=true)->r<=(l.takeWhile f).length
 | _,0,_=>adC _
 | [],r+1,h=>by obtain⟨e,h1,_⟩:=h 0 (by omega);simp at h1
 | x::l,r+1,h=>by obtain⟨e,h1,h2⟩:=h 0 (by omega);simp at h1;subst h1;rw [List.takeWhile_cons,if_pos h2];have:=Aj f l r (λk hk=>by obtain⟨e,h3,h4⟩:=h (k+1) (by omega);exact⟨e,by simpa using h3,h4⟩);simpa using this
theorem Fixed.made (F:Fixed P slots nt cf b ops ord X S){p:Nat}(hp:p<ord.length){i:Nat}{c:U7}(h:fM b X S p=some (i,c)):
  i=b+(X p).1∧(∃o,(X p).2.op=.a o∧Rv (X p).2.guard (Fa o) (S p).ls (S p).env (b+(X p).1)=some (zo S p,some c))∧(S (p+1)).m=(S p).m.set i c∧(S p).m.get i=some .void∧∀g∈(S p).gs,g.get i=some .void:=by
 have e:=F.step p hp;unfold fM at h;split at h;rename_i o d;obtain⟨v,t,y,k⟩:=e.resolve_right λ⟨_,_,_,_,_,hh⟩=>hh o d;have w:zo S p=v:=by simp [zo,t]
 rw [d] at k;obtain⟨r,j,l,n,q,s,x⟩:=k;rw [j] at h;obtain⟨u,f⟩:=r;cases f with
 | none=>cases h
 | some f=>cases h;exact⟨rfl,⟨o,d,by rw [j,w,l]⟩,s,xA n,Cu q⟩
 cases h
theorem Fixed.KU (F:Fixed P slots nt cf b ops ord X S){p q:Nat}(hp:p<q)(a:q<ord.length){i j:Nat}{x y:U7}(h:fM b X S p=some (i,x))(h':fM b X S q=some (j,y)):i<j:=by obtain⟨f,⟨o,c,_⟩,_⟩:=F.made (by omega) h;obtain⟨g,⟨e,d,_⟩,_⟩:=F.made a h';have:=F.nal p q o e hp a c d;omega
theorem Fixed.quiet (F:Fixed P slots nt cf b ops ord X S){p:Nat}(hp:p<ord.length)(g:J7 (X p).2=false):(S (p+1)).m=(match fM b X S p with | some (i,blk)=>(S p).m.set i blk | none=>(S p).m):=by
 cases hm:fM b X S p with
 | some y=>obtain⟨i,blk⟩:=y;exact (F.made hp hm).2.2.1
 | none=>
  rcases F.step p hp with⟨v,_,_,hs⟩ | ⟨_,_,_,hh,_,_⟩
  case inr=>exact hh
  cases hop:(X p).2.op with
  | p o=>rw [hop] at hs;exact hs.2.1
  | r o=>rw [hop] at hs;exact hs.2.2.1
  | e o=>simp [J7,hop] at g
  | a o=>
   rw [hop] at hs;obtain⟨r,d,_,_,_,f,_⟩:=hs;rw [f];obtain⟨u,c⟩:=r;cases c with
   | none=>rfl
   | some c=>simp [fM,hop,d] at hm
theorem T.AX {α:Type}:∀(t:T α) (i:Nat) {x:α},t.get i=some x->∀(v:α) (j:Nat),(t.put i v).get j=if j=i then some v else t.get j
 | .e,i,x,h,v,j=>by cases h
 | .nd l y r,i,x,h,v,j=>by
  have hl:=λi x (h:l.get i=some x)=>T.AX l i h;have hr:=λi x (h:r.get i=some x)=>T.AX r i h;cases i with
  | zero=>
   cases j with
   | zero=>rfl
   | succ j=>rw [if_neg (by omega)];rfl
  | succ i=>
   have hm:Nat.mod i 2=0∨Nat.mod i 2=1:=by have:Nat.mod i 2<2:=ah5 _ (by omega);omega
   have hmj:Nat.mod j.pred 2=0∨Nat.mod j.pred 2=1:=by have:Nat.mod j.pred 2<2:=ah5 _ (by omega);omega
   have hg:(T.nd l y r).get (i+1)=(Nat.rec (l.get (Nat.div i 2)) (λ_ _=>r.get (Nat.div i 2)) (Nat.mod i 2):Option α):=rfl;have hp:(T.nd l y r).put (i+1) v=(Nat.rec (.nd (l.put (Nat.div i 2) v) y r) (λ_ _=>.nd l y (r.put (Nat.div i 2) v)) (Nat.mod i 2):T α):=rfl;rw [hg] at h;rw [hp];have hgj:∀(a b:T α) (k:Nat),(T.nd a y b).get (k+1)=(Nat.rec (a.get (Nat.div k 2)) (λ_ _=>b.get (Nat.div k 2)) (Nat.mod k 2):Option α):=λ_ _ _=>rfl;rcases hm with hm | hm;rw [hm] at h ⊢;cases j with
   | zero=>rw [if_neg (by omega)];rfl
   | succ k=>
    show (T.nd (l.put (Nat.div i 2) v) y r).get (k+1)=_;rw [hgj,hgj];rcases hmj with hk | hk<;>rw [show Nat.pred (k+1)=k from rfl] at hk<;>rw [hk]
    show (l.put (Nat.div i 2) v).get (Nat.div k 2)=if k+1=i+1 then some v else l.get (Nat.div k 2)
    rw [hl _ x h v];have e:Nat.div k 2=Nat.div i 2↔k+1=i+1:=by have h1:Nat.mod k 2=k%2:=rfl;have h2:Nat.mod i 2=i%2:=rfl;have h3:Nat.div k 2=k / 2:=rfl;have h4:Nat.div i 2=i / 2:=rfl;omega
    by_cases hh:k+1=i+1;rw [if_pos hh,if_pos (e.2 hh)];rw [if_neg hh,if_neg λq=>hh (e.1 q)];show r.get (Nat.div k 2)=if k+1=i+1 then some v else r.get (Nat.div k 2)
    rw [if_neg];intro hh;have h1:Nat.mod k 2=k%2:=rfl;have h2:Nat.mod i 2=i%2:=rfl;omega
   rw [hm] at h ⊢;cases j with
   | zero=>rw [if_neg (by omega)];rfl
   | succ k=>
    show (T.nd l y (r.put (Nat.div i 2) v)).get (k+1)=_;rw [hgj,hgj];rcases hmj with hk | hk<;>rw [show Nat.pred (k+1)=k from rfl] at hk<;>rw [hk]
    show l.get (Nat.div k 2)=if k+1=i+1 then some v else l.get (Nat.div k 2)
    rw [if_neg];intro hh;have h1:Nat.mod k 2=k%2:=rfl;have h2:Nat.mod i 2=i%2:=rfl;omega;show (r.put (Nat.div i 2) v).get (Nat.div k 2)=if k+1=i+1 then some v else r.get (Nat.div k 2)
    rw [hr _ x h v];have e:Nat.div k 2=Nat.div i 2↔k+1=i+1:=by have h1:Nat.mod k 2=k%2:=rfl;have h2:Nat.mod i 2=i%2:=rfl;have h3:Nat.div k 2=k / 2:=rfl;have h4:Nat.div i 2=i / 2:=rfl;omega
    by_cases hh:k+1=i+1;rw [if_pos hh,if_pos (e.2 hh)];rw [if_neg hh,if_neg λq=>hh (e.1 q)]
theorem Mem.Sd {m:Mem}{i:Nat}{x:U7}(h:m.get i=some x)(y:U7)(j:Nat):(m.set i y).get j=if j=i then some y else m.get j:=T.AX m.t i h y j
theorem PW (X:Nat->Nat×Inst):∀p,∃q,q<=p∧(q=0∨J7 (X (q-1)).2=true)∧∀j,q<=j->j<p->J7 (X j).2=false
 | 0=>⟨0,aA _,.inl rfl,λj _ h=>by omega⟩
 | p+1=>by
  cases hE:J7 (X p).2 with
  | true=>exact⟨p+1,aA _,.inr hE,λj h1 h2=>by omega⟩
  | false=>obtain⟨q,h1,h2,h3⟩:=PW X p;refine⟨q,by omega,h2,λj g1 g2=>?_⟩;by_cases hj:j=p;rw [hj];exact hE;exact h3 j g1 (by omega)
theorem Fixed.since (F:Fixed P slots nt cf b ops ord X S){q:Nat}{i:Nat}{y:U7}:∀d,q+d<=ord.length->(∀j,q<=j->j<q+d->J7 (X j).2=false)->(S (q+d)).m.get i=some y->(S q).m.get i=some y∨∃p,q<=p∧p<q+d∧fM b X S p=some (i,y):=by
 intro d;induction d with
 | zero=>intro _ _ h;exact .inl h
 | succ d ih=>
  intro n f h;have g:=F.quiet (p:=q+d) (by omega) (f _ (by omega) (by omega));rw [show q+(d+1)=q+d+1 from rfl,g] at h;cases hm:fM b X S (q+d) with
  | none=>rw [hm] at h;rcases ih (by omega) (λj a e=>f j a (by omega)) h with h | ⟨p,a,e,h3⟩;exact .inl h;exact .inr ⟨p,a,by omega,h3⟩
  | some z=>obtain⟨k,c⟩:=z;rw [hm] at h;have l:=(F.made (p:=q+d) (by omega) hm).2.2.2.1;have h:((S (q+d)).m.set k c).get i=some y:=h;rw [Mem.Sd l] at h;by_cases hk:i=k;subst hk;rw [if_pos rfl] at h;cases h;exact .inr ⟨q+d,by omega,by omega,hm⟩;rw [if_neg hk] at h;rcases ih (by omega) (λj a e=>f j a (by omega)) h with h | ⟨p,a,e,h3⟩;exact .inl h;exact .inr ⟨p,a,by omega,h3⟩
end
end
end Go.AM
