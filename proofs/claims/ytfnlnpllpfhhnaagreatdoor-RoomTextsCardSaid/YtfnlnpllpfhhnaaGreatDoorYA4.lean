/- A part of an evaluator for the model, proved sound: what it answers holds of the model; it speaks of every program, no condition. -/
import Derived.Test.YtfnlnpllpfhhnaaGreatDoorYA3
import Derived.RecoverIn
import Derived.Deep.Slices
import Derived.Below
set_option linter.unusedSimpArgs false
set_option linter.unusedVariables false
namespace Go.AM
open Go
section
variable {P:Program}{G:Mem}{ι:Inj}{n:Nm}{m:Mem}{w:World}{slots:List Nat}
def sV (ι:Inj):Option j5→FrameMode→Prop
 | some x,u=>u=.panicking [{v:=H6 ι x,recovered:=false}]
 | none,u=>u=.returning∨∃v,u=.panicking [{v,recovered:=true}]
theorem sV.settle {md:Option j5}{u:FrameMode}(h:sV ι md u):Go.settle u=EY ι md:=by
 cases md with
 | some x=>obtain rfl:u=_:=h;rfl
 | none=>rcases h with rfl | ⟨v,rfl⟩<;>rfl
theorem sV.of {md:Option j5}:sV ι md (EY ι md):=by
 cases md with
 | some x=>rfl
 | none=>exact .inl rfl
theorem sV.step {ι':Inj}{m':Mem}{w':World}{md:Option j5}{u:FrameMode}(h:sV ι md u)(hmd:Ir ι m md)(hst:Step P G ι m w ι' m' w'):sV ι' md u:=by
 cases md with
 | some x=>
  have h:u=_:=h
  have:=hst.H6 (hmd x rfl)
  show u=.panicking [{v:=H6 ι' x,recovered:=false}]
  rw [this];exact h
 | none=>exact h
theorem KJ (i:Inst)(l:List Inst)(cf:K8)(ls:List j5)(env:T j5)(m:Mem)(md:Option j5):
  Cg (i::l) cf ls env m md=match isRec i with
   | true=>match md with
    | some x=>Cg l cf (x::ls) (trD i.dst x env) m none
    | none=>Cg l cf (.nilIface::ls) (trD i.dst .nilIface env) m none
   | false=>match i.op with
    | .p o=>ob (Jp i.guard (trP o) ls env) fun v=>Cg l cf (v::ls) (trD i.dst v env) m md
    | .r o=>ob (Ga i.guard (trR o) ls env m) fun v=>Cg l cf (v::ls) (trD i.dst v env) m md
    | _=>none:=rfl
theorem rA {ops:Array Oper}{o:Oper}{i:Nat}{rest:List Nat}(ho:ops[i]?=some o){done:List (Option Nat)}{ls:List j5}{env:T j5}{a:Act}{cs:List Frame}{Q:Exit→Act→List Frame→World→Prop}
  (s:St P ι n slots done ls env a.tmps) {g:Option (Opd×Bool)} (hg:lM ops done o.guard g) {v u:j5} (hu:u=bi (BM g ls env) v .undef)
  (hrun:BM g ls env=true→(execOp a.eval o).run P w=.ok (.value (H6 ι v)) w) (h:wpOpsSIn Fence.wide 0 P ops Q rest (a.put o.dst (H6 ι u)) cs w):
  wpOpsSIn Fence.wide 0 P ops Q (i::rest) a cs w:=by
 simp only [wpOpsSIn,ho]
 refine⟨fun _ _=>trivial,?_⟩
 rw [kV s hg]
 cases hb:BM g ls env with
 | true=>
  rw [hb] at hu
  obtain rfl:u=v:=hu
  simp only [if_true]
  rw [hrun hb]
  exact h
 | false=>
  rw [hb] at hu
  obtain rfl:u=.undef:=hu
  rw [jh] at h
  simp only [awg,if_false]
  exact h
theorem Sz (g:Option (Opd×Bool))(f:PF)(ls:List j5)(env:T j5):Jp g f ls env=bi (BM g ls env) (f ls env) (some .undef):=by
 cases g<;>rfl
theorem SA (g:Option (Opd×Bool))(f:RF)(ls:List j5)(env:T j5)(m:Mem):Ga g f ls env m=bi (BM g ls env) (f ls env m) (some .undef):=by
 cases g<;>rfl
theorem Zm {done:List (Option Nat)}{op:Op}{po:POp}(h:.p po=vR P slots done op):cOp P slots done op=some (.p po):=by
 unfold vR at h
 split at h
 ·rename_i ao hao;rw [hao,← h]
 ·cases h
theorem Zn {done:List (Option Nat)}{op:Op}{ro:ROp}(h:.r ro=vR P slots done op):cOp P slots done op=some (.r ro):=by
 unfold vR at h
 split at h
 ·rename_i ao hao;rw [hao,← h]
 ·cases h
theorem Oi {done:List (Option Nat)}{op:Op}(h:.e .recover=vR P slots done op):cOp P slots done op=some (.e .recover):=by
 unfold vR at h
 split at h
 ·rename_i ao hao;rw [hao,← h]
 ·cases h
theorem Oj {i:Inst}(h:isRec i=true):i.op=.e .recover∧i.guard=none:=by
 unfold isRec at h
 split at h
 ·exact⟨by assumption,by assumption⟩
 ·cases h
theorem IC {cf:K8}{ops:Array Oper}{nt:Nat}(hin:∀(i:Nat)(o:Oper)(t:Tmp),ops[i]?=some o→o.dst=some t→t<nt){Q:Exit→Act→List Frame→World→Prop}{c₀:Frame}{cs:List Frame}
  (hm:RM P G ι m w.heap):
  ∀(l:List Nat) (done:List (Option Nat)) (insts:List Inst),jQ P slots ops done l=some insts→∀(ls:List j5) (env:T j5) (md:Option j5) (u:FrameMode) (a:Act) (outs:List (EM×Option j5)),
   nt≤a.tmps.size→St P ι (m.nm ι) slots done ls env a.tmps→Ir ι m md→sV ι md u→Cg insts cf ls env m md=some outs→
   (∀r∈outs,∀u' a',r.1.m=m→bM ι (m.nm ι) slots r.1.env a'.tmps→a'.defers=a.defers→a'.tmps.size=a.tmps.size→Ir ι m r.2→sV ι r.2 u'→Q .normal a' ({c₀ with mode:=u'}::cs) w)→
   wpOpsSIn Fence.wide 0 P ops Q l a ({c₀ with mode:=u}::cs) w:=by
 intro l
 induction l with
 | nil=>
  intro done insts hc ls env md u a outs hnt s hmd hrel hv hQ
  simp only [jQ,U0] at hc;subst hc
  have hv:some [((⟨env,m,none,[]⟩:EM),md)]=some outs:=by rw [← hv,Cg]
  cases hv
  exact hQ _ (W9.2 rfl) u a rfl s.env rfl rfl hmd hrel
 | cons i rest ih=>
  intro done insts hc ls env md u a outs hnt s hmd hrel hv hQ
  obtain⟨x,d,l,hx,hl,rfl⟩:=lQ hc
  obtain⟨o,h1,rfl,h2,h3,h4⟩:=qX hx
  rw [KJ] at hv
  have step:∀(v:j5) (md':Option j5) (u':FrameMode),v.lt (m.nm ι)→Ir ι m md'→sV ι md' u'→Cg l cf (v::ls) (trD x.dst v env) m md'=some outs→
    wpOpsSIn Fence.wide 0 P ops Q rest (a.put o.dst (H6 ι v)) ({c₀ with mode:=u'}::cs) w:=by
   intro v md' u' hlt hmd' hrel' hv
   rw [h3] at hv
   have s':=s.put o.dst (fun t ht=>avu (hin i o t h1 ht) hnt) hlt
   refine ih _ _ hl _ _ md' u' (a.put o.dst (H6 ι v)) outs (by rw [fF];exact hnt) (by rw [(lK a o.dst (H6 ι v)).1];exact s') hmd' hrel' hv ?_
   intro r hr u'' a' e1 e2 e3 e4 e5 e6
   exact hQ r hr u'' a' e1 e2 (by rw [e3,(lK a o.dst _).2]) (e4.trans (fF a o.dst _)) e5 e6
  cases hr:isRec x with
  | true=>
   rw [hr] at hv
   obtain⟨g1,g2⟩:=Oj hr
   rw [g1] at h2
   rw [g2] at h4
   have hop:=Oi h2
   have hw:Region.wanted o (yielded ops a.tmps)=true:=by rw [kV s h4];rfl
   have hrun:(execOp a.eval o).run P w=.ok .recover w:=by
    cases ho:o.op with
    | call c=>
     rw [ho] at hop
     cases wD hop with
     | recover hcal=>simp [execOp,ho,resolve,hcal,invoke,builtin]
    | _=>rw [ho] at hop;cases wD hop
   simp only [wpOpsSIn,h1]
   refine⟨fun _ _=>trivial,?_⟩
   rw [hw,if_pos rfl,hrun]
   cases md with
   | some y=>
    obtain rfl:u=.panicking [{v:=H6 ι y,recovered:=false}]:=hrel
    exact step y none (.panicking [{v:=H6 ι y,recovered:=true}]) (hmd y rfl) (fun _ h=>by cases h) (.inr ⟨_,rfl⟩) hv
   | none=>
    have hrec:recoverD ({c₀ with mode:=u}::cs)=none:=by
     rcases hrel with rfl | ⟨v,rfl⟩<;>rfl
    show (match recoverD ({c₀ with mode:=u}::cs) with
     | some (v,cs')=>wpOpsSIn Fence.wide 0 P ops Q rest (a.put o.dst v) cs' w
     | none=>wpOpsSIn Fence.wide 0 P ops Q rest (a.put o.dst .nilIface) ({c₀ with mode:=u}::cs) w)
    rw [hrec]
    have:=step .nilIface none u trivial hmd hrel hv
    simp only [H6] at this
    exact this
  | false=>
   rw [hr] at hv
   obtain⟨op,dst,guard⟩:=x
   cases op with
   | p po=>
    have hv:ob (Jp guard (trP po) ls env) (fun v=>Cg l cf (v::ls) (trD dst v env) m md)=some outs:=hv
    obtain⟨v,hv1,hv⟩:=J6 hv
    rw [Sz] at hv1
    have hop:=Zm h2
    cases hb:BM guard ls env with
    | true=>
     rw [hb] at hv1
     have hv1:trP po ls env=some v:=hv1
     obtain⟨g1,g2⟩:=nY s hop hv1
     exact rA h1 s h4 (v:=v) (u:=v) (by rw [hb];rfl) (fun _=>g2 o rfl w) (step v md u g1 hmd hrel hv)
    | false=>
     rw [hb] at hv1
     obtain rfl:j5.undef=v:=avA hv1
     exact rA h1 s h4 (v:=.undef) (u:=.undef) (by rw [hb];rfl) (fun h=>by rw [hb] at h;cases h) (step .undef md u trivial hmd hrel hv)
   | r ro=>
    have hv:ob (Ga guard (trR ro) ls env m) (fun v=>Cg l cf (v::ls) (trD dst v env) m md)=some outs:=hv
    obtain⟨v,hv1,hv⟩:=J6 hv
    rw [SA] at hv1
    have hop:=Zn h2
    cases hb:BM guard ls env with
    | true=>
     rw [hb] at hv1
     have hv1:trR ro ls env m=some v:=hv1
     obtain⟨g1,g2⟩:=nZ s hm (qP hop) hv1
     exact rA h1 s h4 (v:=v) (u:=v) (by rw [hb];rfl) (fun _=>g2 o rfl) (step v md u g1 hmd hrel hv)
    | false=>
     rw [hb] at hv1
     obtain rfl:j5.undef=v:=avA hv1
     exact rA h1 s h4 (v:=.undef) (u:=.undef) (by rw [hb];rfl) (fun h=>by rw [hb] at h;cases h) (step .undef md u trivial hmd hrel hv)
   | a _=>cases hv
   | e _=>cases hv
def Ql (P:Program)(G:Mem)(slots:List Nat)(nt:Nat)(cf:K8)(fuel:Nat)(c:Code)(ac:bF):Prop:=
 ∀(Q:Exit→Act→List Frame→World→Prop) (env:T j5) (m:Mem) (md:Option j5) (ι:Inj) (w:World) (a:Act) (c₀:Frame) (cs:List Frame) (u:FrameMode) (outs:List RU),
  RM P G ι m w.heap→bM ι (m.nm ι) slots env a.tmps→nt≤a.tmps.size→a.defers=[]→Ir ι m md→sV ι md u→dEv ac cf fuel env m md=some outs→
  (∀r∈outs,∀ι' w' a' u',Step P G ι m w ι' r.o.m w'→bM ι' (r.o.m.nm ι') slots r.o.env a'.tmps→a'.tmps.size=a.tmps.size→gD ι' r.o.m r.o.marks a'.defers→Yr ι' r.o→Ir ι' r.o.m r.md→sV ι' r.md u'→Q (NY ι' r.o) a' ({c₀ with mode:=u'}::cs) w')→
  c.wpSIn Fence.wide 0 P Q a ({c₀ with mode:=u}::cs) w
theorem bV {nt:Nat}{cf:K8}(hcf:xU P G cf)(fuel:Nat)(hdraw:jD P G slots nt cf none){c:Code}{ac:bF}(hc:aI P slots c=some ac)(ht:tmpsIn nt c=true)
  (hev:∀env m md,dEv ac cf fuel env m md=bnd (trC ac cf fuel none env m []) fun o=>some [⟨o,md⟩]):Ql P G slots nt cf fuel c ac:=by
 intro Q env m md ι w a c₀ cs u outs hm hen hnt hdef hmd hrel hv hQ
 rw [hev] at hv
 obtain⟨os,hos,hk⟩:=bJ hv
 refine wpSIn_of_wpIn rfl (ow hcf fuel hdraw c ac hc ht _ none env m [] ι w a os hm hen hnt ⟨by rw [hdef];rfl,fun _ h=>by cases h⟩ ⟨rfl,fun _ h=>by cases h⟩ hos ?_)
 intro o ho ι' w' a' hst hen' hsz hmk hpv
 obtain⟨rs,hrs,hsub⟩:=hk o ho
 cases hrs
 exact hQ _ (hsub _ (W9.2 rfl)) ι' w' a' u hst hen' hsz hmk hpv (hmd.step hst).1 (hrel.step hmd hst)
theorem KL {nt:Nat}{cf:K8}(hcf:xU P G cf)(fuel:Nat)(hdraw:jD P G slots nt cf none):∀(c:Code) (ac:bF),aI P slots c=some ac→tmpsIn nt c=true→Ql P G slots nt cf fuel c ac:=by
 intro c
 induction c with
 | region id ops d=>
  intro ac hc ht
  cases d with
  | true=>
   refine bV hcf fuel hdraw hc ht ?_
   have hform:∃n l,ac=.dreg n l:=by
    simp only [aI] at hc
    unfold Cj at hc
    split at hc
    ·cases hc
    ·split at hc
     ·cases hc;exact⟨_,_,rfl⟩
     ·cases hc
   obtain⟨n,l,rfl⟩:=hform
   exact fun env m md=>rfl
  | false=>
   have hc0:=hc
   simp only [aI] at hc
   split at hc
   ·rename_i insts hi
    cases hc
    cases hr:Ce insts with
    | false=>
     refine bV hcf fuel hdraw hc0 ht ?_
     intro env m md
     rw [dEv,hr]
    | true=>
     intro Q env m md ι w a c₀ cs u outs hm hen hnt hdef hmd hrel hv hQ
     rw [dEv,hr] at hv
     have hv:bnd (Cg insts cf [] env m md) (fun r=>some [⟨⟨.normal,r.1.env,r.1.m,[],none⟩,r.2⟩])=some outs:=hv
     obtain⟨os,hos,hk⟩:=bJ hv
     refine wpSIn_region (IC (lS ht) hm _ [] insts hi [] env md u a os hnt (St.start hm hen) hmd hrel hos ?_)
     intro r hr' u' a' e1 e2 e3 e4 e5 e6
     obtain⟨rs,hrs,hsub⟩:=hk r hr'
     cases hrs
     obtain⟨⟨env₁,m₁,px₁,mk₁⟩,md₁⟩:=r
     obtain rfl:m₁=m:=e1
     exact hQ _ (hsub _ (W9.2 rfl)) ι w a' u' (Step.refl hm) e2 e4 ⟨by rw [e3,hdef];rfl,fun _ h=>by cases h⟩ (bP rfl) e5 e6
   ·cases hc
 | seq x y ihx ihy=>
  intro ac hc ht Q env m md ι w a c₀ cs u outs hm hen hnt hdef hmd hrel hv hQ
  simp only [tmpsIn,avv] at ht
  simp only [aI] at hc
  split at hc
  ·rename_i cx cy hx hy
   cases hc
   rw [dEv] at hv
   obtain⟨os,hos,hk⟩:=bJ hv
   refine wpSIn_seq (ihx cx hx ht.1 _ env m md ι w a c₀ cs u os hm hen hnt hdef hmd hrel hos ?_)
   rintro⟨⟨x₀,env₀,m₀,k₀,pv₀⟩,md₀⟩ ho ι' w' a' u' hst hen' hsz hmk' hpv hmd' hrel'
   obtain⟨os',hos',hsub⟩:=hk _ ho
   cases x₀ with
   | normal=>
    obtain rfl:pv₀=none:=kE hpv (by intro e;cases e)
    cases k₀ with
    | cons=>cases hos'
    | nil=>
     have hos':dEv cy cf fuel env₀ m₀ md₀=some os':=hos'
     refine ihy cy hy ht.2 Q env₀ m₀ md₀ ι' w' a' c₀ cs u' os' hst.rm hen' (by rw [hsz];exact hnt) hmk'.1 hmd' hrel' hos' ?_
     intro r hr ι'' w'' a'' u'' hst' hen'' hsz' hmk'' hpv' hmd'' hrel''
     exact hQ r (hsub _ hr) ι'' w'' a'' u'' (hst.trans hst') hen'' (hsz'.trans hsz) hmk'' hpv' hmd'' hrel''
   | exit id=>
    obtain rfl:pv₀=none:=kE hpv (by intro e;cases e)
    cases hos'
    exact hQ _ (hsub _ (W9.2 rfl)) ι' w' a' u' hst hen' hsz hmk' hpv hmd' hrel'
   | ret=>
    cases hos'
    have:=hQ _ (hsub _ (W9.2 rfl)) ι' w' a' u' hst hen' hsz hmk' hpv hmd' hrel'
    cases pv₀<;>exact this
  ·cases hc
 | cond c x y ihx ihy=>
  intro ac hc ht Q env m md ι w a c₀ cs u outs hm hen hnt hdef hmd hrel hv hQ
  simp only [tmpsIn,avv] at ht
  simp only [aI] at hc
  split at hc
  ·rename_i z cx cy hz hx hy
   cases hc
   rw [dEv] at hv
   obtain⟨t,h1,hv⟩:=nS hv
   obtain⟨e1,_⟩:=I5 (St.start hm hen) hz
   refine wpSIn_cond (t:=t) (by rw [e1,h1];rfl) ?_
   cases t with
   | true=>exact ihx cx hx ht.1 Q env m md ι w a c₀ cs u outs hm hen hnt hdef hmd hrel hv hQ
   | false=>exact ihy cy hy ht.2 Q env m md ι w a c₀ cs u outs hm hen hnt hdef hmd hrel hv hQ
  ·cases hc
 | skip=>intro ac hc ht;simp only [aI,U0] at hc;subst hc;exact bV hcf fuel hdraw rfl ht fun _ _ _=>rfl
 | exit id=>intro ac hc ht;simp only [aI,U0] at hc;subst hc;exact bV hcf fuel hdraw rfl ht fun _ _ _=>rfl
 | ret=>intro ac hc ht;simp only [aI,U0] at hc;subst hc;exact bV hcf fuel hdraw rfl ht fun _ _ _=>rfl
 | block id x _=>
  intro ac hc ht
  have hform:∃y,ac=.block id y:=by
   simp only [aI] at hc
   split at hc
   ·cases hc;exact⟨_,rfl⟩
   ·cases hc
  obtain⟨y,rfl⟩:=hform
  exact bV hcf fuel hdraw hc ht fun _ _ _=>rfl
 | loop x _=>
  intro ac hc ht
  have hform:∃y,ac=.loop y:=by
   simp only [aI] at hc
   split at hc
   ·cases hc;exact⟨_,rfl⟩
   ·cases hc
  obtain⟨y,rfl⟩:=hform
  exact bV hcf fuel hdraw hc ht fun _ _ _=>rfl
 | rangeFunc g ps x y _ _=>
  intro ac hc ht
  have hform:∃a b c d,ac=.rangeFunc a b c d:=by
   simp only [aI] at hc
   split at hc
   ·cases hc;exact⟨_,_,_,_,rfl⟩
   ·cases hc
  obtain⟨_,_,_,_,rfl⟩:=hform
  exact bV hcf fuel hdraw hc ht fun _ _ _=>rfl
 | scope x ihx=>intro ac hc;simp only [aI] at hc;cases hc
 | label l=>intro ac hc;simp only [aI] at hc;cases hc
 | goto l=>intro ac hc;simp only [aI] at hc;cases hc
 | refuse s=>intro ac hc;simp only [aI] at hc;cases hc
theorem Dk {K:Known}(hfns:∀f sf,K.fns f=some sf→xJ P f sf){cf:K8}(hcf:xU P G cf)(fuel:Nat)(hdraw:∀slots nt r,jD P G slots nt cf r):aem P G (Ch K cf fuel):=by
 intro f args md m outs h
 obtain⟨sf,h1,h⟩:=J6 h
 obtain⟨hok,slots,fn,c,ac,rs,g1,g2,g3,g4,g5,g6,g7,e1,e2,e3,e4,e5⟩:=hfns f sf h1
 refine⟨hok,fun {ι w} hm hargs hmd=>?_⟩
 obtain⟨c',h2,h⟩:=J6 h
 obtain rfl:=e5 c' h2
 obtain⟨env,h3,h⟩:=J6 h
 obtain⟨os,hos,hk⟩:=bJ h
 rw [e1,e2] at h3
 obtain⟨q1,q2,q3⟩:=Db g6 g7 hargs h3
 refine callsDIn_of_wpSIn g1 g2 trivial fun c₀ cs hu=>?_
 have hc₀:({c₀ with mode:=EY ι md}:Frame)=c₀:=by rw [← hu]
 rw [← hc₀]
 refine KL hcf fuel (hdraw slots fn.ntmps none) c c' g3 g5 _ env m md ι w _ c₀ cs (EY ι md) os hm q2 q3 rfl hmd sV.of hos ?_
 rintro⟨⟨x₀,env₀,m₀,k₀,pv₀⟩,md₀⟩ ho ι' w' a' u' hst hen' hsz hmk' hpv hmd' hrel'
 obtain⟨vs,hvs,hsub⟩:=hk _ ho
 have hform:k₀=[]∧pv₀=none∧(∀id,x₀≠.exit id)∧∃l,results sf.results env₀ m₀=some l∧vs=[(m₀,md₀)]:=by
  have hvs:JK sf.results ⟨⟨x₀,env₀,m₀,k₀,pv₀⟩,md₀⟩=some vs:=hvs
  have key:ob (results sf.results env₀ m₀) (fun _=>some [(m₀,md₀)])=some vs→∃l,results sf.results env₀ m₀=some l∧vs=[(m₀,md₀)]:=by
   intro h
   obtain⟨l,hl,h⟩:=J6 h
   cases h
   exact⟨l,hl,rfl⟩
  cases x₀ with
  | exit id=>cases k₀<;>cases pv₀<;>cases hvs
  | normal=>
   cases k₀ with
   | cons=>cases pv₀<;>cases hvs
   | nil=>
    cases pv₀ with
    | some=>cases hvs
    | none=>exact⟨rfl,rfl,(fun id h=>by cases h),key hvs⟩
  | ret=>
   cases k₀ with
   | cons=>cases pv₀<;>cases hvs
   | nil=>
    cases pv₀ with
    | some=>cases hvs
    | none=>exact⟨rfl,rfl,(fun id h=>by cases h),key hvs⟩
 obtain⟨rfl,rfl,hne,l,hres,rfl⟩:=hform
 rw [e3] at hres
 obtain⟨r1,r2⟩:=qZ hst.rm hen' _ rs g4 l hres
 have hd:a'.defers=[]:=hmk'.1
 have hrun:(Go.results fn a'.tmps).run P w'=.ok (H6 ι' (result l)) w':=by
  rw [Da,zI,axV]
  simp only [avy,map_eq_pure_bind,bind_assoc,pure_bind]
  rw [r2]
  simp
 have fin:a'.defers=[]∧∃u'',(({c₀ with mode:=u'}:Frame)::cs)=({({c₀ with mode:=EY ι md}:Frame) with mode:=u''}:Frame)::cs∧∃v,(Go.results fn a'.tmps).run P w'=.ok v w'∧
   ∃v',Ending.returned v=.returned v'∧∃r∈outs,∃ι',Step P G ι m w ι' r.1 w'∧Ir ι' r.1 r.2∧settle u''=EY ι' r.2:=
  ⟨hd,u',rfl,_,hrun,_,rfl,(m₀,md₀),hsub _ (W9.2 rfl),ι',hst,hmd',hrel'.settle⟩
 cases x₀ with
 | normal=>exact fin
 | ret=>exact fin
 | exit id=>exact absurd rfl (hne id)
end
section
variable {P:Program}{ι ι':Inj}{n n':Nm}{r:Nat→Option Nat}
def Dl (ι:Inj)(n:Nm)(ι':Inj)(n':Nm)(r:Nat→Option Nat):Prop:=∀i j,r i=some j→n i→n' j∧ι' j=ι i∧n'.cap j=n.cap i
mutual
theorem kY (hr:Dl ι n ι' n' r):∀(v v':j5),kQ r v=some v'→v.lt n→H6 ι' v'=H6 ι v∧v'.lt n'
 | .undef,v',h,_ | .bool _,v',h,_ | .int _ _,v',h,_ | .str _,v',h,_ | .nilPtr,v',h,_ | .nilSlice,v',h,_ | .nilMap,v',h,_ | .nilFunc,v',h,_ | .nilIface,v',h,_=>by
  simp only [kQ,U0] at h;subst h;simp [H6,j5.lt]
 | .ptr i o,v',h,hv=>by
  simp only [kQ] at h
  obtain⟨j,h1,h2⟩:=J6 h
  cases h2
  obtain⟨g1,g2,g3⟩:=hr i j h1 hv
  exact⟨by simp [H6,Inj.at,g2],g1⟩
 | .slice i o l c,v',h,hv=>by
  simp only [kQ] at h
  obtain⟨j,h1,h2⟩:=J6 h
  cases h2
  obtain⟨g1,g2,g3⟩:=hr i j h1 hv
  exact⟨by simp [H6,Inj.at,g2],g1⟩
 | .sliceU i o l c,v',h,hv=>by
  simp only [kQ] at h
  obtain⟨j,h1,h2⟩:=J6 h
  cases h2
  obtain⟨g1,g2,g3⟩:=hr i j h1 hv.1
  exact⟨by simp [H6,Inj.at,g2],g1,hv.2.1,by rw [g3];exact hv.2.2⟩
 | .map i,v',h,hv=>by
  simp only [kQ] at h
  obtain⟨j,h1,h2⟩:=J6 h
  cases h2
  obtain⟨g1,g2,g3⟩:=hr i j h1 hv
  exact⟨by simp [H6,g2],g1⟩
 | .func fn a b,v',h,hv=>by
  obtain⟨h1,h2,h3⟩:=hv
  have key:∀v',(ob (uh r a) fun x=>ob (uh r b) fun y=>some (j5.func fn x y))=some v'→(∀l,fn≠.yield l)→H6 ι' v'=H6 ι (.func fn a b)∧v'.lt n':=by
   intro v' h hn
   obtain⟨x,h4,h⟩:=J6 h
   obtain⟨y,h5,h⟩:=J6 h
   cases h
   obtain⟨g1,g2⟩:=iq hr a x h4 h2
   obtain⟨g3,g4⟩:=iq hr b y h5 h3
   have e:jw ι' fn=jw ι fn:=by cases fn<;>first | rfl | exact absurd rfl (hn _)
   refine⟨by simp [H6,g1,g3,e],?_,g2,g4⟩
   cases fn<;>first | trivial | exact absurd rfl (hn _)
  cases fn with
  | yield l=>simp only [kQ] at h;cases h
  | func f=>exact key v' (by simpa only [kQ] using h) (by simp)
  | method f=>exact key v' (by simpa only [kQ] using h) (by simp)
  | methodOf f g=>exact key v' (by simpa only [kQ] using h) (by simp)
  | via f g x y=>exact key v' (by simpa only [kQ] using h) (by simp)
 | .iface t v,v',h,hv=>by
  simp only [kQ] at h
  obtain⟨x,h1,h2⟩:=J6 h
  cases h2
  obtain⟨g1,g2⟩:=kY hr v x h1 hv
  exact⟨by simp [H6,g1],g2⟩
 | .agg l,v',h,hv=>by
  simp only [kQ] at h
  obtain⟨x,h1,h2⟩:=J6 h
  cases h2
  obtain⟨g1,g2⟩:=iq hr l x h1 hv
  exact⟨by simp [H6,g1],g2⟩
 | .tuple l,v',h,hv=>by
  simp only [kQ] at h
  obtain⟨x,h1,h2⟩:=J6 h
  cases h2
  obtain⟨g1,g2⟩:=iq hr l x h1 hv
  exact⟨by simp [H6,g1],g2⟩
 | .pan v,v',h,hv=>by simp only [j5.lt] at hv
theorem iq (hr:Dl ι n ι' n' r):∀(l l':List j5),uh r l=some l'→ltL n l→H8 ι' l'=H8 ι l∧ltL n' l'
 | [],l',h,_=>by simp only [uh,U0] at h;subst h;simp [H8,ltL]
 | v::l,l',h,hv=>by
  simp only [uh] at h
  obtain⟨x,h1,h⟩:=J6 h
  obtain⟨y,h2,h⟩:=J6 h
  cases h
  obtain⟨g1,g2⟩:=kY hr v x h1 hv.1
  obtain⟨g3,g4⟩:=iq hr l y h2 hv.2
  exact⟨by simp [H8,g1,g3],g2,g4⟩
end
theorem wP (hr:Dl ι n ι' n' r):∀(l l':List (List j5)),oL r l=some l'→(∀x∈l,ltL n x)→l'.length=l.length∧∀(i:Nat) x,l[i]?=some x→∃x',l'[i]?=some x'∧H8 ι' x'=H8 ι x∧ltL n' x'
 | [],l',h,_=>by simp only [oL,U0] at h;subst h;simp
 | v::l,l',h,hv=>by
  simp only [oL] at h
  obtain⟨x,h1,h⟩:=J6 h
  obtain⟨y,h2,h⟩:=J6 h
  cases h
  obtain⟨g1,g2⟩:=iq hr v x h1 (hv v (by simp))
  obtain⟨g3,g4⟩:=wP hr l y h2 (fun x hx=>hv x (by simp [hx]))
  refine⟨by simp [g3],fun i u hu=>?_⟩
  cases i with
  | zero=>simp at hu;subst hu;exact⟨x,rfl,g1,g2⟩
  | succ i=>obtain⟨x',h3,h4⟩:=g4 i u (by simpa using hu);exact⟨x',by simpa using h3,h4⟩
theorem zL (hr:Dl ι n ι' n' r):∀(l l':List (j5×j5)),Jq r l=some l'→(∀e∈l,e.1.lt n∧e.2.lt n)→l'.length=l.length∧(∀k,M7 ι' l' k=M7 ι l k)∧∀e∈l',e.1.lt n'∧e.2.lt n'
 | [],l',h,_=>by simp only [Jq,U0] at h;subst h;simp [M7]
 | e::l,l',h,hv=>by
  simp only [Jq] at h
  obtain⟨x,h1,h⟩:=J6 h
  obtain⟨y,h2,h⟩:=J6 h
  obtain⟨z,h3,h⟩:=J6 h
  cases h
  obtain⟨g1,g2⟩:=kY hr e.1 x h1 (hv e (by simp)).1
  obtain⟨g3,g4⟩:=kY hr e.2 y h2 (hv e (by simp)).2
  obtain⟨g5,g6,g7⟩:=zL hr l z h3 (fun x hx=>hv x (by simp [hx]))
  refine⟨by simp [g5],fun k=>by simp [M7,g1,g3,g6],fun u hu=>?_⟩
  rcases avL.1 hu with rfl | hu
  ·exact⟨g2,g4⟩
  ·exact g7 u hu
theorem KM {b:Blk}{nb:NB}(h:Eo b=some nb):iV b=false:=by
 cases b<;>first | rfl | (simp [Eo] at h)
theorem sW (nb:NB):iV (eD nb)=false:=by cases nb<;>rfl
theorem zM {r:Nat→Option Nat}{b:Blk}{nb nb':NB}(h:Eo b=some nb)(h':xI r nb=some nb'):aV (eD nb')=aV b:=by
 cases b<;>simp only [Eo,U0,reduceCtorEq] at h
 ·subst h;simp only [xI,U0] at h';subst h';rfl
 ·obtain⟨l,_,h⟩:=J6 h;cases h
  simp only [xI] at h'
  obtain⟨x,_,h'⟩:=J6 h';cases h';rfl
 ·subst h;simp only [xI] at h'
  obtain⟨x,_,h'⟩:=J6 h';cases h';rfl
 ·subst h;simp only [xI] at h'
  obtain⟨x,_,h'⟩:=J6 h';cases h';rfl
theorem Fg (hr:Dl ι n ι' n' r){h:Array Obj}{l:Loc}{b:Blk}{nb nb':NB}(hb:fT P ι n h l b)(hn:Eo b=some nb)(hnb:xI r nb=some nb'):fT P ι' n' h l (eD nb'):=by
 cases b<;>simp only [Eo,U0,reduceCtorEq] at hn
 ·subst hn;simp only [xI,U0] at hnb;subst hnb;exact trivial
 ·rename_i rs k rows
  obtain⟨rl,h1,hn⟩:=J6 hn
  cases hn
  simp only [xI] at hnb
  obtain⟨rl',h2,hnb⟩:=J6 hnb
  cases hnb
  obtain⟨c,e,fz,b1,b2,⟨b3,N,b4,b5⟩,b6⟩:=hb
  obtain⟨s1,s2⟩:=T.Ia _ _ _ _ h1
  have hrow:∀i x,rl[i]?=some x→i<k∧rows.get i=some x:=fun i x hx=>by
   have hi:i<k:=by have:=(S9.1 hx).1;omega
   have:=s2 i hi
   rw [avS,hx] at this
   exact⟨hi,this⟩
  have hlt:∀x∈rl,ltL n x:=fun x hx=>by
   obtain⟨i,hi⟩:=avU hx
   obtain⟨g1,g2⟩:=hrow i x hi
   obtain⟨row,q1,q2,q3,q4⟩:=b6 i g1
   rw [g2] at q1;cases q1;exact q3
  obtain⟨g1,g2⟩:=wP hr rl rl' h2 hlt
  refine⟨c,e,fz,b1,b2,⟨by rw [Q5,g1,s1];exact b3,rl'.length,(by rw [Q5];exact D5 _),T.iJ rl'⟩,fun i hi=>?_⟩
  rw [Q5,g1,s1] at hi
  have hx:rl[i]?=some (rl[i]'(by omega)):=U1 (by omega)
  obtain⟨x',q1,q2,q3⟩:=g2 i _ hx
  obtain⟨_,g4⟩:=hrow i _ hx
  obtain⟨row,p1,p2,p3,p4⟩:=b6 i hi
  rw [g4] at p1;cases p1
  have hlen:x'.length=rs:=by
   have:=congrArg List.length q2
   simp only [aD] at this
   omega
  refine⟨x',by rw [T.aS];exact q1,hlen,q3,fun j hj=>?_⟩
  rw [p4 j hj,← aZ,← aZ,q2]
 ·subst hn
  simp only [xI] at hnb
  obtain⟨es',h2,hnb⟩:=J6 hnb
  cases hnb
  obtain⟨b1,b2⟩:=hb
  obtain⟨g1,g2,g3⟩:=zL hr _ _ h2 b2
  exact⟨by rw [g2,g1];exact b1,g3⟩
 ·subst hn
  simp only [xI] at hnb
  obtain⟨q,h2,hnb⟩:=J6 hnb
  cases hnb
  obtain⟨b1,b2⟩:=hb
  obtain⟨g1,g2,_⟩:=hr _ _ h2 b1
  exact⟨g1,by rw [g2];exact b2⟩
mutual
theorem nI {r1 r2:Nat→Option Nat}:∀(v u t:j5),kQ r1 v=some u→kQ r2 u=some t→kQ (fun i=>ob (r1 i) r2) v=some t
 | .undef,u,t,h,h' | .bool _,u,t,h,h' | .int _ _,u,t,h,h' | .str _,u,t,h,h' | .nilPtr,u,t,h,h' | .nilSlice,u,t,h,h' | .nilMap,u,t,h,h' | .nilFunc,u,t,h,h' | .nilIface,u,t,h,h'=>by
  simp only [kQ,U0] at h;subst h;simpa only [kQ] using h'
 | .ptr i o,u,t,h,h' | .slice i o _ _,u,t,h,h' | .sliceU i o _ _,u,t,h,h' | .map i,u,t,h,h'=>by
  simp only [kQ] at h
  obtain⟨j,h1,h2⟩:=J6 h
  cases h2
  simp only [kQ] at h' ⊢
  obtain⟨k,h3,h4⟩:=J6 h'
  rw [h1,O0,h3];exact h4
 | .func fn a b,u,t,h,h'=>by
  cases fn with
  | yield l=>simp only [kQ] at h;cases h
  | _=>
   simp only [kQ] at h
   obtain⟨x,h1,h⟩:=J6 h
   obtain⟨y,h2,h⟩:=J6 h
   cases h
   simp only [kQ] at h' ⊢
   obtain⟨x',h3,h'⟩:=J6 h'
   obtain⟨y',h4,h'⟩:=J6 h'
   rw [nJ a x x' h1 h3,O0,nJ b y y' h2 h4];exact h'
 | .iface ty v,u,t,h,h'=>by
  simp only [kQ] at h
  obtain⟨x,h1,h⟩:=J6 h
  cases h
  simp only [kQ] at h' ⊢
  obtain⟨x',h3,h'⟩:=J6 h'
  rw [nI v x x' h1 h3];exact h'
 | .pan v,u,t,h,h'=>by simp only [kQ] at h;cases h
 | .agg l,u,t,h,h' | .tuple l,u,t,h,h'=>by
  simp only [kQ] at h
  obtain⟨x,h1,h⟩:=J6 h
  cases h
  simp only [kQ] at h' ⊢
  obtain⟨x',h3,h'⟩:=J6 h'
  rw [nJ l x x' h1 h3];exact h'
theorem nJ {r1 r2:Nat→Option Nat}:∀(v u t:List j5),uh r1 v=some u→uh r2 u=some t→uh (fun i=>ob (r1 i) r2) v=some t
 | [],u,t,h,h'=>by simp only [uh,U0] at h;subst h;simpa only [uh] using h'
 | v::l,u,t,h,h'=>by
  simp only [uh] at h
  obtain⟨x,h1,h⟩:=J6 h
  obtain⟨y,h2,h⟩:=J6 h
  cases h
  simp only [uh] at h' ⊢
  obtain⟨x',h3,h'⟩:=J6 h'
  obtain⟨y',h4,h'⟩:=J6 h'
  rw [nI v x x' h1 h3,O0,nJ l y y' h2 h4];exact h'
end
theorem zN {r1 r2:Nat→Option Nat}:∀(v u t:List (List j5)),oL r1 v=some u→oL r2 u=some t→oL (fun i=>ob (r1 i) r2) v=some t
 | [],u,t,h,h'=>by simp only [oL,U0] at h;subst h;simpa only [oL] using h'
 | v::l,u,t,h,h'=>by
  simp only [oL] at h
  obtain⟨x,h1,h⟩:=J6 h
  obtain⟨y,h2,h⟩:=J6 h
  cases h
  simp only [oL] at h' ⊢
  obtain⟨x',h3,h'⟩:=J6 h'
  obtain⟨y',h4,h'⟩:=J6 h'
  rw [nJ v x x' h1 h3,O0,zN l y y' h2 h4];exact h'
theorem Dm {r1 r2:Nat→Option Nat}:∀(v u t:List (j5×j5)),Jq r1 v=some u→Jq r2 u=some t→Jq (fun i=>ob (r1 i) r2) v=some t
 | [],u,t,h,h'=>by simp only [Jq,U0] at h;subst h;simpa only [Jq] using h'
 | e::l,u,t,h,h'=>by
  simp only [Jq] at h
  obtain⟨x,h1,h⟩:=J6 h
  obtain⟨y,h2,h⟩:=J6 h
  obtain⟨z,h3,h⟩:=J6 h
  cases h
  simp only [Jq] at h' ⊢
  obtain⟨x',h4,h'⟩:=J6 h'
  obtain⟨y',h5,h'⟩:=J6 h'
  obtain⟨z',h6,h'⟩:=J6 h'
  rw [nI e.1 x x' h1 h4,O0,nI e.2 y y' h2 h5,O0,Dm l z z' h3 h6];exact h'
theorem KN {r1 r2:Nat→Option Nat}{v u t:NB}(h:xI r1 v=some u)(h':xI r2 u=some t):xI (fun i=>ob (r1 i) r2) v=some t:=by
 cases v<;>simp only [xI] at h
 ·obtain⟨x,h1,h⟩:=J6 h
  cases h
  simp only [xI] at h' ⊢
  obtain⟨x',h3,h'⟩:=J6 h'
  rw [zN _ x x' h1 h3];exact h'
 ·obtain⟨x,h1,h⟩:=J6 h
  cases h
  simp only [xI] at h' ⊢
  obtain⟨x',h3,h'⟩:=J6 h'
  rw [Dm _ x x' h1 h3];exact h'
 ·obtain⟨x,h1,h⟩:=J6 h
  cases h
  simp only [xI] at h' ⊢
  obtain⟨x',h3,h'⟩:=J6 h'
  rw [h1,O0,h3];exact h'
 ·cases h;exact h'
theorem rC {r:Nat→Option Nat}:∀(l l':List NB),uV r l=some l'→l'.length=l.length∧∀(i:Nat) x,l'[i]?=some x→∃y,l[i]?=some y∧xI r y=some x
 | [],l',h=>by simp only [uV,U0] at h;subst h;simp
 | v::l,l',h=>by
  simp only [uV] at h
  obtain⟨x,h1,h⟩:=J6 h
  obtain⟨y,h2,h⟩:=J6 h
  cases h
  obtain⟨g1,g2⟩:=rC l y h2
  refine⟨by simp [g1],fun i u hu=>?_⟩
  cases i with
  | zero=>simp at hu;subst hu;exact⟨v,rfl,h1⟩
  | succ i=>obtain⟨z,h3,h4⟩:=g2 i u (by simpa using hu);exact⟨z,by simpa using h3,h4⟩
mutual
theorem Bc (lo:Nat):∀(v:j5),∀i∈Nn lo v,lo≤i
 | .ptr i _,j,h | .slice i _ _ _,j,h | .sliceU i _ _ _,j,h | .map i,j,h=>by
  simp only [Nn] at h
  cases hb:Nat.ble lo i with
  | true=>rw [hb] at h;obtain rfl:=W9.1 h;exact avC hb
  | false=>rw [hb] at h;cases h
 | .func fn a b,j,h=>by
  simp only [Nn] at h
  rcases avN.1 h with h | h
  ·exact sZ lo a j h
  ·exact sZ lo b j h
 | .iface _ v,j,h=>by simp only [Nn] at h;exact Bc lo v j h
 | .agg l,j,h | .tuple l,j,h=>by simp only [Nn] at h;exact sZ lo l j h
 | .undef,j,h | .bool _,j,h | .int _ _,j,h | .str _,j,h | .nilPtr,j,h | .nilSlice,j,h | .nilMap,j,h | .nilFunc,j,h | .nilIface,j,h | .pan _,j,h=>by simp only [Nn] at h;cases h
theorem sZ (lo:Nat):∀(l:List j5),∀i∈BL lo l,lo≤i
 | [],j,h=>by simp only [BL] at h;cases h
 | v::l,j,h=>by
  simp only [BL] at h
  rcases avN.1 h with h | h
  ·exact Bc lo v j h
  ·exact sZ lo l j h
end
theorem Gw (lo:Nat):∀(l:List (List j5)),∀i∈JJ lo l,lo≤i
 | [],j,h=>by simp only [JJ] at h;cases h
 | v::l,j,h=>by
  simp only [JJ] at h
  rcases avN.1 h with h | h
  ·exact sZ lo v j h
  ·exact Gw lo l j h
theorem KO (lo:Nat):∀(l:List (j5×j5)),∀i∈Ze lo l,lo≤i
 | [],j,h=>by simp only [Ze] at h;cases h
 | e::l,j,h=>by
  simp only [Ze] at h
  rcases avN.1 h with h | h
  ·exact Bc lo _ j h
  ·rcases avN.1 h with h | h
   ·exact Bc lo _ j h
   ·exact KO lo l j h
theorem SE (lo:Nat)(b:NB):∀i∈Qa lo b,lo≤i:=by
 intro i h
 cases b with
 | cells rs rows=>exact Gw lo rows i h
 | map es=>exact KO lo es i h
 | tail p=>
  simp only [Qa] at h
  cases hb:Nat.ble lo p with
  | true=>rw [hb] at h;obtain rfl:=W9.1 h;exact avC hb
  | false=>rw [hb] at h;cases h
 | dead=>cases h
def Good (m:Mem)(lo:Nat)(l:List (Nat×NB)):Prop:=(∀p∈l,lo≤p.1∧∃b,m.get p.1=some b∧Eo b=some p.2)∧(l.map (·.1)).Nodup
theorem zO (n:Nat):∀l:List (Nat×NB),HV n l=true∨n∉l.map (·.1)
 | []=>.inr (by simp)
 | x::l=>by
  show bi (Nat.beq x.1 n) true (HV n l)=true∨_
  cases hb:Nat.beq x.1 n with
  | true=>exact .inl rfl
  | false=>
   rcases zO n l with h | h
   ·exact .inl h
   ·refine .inr fun hm=>?_
    rcases avL.1 (by simpa using hm:n∈x.1::l.map (·.1)) with h1 | h1
    ·rw [h1,awU] at hb;cases hb
    ·exact h h1
theorem IE {m:Mem}{lo:Nat}:∀(k:Nat) (work:List Nat) (seen out:List (Nat×NB)),(∀i∈work,lo≤i)→Good m lo seen→reach m lo k work seen=some out→Good m lo out:=by
 intro k
 induction k with
 | zero=>intro work seen out _ _ h;cases h
 | succ k ih=>
  intro work seen out hw hs h
  cases work with
  | nil=>
   have h:some seen.reverse=some out:=h
   cases h
   exact⟨fun p hp=>hs.1 p (axY.1 hp),by rw [List.map_reverse];exact List.pairwise_reverse.2 (hs.2.imp fun h e=>h e.symm)⟩
  | cons i work=>
   have h:bi (HV i seen) (reach m lo k work seen) (ob (m.get i) fun b=>ob (Eo b) fun nb=>reach m lo k (Qa lo nb++work) ((i,nb)::seen))=some out:=h
   rcases zO i seen with h1 | h1
   ·rw [h1] at h;exact ih work seen out (fun j hj=>hw j (by simp [hj])) hs h
   ·cases hb:HV i seen with
    | true=>rw [hb] at h;exact ih work seen out (fun j hj=>hw j (by simp [hj])) hs h
    | false=>
     rw [hb] at h
     obtain⟨b,h2,h⟩:=J6 h
     obtain⟨nb,h3,h⟩:=J6 h
     refine ih _ _ out (fun j hj=>?_) ⟨fun p hp=>?_,?_⟩ h
     ·rcases avN.1 hj with hj | hj
      ·exact SE lo nb j hj
      ·exact hw j (by simp [hj])
     ·rcases avL.1 hp with rfl | hp
      ·exact⟨hw i (by simp),b,h2,h3⟩
      ·exact hs.1 p hp
     ·rw [axt];exact axw.2 ⟨h1,hs.2⟩
theorem uN (i:Nat):∀(l:List Nat) (k j:Nat),placeOf i l k=some j→k≤j∧l[j-k]?=some i
 | [],k,j,h=>by cases h
 | x::l,k,j,h=>by
  have h:bi (Nat.beq x i) (some k) (placeOf i l (k+1))=some j:=h
  cases hb:Nat.beq x i with
  | true=>rw [hb] at h;cases h;rw [avt hb];simp
  | false=>
   rw [hb] at h
   obtain⟨h1,h2⟩:=uN i l (k+1) j h
   exact⟨by omega,by rw [show j-k=(j-(k+1))+1 from by omega];simpa using h2⟩
theorem Dn {lo i j:Nat}{ids:List Nat}(h:Eh lo ids i=some j):(i<lo∧j=i)∨(lo≤i∧lo≤j∧ids[j-lo]?=some i):=by
 unfold Eh at h
 cases hb:Nat.ble lo i with
 | true=>
  rw [hb] at h
  obtain⟨h1,h2⟩:=uN i ids lo j h
  exact .inr ⟨avC hb,h1,h2⟩
 | false=>
  rw [hb] at h
  have h:some i=some j:=h
  cases h
  exact .inl ⟨Nat.lt_of_not_le (CQ hb),rfl⟩
theorem nK {m:Mem}{lo:Nat}{vs:List j5}{c:CO}(h:gT lo vs m=some c):∃seen,Good m lo seen∧c.ids=seen.map (·.1)∧uh (Eh lo c.ids) vs=some c.vs∧uV (Eh lo c.ids) (seen.map (·.2))=some c.bs:=by
 obtain⟨seen,h1,h⟩:=J6 h
 obtain⟨xs,h2,h⟩:=J6 h
 obtain⟨bs,h3,h⟩:=J6 h
 cases h
 exact⟨seen,IE _ _ _ _ (sZ lo vs) ⟨(fun p (hp:p∈([]:List (Nat×NB)))=>by cases hp),(by simp:(([]:List (Nat×NB)).map (·.1)).Nodup)⟩ h1,rfl,h2,h3⟩
theorem Fh (b:NB)(bs:List NB)(m:Mem):layAll (b::bs) m=layAll bs (m.new (eD b)):=rfl
theorem lV:∀(bs:List NB) (m:Mem),T.Ok m.t m.next→T.Ok (layAll bs m).t (layAll bs m).next∧(layAll bs m).next=m.next+bs.length∧(layAll bs m).lim=m.lim∧
  ∀i,(layAll bs m).get i=if i<m.next then m.get i else (bs[i-m.next]?).map eD
 | [],m,h=>by
  refine⟨h,rfl,rfl,fun i=>?_⟩
  show m.get i=_
  split
  ·rfl
  ·rename_i hi
   cases hg:m.get i with
   | none=>simp
   | some x=>exact absurd (Mem.M8 h hg) hi
 | b::bs,m,h=>by
  obtain⟨h1,h2,h3,h4⟩:=lV bs (m.new (eD b)) (h.push _)
  rw [Fh]
  refine⟨h1,by rw [h2];simp;omega,h3,fun i=>?_⟩
  rw [h4,Mem.Gg,Mem.T9 h]
  by_cases hi:i<m.next
  ·rw [if_pos (by omega),if_neg (by omega),if_pos hi]
  ·by_cases he:i=m.next
   ·subst he;rw [if_pos (by omega),if_pos rfl,if_neg (by omega)];simp
   ·rw [if_neg (by omega),if_neg hi,show i-m.next=(i-(m.next+1))+1 from by omega];simp
end
section
variable {P:Program}{G:Mem}{ι:Inj}{m:Mem}{w:World}
structure Gx (G:Mem)(gbs:List NB):Prop where
 ok:T.Ok G.t G.next
 len:gbs.length=G.next
 get:∀i,i<G.next→G.get i=(gbs[i]?).map eD
 shut:∀nb∈gbs,xI (fun i=>bi (Nat.blt i G.next) (some i) none) nb=some nb
noncomputable abbrev P7 (G:Mem)(bs:List NB):Mem:=(layAll bs G).shut
def oM (P:Program)(G:Mem)(f:FuncId)(args:List j5)(bs:List NB)(a:Ans):Prop:=
 ∀(ι:Inj) (w:World),RM P G ι (P7 G bs) w.heap→ltL ((P7 G bs).nm ι) args→
  CallsIn Fence.wide 0 P f (H8 ι args).toArray w fun e w'=>∃ι' r,Step P G ι (P7 G bs) w ι' r.m w'∧r.v.lt (r.m.nm ι')∧e=.returned (H6 ι' r.v)∧Cc (layAll bs G).next r=some a
theorem wQ:∀a b:List (List j5),zm a b=true→a=b
 | [],[],_=>rfl
 | [],_ :: _,h=>by simp only [zm] at h;cases h
 | _ :: _,[],h=>by simp only [zm] at h;cases h
 | x::a,y::b,h=>by
  simp only [zm] at h
  obtain⟨h1,h2⟩:=gM h
  rw [jE (gY 100) _ _ h1,wQ a b h2]
theorem zP:∀a b:List (j5×j5),HY a b=true→a=b
 | [],[],_=>rfl
 | [],_ :: _,h=>by simp only [HY] at h;cases h
 | _ :: _,[],h=>by simp only [HY] at h;cases h
 | x::a,y::b,h=>by
  simp only [HY] at h
  obtain⟨h1,h2⟩:=gM h
  obtain⟨h2,h3⟩:=gM h2
  have e1:=gY 100 _ _ h1
  have e2:=gY 100 _ _ h2
  obtain⟨x1,x2⟩:=x
  obtain⟨y1,y2⟩:=y
  have e1:x1=y1:=e1
  have e2:x2=y2:=e2
  rw [e1,e2,zP a b h3]
theorem IG:∀a b:NB,bD a b=true→a=b:=by
 intro a b h
 cases a<;>cases b<;>simp only [bD] at h<;>first | (cases h;done) | skip
 ·obtain⟨h1,h2⟩:=gM h
  rw [avt h1,wQ _ _ h2]
 ·rw [zP _ _ h]
 ·rw [avt h]
 ·rfl
theorem lW:∀a b:List NB,kR a b=true→a=b
 | [],[],_=>rfl
 | [],_ :: _,h=>by simp only [kR] at h;cases h
 | _ :: _,[],h=>by simp only [kR] at h;cases h
 | x::a,y::b,h=>by
  simp only [kR] at h
  obtain⟨h1,h2⟩:=gM h
  rw [IG _ _ h1,lW a b h2]
theorem qg {lo:Nat}:∀(l:List VM) (a:Ans),Gc lo l=some a→∀r∈l,Cc lo r=some a
 | [],a,h,r,hr=>by cases hr
 | [x],a,h,r,hr=>by
  obtain rfl:=W9.1 hr
  obtain⟨b,h1,h2⟩:=J6 h
  have h2:some b=some a:=h2
  cases h2;exact h1
 | x::y::l,a,h,r,hr=>by
  obtain⟨b,h1,h2⟩:=J6 h
  have h2:(ob (Gc lo (y::l)) fun c=>bi (dH 100 b.v c.v) (bi (kR b.bs c.bs) (some b) none) none)=some a:=h2
  obtain⟨c,h3,h2⟩:=J6 h2
  obtain⟨h4,h2⟩:=L6 h2
  obtain⟨h5,h2⟩:=L6 h2
  have h2:some b=some a:=h2
  cases h2
  rcases avL.1 hr with rfl | hr
  ·exact h1
  ·have:=qg (y::l) c h3 r hr
   rw [this]
   have e1:=gY 100 _ _ h4
   have e2:=lW _ _ h5
   obtain⟨av,ab⟩:=a
   obtain⟨cv,cb⟩:=c
   have e1:av=cv:=e1
   have e2:ab=cb:=e2
   rw [e1,e2]
theorem II {cf:K8}(hcf:xU P G cf){dcf:jP}(hdc:aem P G dcf)(hmix:P.follows .mixedOrders=true)(fuel:Nat){f:FuncId}{sf:SFn}(hf:xJ P f sf){args:List j5}{bs:List NB}{a:Ans}
  (h:(ob (C8 cf dcf fuel sf args (P7 G bs)) fun l=>Gc (layAll bs G).next l)=some a):oM P G f args bs a:=by
 intro ι w hm hargs
 obtain⟨l,h1,h2⟩:=J6 h
 refine (Gq hcf hdc fuel (fun slots nt r=>kX hmix hcf slots nt r) hf h1 hm hargs).mono ?_
 rintro e w' (⟨v,rfl,r,hr,ι',g1,g2,rfl⟩ | ⟨r,hr,x,ι',hx,_⟩)
 ·exact⟨ι',r,g1,g2,rfl,qg l a h2 r hr⟩
 ·exfalso
  have h3:=qg l a h2 r hr
  obtain⟨co,hco,_⟩:=J6 h3
  obtain⟨seen,_,_,h4,_⟩:=nK hco
  rw [hx] at h4
  simp only [uh] at h4
  obtain⟨y,h5,_⟩:=J6 h4
  simp only [kQ] at h5
  cases h5
theorem uO {α:Type}(l:List α):(T.ofList l).slice l.length 0=some l:=by
 have key:∀(k i:Nat),i+k=l.length→(T.ofList l).slice k i=some (l.drop i):=by
  intro k
  induction k with
  | zero=>intro i h;rw [T.zn,avD (by omega)]
  | succ k ih=>
   intro i h
   have hi:i<l.length:=by omega
   rw [T.zo,T.aS,U1 hi,O0,ih (i+1) (by omega),O0,List.getElem_cons_drop]
 exact key l.length 0 (by omega)
theorem IJ (nb:NB):Eo (eD nb)=some nb:=by
 cases nb with
 | cells rs rows=>
  show (ob ((T.ofList rows).slice (len' rows) 0) fun l=>some (NB.cells rs l))=_
  rw [Q5,uO];rfl
 | map es=>rfl
 | tail p=>rfl
 | dead=>rfl
def eY (g:Nat)(ι:Inj)(ids:List Nat):Inj:=fun i=>if i<g then ι i else ι (ids.getD (i-g) 0)
theorem SF (hB:∃gbs,Gx G gbs)(hm:RM P G ι m w.heap){vs:List j5}{c:CO}(hc:gT G.next vs m=some c)(hvs:ltL (m.nm ι) vs):
  RM P G (eY G.next ι c.ids) (P7 G c.bs) w.heap∧ltL ((P7 G c.bs).nm (eY G.next ι c.ids)) c.vs∧H8 (eY G.next ι c.ids) c.vs=H8 ι vs∧c.bs.length=c.ids.length∧
   (∀(k i:Nat),c.ids[k]?=some i→G.next≤i∧m.has i)∧(∀i,G.next≤i→i<(P7 G c.bs).next→∃j,c.ids[i-G.next]?=some j):=by
 obtain⟨gbs,hB⟩:=hB
 obtain⟨seen,⟨hg1,hg2⟩,hids,h3,h4⟩:=nK hc
 obtain⟨l1,l2,l3,l4⟩:=lV c.bs G hB.ok
 obtain⟨b1,b2⟩:=rC _ _ h4
 have hlen:c.bs.length=c.ids.length:=by rw [b1,hids];simp
 have hseen:∀(k i:Nat),c.ids[k]?=some i→G.next≤i∧∃b nb nb',m.get i=some b∧Eo b=some nb∧c.bs[k]?=some nb'∧xI (Eh G.next c.ids) nb=some nb':=by
  intro k i hk
  rw [hids,awe] at hk
  cases hp:seen[k]? with
  | none=>rw [hp] at hk;cases hk
  | some p=>
   rw [hp] at hk
   have hk:p.1=i:=avA hk
   obtain⟨q1,b,q2,q3⟩:=hg1 p (avG hp)
   rw [hk] at q1 q2
   have hkl:k<c.bs.length:=by rw [hlen,hids,axz];exact (S9.1 hp).1
   obtain⟨y,q4,q5⟩:=b2 k _ (U1 hkl)
   rw [awe,hp] at q4
   have q4:p.2=y:=avA q4
   rw [← q4] at q5
   exact⟨q1,b,p.2,_,q2,q3,U1 hkl,q5⟩
 have hget:∀i,(P7 G c.bs).get i=if i<G.next then G.get i else (c.bs[i-G.next]?).map eD:=l4
 have hnext:(P7 G c.bs).next=G.next+c.bs.length:=l2
 have hbase:∀i,i<G.next→m.get i=G.get i:=hm.base
 have hin:∀k i,c.ids[k]?=some i→eY G.next ι c.ids (G.next+k)=ι i:=by
  intro k i hk
  unfold eY
  rw [if_neg (by omega),show G.next+k-G.next=k from by omega,avF,hk];rfl
 have hlo:∀i,i<G.next→eY G.next ι c.ids i=ι i:=fun i hi=>if_pos hi
 have hr:Dl ι (m.nm ι) (eY G.next ι c.ids) ((P7 G c.bs).nm (eY G.next ι c.ids)) (Eh G.next c.ids):=by
  intro i j hij ⟨y,hy,hyv⟩
  rcases Dn hij with⟨h1,rfl⟩ | ⟨h1,h2,h3⟩
  ·refine⟨⟨y,?_,hyv⟩,hlo _ h1,congrArg Loc.cap (hlo _ h1)⟩
   rw [hget,if_pos h1,← hbase _ h1];exact hy
  ·have e:=hin (j-G.next) i h3
   rw [show G.next+(j-G.next)=j from by omega] at e
   obtain⟨_,_,_,nb',_,_,q,_⟩:=hseen (j-G.next) i h3
   refine⟨⟨eD nb',?_,sW nb'⟩,e,congrArg Loc.cap e⟩
   rw [hget,if_neg (by omega),q];rfl
 have hr0:Dl ι (m.nm ι) (eY G.next ι c.ids) ((P7 G c.bs).nm (eY G.next ι c.ids)) (fun i=>bi (Nat.blt i G.next) (some i) none):=by
  intro i j hij ⟨y,hy,hyv⟩
  have hij:bi (Nat.blt i G.next) (some i) none=some j:=hij
  obtain⟨h1,h2⟩:=L6 hij
  cases h2
  have h1:i<G.next:=Eq.mp avM h1
  refine⟨⟨y,?_,hyv⟩,hlo _ h1,congrArg Loc.cap (hlo _ h1)⟩
  rw [hget,if_pos h1,← hbase _ h1];exact hy
 obtain⟨v1,v2⟩:=iq hr vs c.vs h3 hvs
 have hspot:∀i x,(P7 G c.bs).get i=some x→aV x=true→(eY G.next ι c.ids i).spot=none:=by
  intro i b hb hlv
  rw [hget] at hb
  split at hb
  ·rename_i hi
   rw [hlo i hi]
   exact hm.spot i b (by rw [hbase i hi];exact hb) hlv
  ·rename_i hi
   cases hnb:c.bs[i-G.next]? with
   | none=>rw [hnb] at hb;cases hb
   | some nb=>
    rw [hnb] at hb
    have hb:eD nb=b:=avA hb
    subst hb
    have hk:i-G.next<c.ids.length:=by have:=(S9.1 hnb).1;omega
    have hkk:=U1 hk
    obtain⟨_,bb,nb0,nb',q1,q2,q3,q4⟩:=hseen _ _ hkk
    rw [hnb] at q3;cases q3
    have e:=hin (i-G.next) _ hkk
    rw [show G.next+(i-G.next)=i from by omega] at e
    rw [e]
    exact hm.spot _ _ q1 (by rw [← zM q2 q4];exact hlv)
 refine⟨⟨l1,?_,fun i x hi hx=>?_,?_,D5 _,hm.gle,fun i hi=>by rw [hget,if_pos hi],fun i hi=>?_,fun i hi=>?_,fun i x hx hl=>?_,hm.gsz⟩,v2,v1,hlen,fun k i hk=>?_,fun i h1 h2=>?_⟩
 ·intro i b hb
  rw [hget] at hb
  split at hb
  ·rename_i hi
   rw [hlo i hi]
   have hmb:m.get i=some b:=by rw [hbase i hi];exact hb
   have hb':=hm.blk i b hmb
   rw [hB.get i hi] at hb
   cases hnb:gbs[i]? with
   | none=>rw [hnb] at hb;cases hb
   | some nb=>
    rw [hnb] at hb
    have hb:eD nb=b:=avA hb
    subst hb
    exact Fg hr0 hb' (IJ nb) (hB.shut nb (avG hnb))
  ·rename_i hi
   cases hnb:c.bs[i-G.next]? with
   | none=>rw [hnb] at hb;cases hb
   | some nb=>
    rw [hnb] at hb
    have hb:eD nb=b:=avA hb
    subst hb
    have hk:i-G.next<c.ids.length:=by have:=(S9.1 hnb).1;omega
    have hkk:=U1 hk
    obtain⟨_,bb,nb0,nb',q1,q2,q3,q4⟩:=hseen _ _ hkk
    rw [hnb] at q3;cases q3
    have e:=hin (i-G.next) _ hkk
    rw [show G.next+(i-G.next)=i from by omega] at e
    rw [e]
    exact Fg hr (hm.blk _ _ q1) q2 q4
 ·have:=Mem.M8 (m:=P7 G c.bs) l1 hx
  have hi:(P7 G c.bs).next≤i:=hi
  omega
 ·show G.next≤(P7 G c.bs).next
  rw [hnext];omega
 ·obtain⟨y,h1,h2⟩:=hm.ghas i hi
  have hi':i<G.next:=avu hi hm.gle
  exact⟨y,by rw [hget,if_pos hi',← hbase i hi'];exact h1,h2⟩
 ·rw [hlo i (avu hi hm.gle)];exact hm.glob i hi
 ·exact hspot i x hx hl
 ·obtain⟨q1,b,nb,_,q2,q3,_⟩:=hseen k i hk
  exact⟨q1,b,q2,KM q3⟩
 ·rw [hnext] at h2
  exact⟨_,U1 (by omega)⟩
def dU (next:Nat)(ι ι2:Inj)(ids:List Nat):Inj:=fun i=>if i<next then ι i else ι2 (ids.getD (i-next) 0)
theorem wR {g next i j:Nat}{ids:List Nat}(h:fC g ids next i=some j):
  (i<g∧j=i)∨(g≤i∧i-g<ids.length∧ids[i-g]?=some j)∨(g+ids.length≤i∧j=next+(i-g-ids.length)):=by
 unfold fC at h
 rw [Q5] at h
 cases h1:Nat.blt i g with
 | true=>rw [h1] at h;have h:some i=some j:=h;cases h;exact .inl ⟨Eq.mp avM h1,rfl⟩
 | false=>
  rw [h1] at h
  have h1:=ny h1
  cases h2:Nat.blt (Nat.sub i g) ids.length with
  | true=>
   rw [h2] at h
   have h:Ae (i-g) ids=some j:=h
   rw [jv] at h
   exact .inr (.inl ⟨h1,Eq.mp avM h2,h⟩)
  | false=>
   rw [h2] at h
   have h2:ids.length≤i-g:=ny h2
   have h:some (next+(i-g-ids.length))=some j:=h
   cases h
   exact .inr (.inr ⟨by omega,rfl⟩)
theorem Fj (hB:∃gbs,Gx G gbs){f:FuncId}{args:List j5}{c:CO}{a:Ans}{v:j5}{bs:List NB}(hm:RM P G ι m w.heap)(hargs:ltL (m.nm ι) args)(hc:gT G.next args m=some c)(ha:oM P G f c.vs c.bs a)
  (hv:kQ (fC G.next c.ids m.next) a.v=some v) (hbs:uV (fC G.next c.ids m.next) a.bs=some bs):
  CallsIn Fence.wide 0 P f (H8 ι args).toArray w (bI P G ι m w [⟨v,layAll bs m⟩]):=by
 have hBok:T.Ok G.t G.next:=by obtain⟨gbs,hB⟩:=hB;exact hB.ok
 obtain⟨hm1,hargs1,hconc,hlen,hidh,hidx⟩:=SF hB hm hc hargs
 have hcall:=ha (eY G.next ι c.ids) w hm1 hargs1
 rw [hconc] at hcall
 refine hcall.mono ?_
 rintro e w' ⟨ι2,r,hst,hrv,rfl,hans⟩
 obtain⟨co,hco,hans⟩:=J6 hans
 obtain⟨seen,⟨hg1,hg2⟩,hids,h3,h4⟩:=nK hco
 have hvs:∃u,co.vs=[u]∧kQ (Eh (layAll c.bs G).next co.ids) r.v=some u:=by
  simp only [uh] at h3
  obtain⟨x,h5,h3⟩:=J6 h3
  obtain⟨y,h6,h3⟩:=J6 h3
  cases h6
  have h3:some [x]=some co.vs:=h3
  exact⟨x,(avA h3).symm,h5⟩
 obtain⟨u,hu,hru⟩:=hvs
 rw [hu] at hans
 have hans:some (⟨u,co.bs⟩:Ans)=some a:=hans
 cases hans
 obtain⟨b1,b2⟩:=rC _ _ h4
 obtain⟨b3,b4⟩:=rC _ _ hbs
 obtain⟨l1,l2,l3,l4⟩:=lV c.bs G hBok
 obtain⟨k1,k2,k3,k4⟩:=lV bs m hm.ok
 have hlo:(P7 G c.bs).lim=(layAll c.bs G).next:=rfl
 have hlolen:(layAll c.bs G).next=G.next+c.ids.length:=by rw [l2,hlen]
 have hno:∀b,¬ JR (eY G.next ι c.ids) (P7 G c.bs) b:=by
  rintro b ⟨i,x,hi,hx,_,_⟩
  have:=Mem.M8 (m:=P7 G c.bs) hm1.ok hx
  have hi:(P7 G c.bs).next≤i:=hi
  omega
 have hheap:∀b,b<w.heap.size→w'.heap[b]?=w.heap[b]?:=fun b hb=>hst.frame b hb (hno b)
 have hnewloc:∀i x,(layAll c.bs G).next≤i→r.m.get i=some x→aV x=true→w.heap.size≤(ι2 i).b:=by
  intro i x hi hx hl
  rcases hst.own _ ⟨i,x,by rw [hst.lim];exact hi,hx,hl,rfl⟩ with h | h
  ·exact absurd h (hno _)
  ·exact h
 have hseen:∀(k i:Nat),co.ids[k]?=some i→(layAll c.bs G).next≤i∧∃b nb nb',r.m.get i=some b∧Eo b=some nb∧bs[k]?=some nb'∧
   xI (fun i=>ob (Eh (layAll c.bs G).next co.ids i) (fC G.next c.ids m.next)) nb=some nb':=by
  intro k i hk
  have hk':=hk
  rw [hids,awe] at hk
  cases hp:seen[k]? with
  | none=>rw [hp] at hk;cases hk
  | some p=>
   rw [hp] at hk
   have hk:p.1=i:=avA hk
   obtain⟨q1,b,q2,q3⟩:=hg1 p (avG hp)
   rw [hk] at q1 q2
   have hkl:k<co.bs.length:=by rw [b1,axz];exact (S9.1 hp).1
   have hkl2:k<bs.length:=by rw [b3];exact hkl
   obtain⟨y,q4,q5⟩:=b2 k _ (U1 hkl)
   obtain⟨z,q6,q7⟩:=b4 k _ (U1 hkl2)
   have q6:co.bs[k]?=some z:=q6
   rw [U1 hkl] at q6
   cases q6
   rw [awe,hp] at q4
   have q4:p.2=y:=avA q4
   rw [← q4] at q5
   exact⟨q1,b,p.2,_,q2,q3,U1 hkl2,KN q5 q7⟩
 have hbl:bs.length=co.ids.length:=by rw [b3];show co.bs.length=_;rw [b1,hids];simp
 have hget:∀i,(layAll bs m).get i=if i<m.next then m.get i else (bs[i-m.next]?).map eD:=k4
 have hold:∀i,i<m.next→dU m.next ι ι2 co.ids i=ι i:=fun i hi=>if_pos hi
 have hnew:∀k i,co.ids[k]?=some i→dU m.next ι ι2 co.ids (m.next+k)=ι2 i:=by
  intro k i hk
  unfold dU
  rw [if_neg (by omega),show m.next+k-m.next=k from by omega,avF,hk];rfl
 have hlt:∀i x,m.get i=some x→i<m.next:=fun i x hx=>Mem.M8 hm.ok hx
 have hhas:∀i,m.has i→(layAll bs m).has i:=fun i ⟨x,h1,h2⟩=>⟨x,by rw [hget,if_pos (hlt i x h1)];exact h1,h2⟩
 have hext:∀i,m.has i→dU m.next ι ι2 co.ids i=ι i:=fun i ⟨x,h1,_⟩=>hold i (hlt i x h1)
 have hGm:G.next≤m.next:=avz hm.glim hm.limn
 have hr:Dl ι2 (r.m.nm ι2) (dU m.next ι ι2 co.ids) ((layAll bs m).nm (dU m.next ι ι2 co.ids)) (fun i=>ob (Eh (layAll c.bs G).next co.ids i) (fC G.next c.ids m.next)):=by
  intro i j hij ⟨y,hy,hyv⟩
  obtain⟨t,h5,h6⟩:=J6 hij
  have fin:(layAll bs m).has j∧dU m.next ι ι2 co.ids j=ι2 i→((layAll bs m).nm (dU m.next ι ι2 co.ids)) j∧dU m.next ι ι2 co.ids j=ι2 i∧((layAll bs m).nm (dU m.next ι ι2 co.ids)).cap j=(r.m.nm ι2).cap i:=
   fun ⟨p,q⟩=>⟨p,q,congrArg Loc.cap q⟩
  rcases Dn h5 with⟨h7,rfl⟩ | ⟨h7,h8,h9⟩
  ·
   have hcan:(P7 G c.bs).get t=some y:=by rw [← hst.old t h7];exact hy
   have hι2:ι2 t=eY G.next ι c.ids t:=hst.ext t ⟨y,hcan,hyv⟩
   rcases wR h6 with⟨h10,rfl⟩ | ⟨h10,h11,h12⟩ | ⟨h10,_⟩
   ·have hmj:m.has j:=by
     refine⟨y,?_,hyv⟩
     have h13:(P7 G c.bs).get j=if j<G.next then G.get j else (c.bs[j-G.next]?).map eD:=l4 j
     rw [h13,if_pos h10] at hcan
     rw [hm.base j h10];exact hcan
    exact fin ⟨hhas j hmj,by rw [hext j hmj,hι2];exact (if_pos h10).symm⟩
   ·obtain⟨_,hmj⟩:=hidh _ _ h12
    refine fin ⟨hhas j hmj,?_⟩
    rw [hext j hmj,hι2]
    unfold eY
    rw [if_neg (by omega),avF,h12];rfl
   ·omega
  ·
   rcases wR h6 with⟨h10,_⟩ | ⟨h10,h11,_⟩ | ⟨h10,rfl⟩
   ·omega
   ·omega
   ·have e:t-G.next-c.ids.length=t-(layAll c.bs G).next:=by omega
    obtain⟨_,_,_,nb',_,_,q,_⟩:=hseen _ _ h9
    refine fin ⟨⟨eD nb',?_,sW nb'⟩,by rw [e];exact hnew _ _ h9⟩
    rw [e,hget,if_neg (by omega),show m.next+(t-(layAll c.bs G).next)-m.next=t-(layAll c.bs G).next from by omega,q];rfl
 obtain⟨v1,v2⟩:=kY hr r.v v (nI _ _ _ hru hv) hrv
 have hcase:∀i x,(layAll bs m).get i=some x→(i<m.next∧m.get i=some x)∨∃k id b,i=m.next+k∧co.ids[k]?=some id∧r.m.get id=some b∧(layAll c.bs G).next≤id∧aV x=aV b∧
   fT P (dU m.next ι ι2 co.ids) ((layAll bs m).nm (dU m.next ι ι2 co.ids)) w'.heap (ι2 id) x:=by
  intro i x hx
  rw [hget] at hx
  split at hx
  ·exact .inl ⟨by assumption,hx⟩
  ·rename_i hi
   cases hnb:bs[i-m.next]? with
   | none=>rw [hnb] at hx;cases hx
   | some nb=>
    rw [hnb] at hx
    have hx:eD nb=x:=avA hx
    subst hx
    have hk:i-m.next<co.ids.length:=by have:=(S9.1 hnb).1;omega
    have hkk:=U1 hk
    obtain⟨q0,b,nb0,nb',q1,q2,q3,q4⟩:=hseen _ _ hkk
    rw [hnb] at q3;cases q3
    exact .inr ⟨i-m.next,_,b,by omega,hkk,q1,q0,zM q2 q4,Fg hr (hst.rm.blk _ _ q1) q2 q4⟩
 refine .inl ⟨H6 ι2 r.v,rfl,⟨v,layAll bs m⟩,W9.2 rfl,dU m.next ι ι2 co.ids,?_,v2,v1.symm⟩
 refine⟨⟨k1,?_,?_,by rw [k3];exact hm.glim,by rw [k3,k2];exact avz hm.limn (by omega),hm.gle,fun i hi=>by rw [hget,if_pos (by omega)];exact hm.base i hi,fun i hi=>hhas i (hm.ghas i hi),
  fun i hi=>by rw [hext i (hm.ghas i hi)];exact hm.glob i hi,fun i x hx hl=>by
   rcases hcase i x hx with⟨h1,h2⟩ | ⟨k,id,b,rfl,h2,h3,_,h5,_⟩
   ·rw [hold i h1];exact hm.spot i x h2 hl
   ·rw [hnew k id h2];exact hst.rm.spot id b h3 (by rw [← h5];exact hl),hst.rm.gsz⟩,hext,hhas,by rw [k2];omega,k3,fun i hi=>by rw [hget,if_pos (by have:=hm.limn;omega)],hst.size,fun b hb _=>hheap b hb,?_,hst.os,hst.out,hst.tape⟩
 ·intro i x hx
  rcases hcase i x hx with⟨h1,h2⟩ | ⟨k,id,b,rfl,h2,h3,_,_,h4⟩
  ·rw [hold i h1]
   exact (hm.blk i x h2).mono (n:=m.nm ι) hext (Mem.bU hhas hext) fun hl=>hheap _ (dx (hm.blk i x h2) hl)
  ·rw [hnew k id h2];exact h4
 ·intro i x hi hx hl
  rw [k3] at hi
  rcases hcase i x hx with⟨h1,h2⟩ | ⟨k,id,b,rfl,h2,h3,h4,h5,h6⟩
  ·have ho:=hm.own i x hi h2 hl
   have hb:=dx (hm.blk i x h2) hl
   refine⟨fun j y hj hy hly=>?_,fun c e fz hcc=>?_⟩
   ·rcases hcase j y hy with⟨g1,g2⟩ | ⟨k',id',b',rfl,g2,g3,g4,g5,g6⟩
    ·rw [hold j g1,hold i h1];exact ho.alone j y hj g2 hly
    ·rw [hnew k' id' g2,hold i h1]
     have:=hnewloc id' b' g4 g3 (by rw [← g5];exact hly)
     omega
   ·rw [hold i h1,hheap _ hb] at hcc;exact ho.free c e fz hcc
  ·have hlb:aV b=true:=by rw [← h5];exact hl
   have ho:=hst.rm.own id b (by rw [hst.lim];exact h4) h3 hlb
   have hn:=hnewloc id b h4 h3 hlb
   refine⟨fun j y hj hy hly=>?_,fun c e fz hcc=>?_⟩
   ·rw [hnew k id h2]
    rcases hcase j y hy with⟨g1,g2⟩ | ⟨k',id',b',rfl,g2,g3,g4,g5,g6⟩
    ·rw [hold j g1]
     have:=dx (hm.blk j y g2) hly
     omega
    ·rw [hnew k' id' g2]
     refine ho.alone id' b' (fun e=>hj ?_) g3 (by rw [← g5];exact hly)
     subst e
     have hnd:co.ids.Nodup:=by rw [hids];exact hg2
     have:k'=k:=(aww (S9.1 g2).1 hnd).1 (g2.trans h2.symm)
     rw [this]
   ·rw [hnew k id h2] at hcc;exact ho.free c e fz hcc
 ·rintro b ⟨i,x,hi,hx,hl,rfl⟩
  rw [k3] at hi
  rcases hcase i x hx with⟨h1,h2⟩ | ⟨k,id,bb,rfl,h2,h3,h4,h5,h6⟩
  ·rw [hold i h1];exact .inl ⟨i,x,hi,h2,hl,rfl⟩
  ·rw [hnew k id h2];exact .inr (hnewloc id bb h4 h3 (by rw [← h5];exact hl))
end
section
variable {P:Program}
structure Sum where
 f:FuncId
 args:List j5
 bs:List NB
 a:Ans
noncomputable def sumOf (l:List Sum)(f:FuncId)(args:List j5)(bs:List NB):Option Ans:=
 List.rec none (fun s _ ih=>bi (Nat.beq s.f f) (bi (Ah (dH 100) s.args args) (bi (kR s.bs bs) (some s.a) ih) ih) ih) l
theorem tq {G:Mem}:∀(l:List Sum),(∀s∈l,oM P G s.f s.args s.bs s.a)→∀f args bs a,sumOf l f args bs=some a→oM P G f args bs a
 | [],_,f,args,bs,a,h=>by cases h
 | s::l,hl,f,args,bs,a,h=>by
  have ih:=tq l (fun s hs=>hl s (by simp [hs])) f args bs a
  have h:bi (Nat.beq s.f f) (bi (Ah (dH 100) s.args args) (bi (kR s.bs bs) (some s.a) (sumOf l f args bs)) (sumOf l f args bs)) (sumOf l f args bs)=some a:=h
  cases h1:Nat.beq s.f f with
  | false=>rw [h1] at h;exact ih h
  | true=>
   rw [h1] at h
   cases h2:Ah (dH 100) s.args args with
   | false=>rw [h2] at h;exact ih h
   | true=>
    rw [h2] at h
    cases h3:kR s.bs bs with
    | false=>rw [h3] at h;exact ih h
    | true=>
     rw [h3] at h
     have h:some s.a=some a:=h
     cases h
     rw [← avt h1,← jE (gY 100) _ _ h2,← lW _ _ h3]
     exact hl s (by simp)
structure KOk (P:Program)(K:Known):Prop where
 mix:P.follows .mixedOrders=true
 fns:∀f sf,K.fns f=some sf→xJ P f sf
 base:∃gbs,Gx K.base gbs
 sum:∀f args bs a,K.sum f args bs=some a→oM P K.base f args bs a
theorem qh (K:Known)(fuel:Nat)(fn:Fn)(args:List j5)(m:Mem):D6 K fuel 0 fn args m=none:=rfl
theorem iw (K:Known)(fuel n:Nat)(fn:Fn)(args:List j5)(m:Mem):D6 K fuel (n+1) fn args m=match fn with
  | .func f=>ob (K.fns f) fun sf=>bi sf.pure (qD K (D6 K fuel n) fuel f sf args m) (C8 (D6 K fuel n) (Ch K (D6 K fuel n) fuel) fuel sf args m)
  | .yield l=>Ep (D6 K fuel n) fuel l args m
  | _=>none:=rfl
theorem Gy {K:Known}(hK:KOk P K){cf:K8}(hcf:xU P K.base cf){fuel:Nat}{f:FuncId}{sf:SFn}(hf:xJ P f sf){args:List j5}{bs:List NB}{a:Ans}(h:Ci K cf fuel f sf args bs=some a):oM P K.base f args bs a:=by
 unfold Ci at h
 cases hs:K.sum f args bs with
 | some b=>
  rw [hs] at h
  have h:some b=some a:=h
  cases h
  exact hK.sum f args bs _ hs
 | none=>rw [hs] at h;exact II hcf (Dk hK.fns hcf fuel fun slots nt r=>kX hK.mix hcf slots nt r) hK.mix fuel hf h
theorem Dp {K:Known}(hK:KOk P K)(fuel:Nat):∀n,xU P K.base (D6 K fuel n):=by
 intro n
 induction n with
 | zero=>exact⟨(fun h=>by rw [qh] at h;cases h),(fun h=>by rw [qh] at h;cases h),(fun h=>by rw [qh] at h;cases h)⟩
 | succ n ih=>
  refine⟨fun {f args m outs} h=>?_,fun {l args m outs} h {ι w} hm hargs=>?_,fun {fn args m outs} h=>?_⟩
  ·rw [iw] at h
   obtain⟨sf,h1,h⟩:=J6 h
   have hf:=hK.fns f sf h1
   refine⟨hf.ok,fun {ι w} hm hargs=>?_⟩
   cases hp:sf.pure with
   | false=>
    rw [hp] at h
    exact Gq ih (Dk hK.fns ih fuel fun slots nt r=>kX hK.mix ih slots nt r) fuel (fun slots nt r=>kX hK.mix ih slots nt r) hf h hm hargs
   | true=>
    rw [hp] at h
    have h:qD K (D6 K fuel n) fuel f sf args m=some outs:=h
    obtain⟨c,h2,h⟩:=J6 h
    obtain⟨a,h3,h⟩:=J6 h
    obtain⟨v,h4,h⟩:=J6 h
    obtain⟨bs,h5,h⟩:=J6 h
    cases h
    exact Fj hK.base hm hargs h2 (Gy hK ih hf h3) h4 h5
  ·rw [iw] at h
   exact EX ih fuel (fun slots nt r=>kX hK.mix ih slots nt r) h hm hargs
  ·rw [iw] at h
   cases fn with
   | func f=>exact .inl ⟨f,rfl⟩
   | yield l=>exact .inr ⟨l,rfl⟩
   | _=>cases h
theorem IK {K:Known}(hK:KOk P K){fuel n:Nat}{f:FuncId}{sf:SFn}(hf:xJ P f sf){args:List j5}{bs:List NB}{a:Ans}(h:Ci K (D6 K fuel n) fuel f sf args bs=some a):oM P K.base f args bs a:=
 Gy hK (Dp hK fuel n) hf h
end
noncomputable def Yu (pure rc:Bool)(a:AFn):SFn:=⟨pure,a.args,a.nslots,a.results,trC a.body,bif rc then some a.body else none⟩
theorem KP {P:Program}{slots:List Nat}{f:FuncId}{a:AFn}(h:cFn P slots f=some a)(pure rc:Bool):xJ P f (Yu pure rc a):=by
 unfold cFn at h
 split at h
 ·cases h
 ·rename_i fn hfn
  split at h
  ·cases h
  ·rename_i c hc
   split at h
   ·rename_i b r hb hr
    split at h
    ·rename_i hok
     cases h
     simp only [avv,bne_iff_ne,ne_eq] at hok
     obtain⟨⟨⟨h1,h2⟩,h3⟩,h4⟩:=hok
     refine⟨⟨fn,hfn,by rw [hc];rfl,h4⟩,slots,fn,c,b,r,hfn,hc,hb,hr,h1,fun t ht=>?_,?_,rfl,rfl,rfl,rfl,fun c' hc'=>?_⟩
     ·exact Eq.mp avM (awi.1 h2 t ht)
     ·have:slots.length<1152921504606846976:=Eq.mp avM h3
      exact this
     ·cases rc with
      | true=>exact (avA hc').symm
      | false=>cases hc'
    ·cases h
   ·cases h
theorem Fp {P:Program}{slots:List Nat}{f:FuncId}{pure rc:Bool}{sf:SFn}(h:(cFn P slots f).map (Yu pure rc)=some sf):xJ P f sf:=by
 cases hc:cFn P slots f with
 | none=>rw [hc] at h;cases h
 | some a=>rw [hc] at h;cases h;exact KP hc pure rc
end Go.AM
namespace Go.AM
open Go
noncomputable section
def TOk (P:Program)(r:Nat→Nat)(t:T (Option SFn)):Prop:=∀i sf,t.get i=some (some sf)→xJ P (r i) sf
theorem asj {P:Program}{r:Nat→Nat}:TOk P r .e:=fun i sf h=>by cases h
def OOk (P:Program)(i:Nat)(o:Option SFn):Prop:=∀sf,o=some sf→xJ P i sf
theorem asl {P:Program}{i:Nat}:OOk P i none:=fun _ h=>by cases h
theorem asn {P:Program}{i:Nat}{sf:SFn}(h:xJ P i sf):OOk P i (some sf):=fun _ e=>by cases e;exact h
theorem aqZ {P:Program}{r:Nat→Nat}{a b:T (Option SFn)}{x:Option SFn}(ha:TOk P (fun i=>r (2*i+1)) a)(hx:OOk P (r 0) x)(hb:TOk P (fun i=>r (2*i+2)) b):TOk P r (.nd a x b):=by
 intro i sf h
 cases i with
 | zero=>exact hx sf (avA h)
 | succ j=>
  have h:(Nat.rec (a.get (Nat.div j 2)) (fun _ _=>b.get (Nat.div j 2)) (Nat.mod j 2):Option (Option SFn))=some (some sf):=h
  rcases avZ j with h2 | h2
  ·have h2':Nat.mod j 2=0:=h2
   rw [h2'] at h
   have:=ha _ sf h
   have e:2*Nat.div j 2+1=j+1:=by
    have:Nat.div j 2=j / 2:=rfl
    omega
   have this:xJ P (r (2*Nat.div j 2+1)) sf:=this
   rw [e] at this
   exact this
  ·have h2':Nat.mod j 2=1:=h2
   rw [h2'] at h
   have:=hb _ sf h
   have e:2*Nat.div j 2+2=j+1:=by
    have:Nat.div j 2=j / 2:=rfl
    omega
   have this:xJ P (r (2*Nat.div j 2+2)) sf:=this
   rw [e] at this
   exact this
theorem Ol {P:Program}{t:T (Option SFn)}(h:TOk P (fun i=>i) t):∀f sf,ob (t.get f) (fun x=>x)=some sf→xJ P f sf:=by
 intro f sf hf
 obtain⟨x,h1,h2⟩:=J6 hf
 have h2:x=some sf:=h2
 rw [h2] at h1
 exact h f sf h1
section
variable {α β γ:Type}
@[simp] theorem aft (a:α)(f:α→Option (List β)):bnd (some [a]) f=f a:=_root_.id rfl
@[simp] theorem ar0 (f:α→Option (List β)):bnd (none:Option (List α)) f=none:=_root_.id rfl
@[simp] theorem aen (a:α)(f:α→Option β):RL (some [a]) f=f a:=_root_.id rfl
@[simp] theorem SG (a:α)(z:β)(f:α→β):(Option.rec z (fun v=>f v) (some a):β)=f a:=_root_.id rfl
@[simp] theorem SH (z:β)(f:α→β):(Option.rec z (fun v=>f v) none:β)=z:=_root_.id rfl
end
section
variable (k:IntKind)(b:Bool)(n:Int)(s:List UInt8)(i o l c:Nat)(v:j5)(as bs:List j5)(fn:Fn){β:Type}
@[simp] theorem Zo (p:j5→β)(q:β):kK (.bool b) p q=q:=_root_.id rfl
@[simp] theorem aeo (p:j5→β)(q:β):kK (.int k n) p q=q:=_root_.id rfl
@[simp] theorem aep (p:j5→β)(q:β):kK (.str s) p q=q:=_root_.id rfl
@[simp] theorem SI (p:j5→β)(q:β):kK .nilPtr p q=q:=_root_.id rfl
@[simp] theorem aer (p:j5→β)(q:β):kK (.ptr i o) p q=q:=_root_.id rfl
@[simp] theorem Om (p:j5→β)(q:β):kK .nilSlice p q=q:=_root_.id rfl
@[simp] theorem Yv (p:j5→β)(q:β):kK (.slice i o l c) p q=q:=_root_.id rfl
@[simp] theorem SK (p:j5→β)(q:β):kK (.sliceU i o l c) p q=q:=_root_.id rfl
@[simp] theorem SL (p:j5→β)(q:β):kK .nilMap p q=q:=_root_.id rfl
@[simp] theorem aes (p:j5→β)(q:β):kK (.map i) p q=q:=_root_.id rfl
@[simp] theorem Qm (p:j5→β)(q:β):kK .nilFunc p q=q:=_root_.id rfl
@[simp] theorem Zp (p:j5→β)(q:β):kK (.func fn as bs) p q=q:=_root_.id rfl
@[simp] theorem Oo (p:j5→β)(q:β):kK .nilIface p q=q:=_root_.id rfl
@[simp] theorem Yw (p:j5→β)(q:β):kK (.iface i v) p q=q:=_root_.id rfl
@[simp] theorem aeu (p:j5→β)(q:β):kK (.agg as) p q=q:=_root_.id rfl
@[simp] theorem Yx (p:j5→β)(q:β):kK (.tuple as) p q=q:=_root_.id rfl
@[simp] theorem Yy (p:j5→β)(q:β):kK .undef p q=q:=_root_.id rfl
@[simp] theorem aev (p:j5→β)(q:β):kK (.pan v) p q=p v:=_root_.id rfl
end
@[simp] theorem ar1 (x:j5)(ls:List j5)(env:T j5):oL0 (x::ls) env=x:=_root_.id rfl
@[simp] theorem ar2 (a x:j5)(ls:List j5)(env:T j5):oL1 (a::x::ls) env=x:=_root_.id rfl
@[simp] theorem ar3 (a b x:j5)(ls:List j5)(env:T j5):oL2 (a::b::x::ls) env=x:=_root_.id rfl
@[simp] theorem ar4 (a b c x:j5)(ls:List j5)(env:T j5):oL3 (a::b::c::x::ls) env=x:=_root_.id rfl
@[simp] theorem afu (k:Nat)(ls:List j5)(env:T j5):oU k ls env=ls[k]?.getD .undef:=Qf k ls
@[simp] theorem afv (v:j5)(ls:List j5)(env:T j5):Q6 v ls env=v:=_root_.id rfl
@[simp] theorem aew (g:T j5→j5)(ls:List j5)(env:T j5):dF g ls env=g env:=_root_.id rfl
@[simp] theorem aso (l r:T j5)(x:j5):gH (.nd l x r)=x:=_root_.id rfl
@[simp] theorem asq (g:T j5→j5)(l r:T j5)(x:j5):gL g (.nd l x r)=g l:=_root_.id rfl
@[simp] theorem asr (g:T j5→j5)(l r:T j5)(x:j5):gR g (.nd l x r)=g r:=_root_.id rfl
@[simp] theorem asu (v:j5)(l r:T j5)(x:j5):sH v (.nd l x r)=.nd l v r:=_root_.id rfl
@[simp] theorem asv (s:j5→T j5→T j5)(v:j5)(l r:T j5)(x:j5):sL s v (.nd l x r)=.nd (s v l) x r:=_root_.id rfl
@[simp] theorem asw (s:j5→T j5→T j5)(v:j5)(l r:T j5)(x:j5):sR s v (.nd l x r)=.nd l x (s v r):=_root_.id rfl
@[simp] theorem ar5 (v:j5)(t:T j5):sNo v t=t:=_root_.id rfl
@[simp] theorem afw (ls:List j5)(env:T j5):evs [] ls env=[]:=_root_.id rfl
@[simp] theorem aex (x:OF)(l:List OF)(ls:List j5)(env:T j5):evs (x::l) ls env=x ls env::evs l ls env:=_root_.id rfl
section
variable {β:Type}(ls:List j5)(env:T j5)(m:Mem)
@[simp] theorem afx (x:OF):fB x ls env=some (x ls env):=_root_.id rfl
@[simp] theorem aey (c a b:OF):fM c a b ls env=pK (c ls env) fun t=>some (bi t (a ls env) (b ls env)):=_root_.id rfl
@[simp] theorem aez (b:Bool)(k:Bool→Option β):pK (.bool b) k=k b:=_root_.id rfl
@[simp] theorem afy (k:IntKind)(n:Int)(f:IntKind→Int→Option β):BN (.int k n) f=f k n:=_root_.id rfl
@[simp] theorem Bd (s:List UInt8)(f:List UInt8→Option β):BI (.str s) f=f s:=_root_.id rfl
@[simp] theorem afz (i o:Nat)(f:Nat→Nat→Option β):sj (.ptr i o) f=f i o:=_root_.id rfl
@[simp] theorem afA (l:List j5)(f:List j5→Option β):El (.agg l) f=f l:=_root_.id rfl
@[simp] theorem afB (l:List j5)(f:List j5→Option β):PE (.tuple l) f=f l:=_root_.id rfl
@[simp] theorem afC (i:Nat)(z:Option β)(f:Nat→Option β):BO (.map i) z f=f i:=_root_.id rfl
@[simp] theorem aeA (z:Option β)(f:Nat→Option β):BO .nilMap z f=z:=_root_.id rfl
@[simp] theorem afD (z:Option β)(f g:Nat→Nat→Nat→Nat→Option β):vSl .nilSlice z f g=z:=_root_.id rfl
@[simp] theorem wS (a b c d:Nat)(z:Option β)(f g:Nat→Nat→Nat→Nat→Option β):vSl (.slice a b c d) z f g=f a b c d:=_root_.id rfl
@[simp] theorem tu (a b c d:Nat)(z:Option β)(f g:Nat→Nat→Nat→Nat→Option β):vSl (.sliceU a b c d) z f g=g a b c d:=_root_.id rfl
@[simp] theorem afE (fn:Fn)(a b:List j5)(f:Fn→List j5→List j5→Option β):PG (.func fn a b) f=f fn a b:=_root_.id rfl
@[simp] theorem oz (n:Nat)(k:Nat→Option β):PI (n:Int) k=k n:=_root_.id rfl
@[simp] theorem Yz (n:Nat)(k:Nat→Option β):PI (.ofNat n) k=k n:=_root_.id rfl
@[simp] theorem Zq (k:Nat→Option β):PI 0 k=k 0:=_root_.id rfl
@[simp] theorem aeB (k:Nat→Option β):PI 1 k=k 1:=_root_.id rfl
@[simp] theorem tC (k:IntKind)(n:Int)(f:Nat→Option β):oQ (.int k n) f=PI n f:=_root_.id rfl
@[simp] theorem Bf (k:IntKind):kEq k k=true:=by cases k<;>rfl
@[simp] theorem ar6 (f:IB)(g:SB)(x y:OF):pIb f g x y ls env=Jo f g (x ls env) (y ls env):=_root_.id rfl
@[simp] theorem aeC (f:IB)(g:SB)(k:IntKind)(a b:Int):Jo f g (.int k a) (.int k b)=f k a b:=by
 show bi (kEq k k) (f k a b) none=_
 rw [Bf];rfl
@[simp] theorem aeD (f:IB)(g:SB)(a b:List UInt8):Jo f g (.str a) (.str b)=g a b:=_root_.id rfl
@[simp] theorem afF (x y:OF):afj x y ls env=aeb (x ls env) (y ls env):=_root_.id rfl
@[simp] theorem afG (x y:OF):Yn x y ls env=aec (x ls env) (y ls env):=_root_.id rfl
@[simp] theorem afH (a b:Int):jc .i64 a b=some (.int .i64 (w64 (a+b))):=_root_.id rfl
@[simp] theorem afI (a b:Int):BJ .i64 a b=some (.int .i64 (w64 (a-b))):=_root_.id rfl
@[simp] theorem afJ (a b:Int):Ym .i64 a b=some (.int .i64 (w64 (a*b))):=_root_.id rfl
@[simp] theorem ar7 (k:IntKind)(a b:Int):iEq k a b=some (.bool (decide (a=b))):=by
 show some (j5.bool (xK a b))=_
 rw [lD,show (a==b)=decide (a=b) from rfl]
@[simp] theorem ar8 (k:IntKind)(a b:Int):iNe k a b=some (.bool (!decide (a=b))):=by
 show some (j5.bool (!xK a b))=_
 rw [lD,show (a==b)=decide (a=b) from rfl]
@[simp] theorem ar9 (k:IntKind)(a b:Int):iLt k a b=some (.bool (decide (a<b))):=by rw [← fU];rfl
@[simp] theorem ara (k:IntKind)(a b:Int):iLe k a b=some (.bool (decide (a≤b))):=by
 show some (j5.bool (!oK b a))=_
 rw [fU,show (!decide (b<a))=decide (a≤b) from by rw [avV];simp]
@[simp] theorem arb (k:IntKind)(a b:Int):iGt k a b=some (.bool (decide (b<a))):=by rw [← fU];rfl
@[simp] theorem ard (k:IntKind)(a b:Int):iGe k a b=some (.bool (decide (b≤a))):=by
 show some (j5.bool (!oK a b))=_
 rw [fU,show (!decide (a<b))=decide (b≤a) from by rw [avV];simp]
theorem aN {n:Int}(h:-9223372036854775808≤n)(h':n<9223372036854775808):w64 n=n:=by
 cases n with
 | ofNat m=>
  show bi (Nat.blt m 9223372036854775808) _ _=_
  rw [show Nat.blt m 9223372036854775808=true from avM.mpr (by simp at h';omega)];rfl
 | negSucc m=>
  show bi (Nat.blt m 9223372036854775808) _ _=_
  rw [show Nat.blt m 9223372036854775808=true from avM.mpr (by omega)];rfl
@[simp] theorem arf (f:EqF)(x y:OF):pEq f x y ls env=ob (f (x ls env) (y ls env)) fun b=>some (.bool b):=_root_.id rfl
@[simp] theorem arh (f:EqF)(x y:OF):pNe f x y ls env=ob (f (x ls env) (y ls env)) fun b=>some (.bool (!b)):=_root_.id rfl
@[simp] theorem afK (x:OF):JC x ls env=pK (x ls env) fun b=>some (.bool (!b)):=_root_.id rfl
@[simp] theorem afL (x:OF):Yo x ls env=BN (x ls env) fun k n=>some (.int k (jL k (0-n))):=_root_.id rfl
@[simp] theorem aeE (k:IntKind)(x:OF):uU k x ls env=BN (x ls env) fun _ n=>some (.int k (jL k n)):=_root_.id rfl
@[simp] theorem Zr (t:TypeId)(x:OF):zk t x ls env=some (.iface t (x ls env)):=_root_.id rfl
@[simp] theorem aeF (fn:Fn)(a b:List OF):Em fn a b ls env=some (.func fn (evs a ls env) (evs b ls env)):=_root_.id rfl
@[simp] theorem Qn (x:OF):fO x ls env=zi (x ls env):=_root_.id rfl
@[simp] theorem YA (i o:Nat):zi (.ptr i o)=some (.ptr i o):=_root_.id rfl
@[simp] theorem SN (f:FuncId)(a b:List j5):zi (.func (.func f) a b)=some (.func (.func f) a b):=_root_.id rfl
@[simp] theorem Zt (o:Nat)(x:OF):I7 o x ls env=sj (x ls env) fun id off=>some (.ptr id (off+o)):=_root_.id rfl
@[simp] theorem aeG (off:Nat)(x:OF):JD off x ls env=El (x ls env) fun cs=>cs[off]?:=by
 show El (x ls env) (fun cs=>Ae off cs)=_
 simp
@[simp] theorem aeH (off k:Nat)(x:OF):RB off k x ls env=El (x ls env) fun cs=>ob (takeN k (cs.drop off)) fun l=>some (.agg l):=by
 show El (x ls env) (fun cs=>ob (takeN k (jk off cs)) fun l=>some (j5.agg l))=_
 simp
@[simp] theorem YB {α:Type}(l:List α):takeN 0 l=some []:=_root_.id rfl
@[simp] theorem YC {α:Type}(n:Nat)(x:α)(l:List α):takeN (n+1) (x::l)=ob (takeN n l) fun r=>some (x::r):=_root_.id rfl
@[simp] theorem afM (x:OF)(i:Nat):pExt x i ls env=PE (x ls env) fun l=>l[i]?:=by
 show PE (x ls env) (fun l=>Ae i l)=_
 simp
@[simp] theorem afN (x:OF):Af x ls env=vSl (x ls env) (some (.int .i64 0)) (fun _ _ n _=>some (.int .i64 n)) (fun _ _ n _=>some (.int .i64 n)):=_root_.id rfl
@[simp] theorem aeI (x:OF):Ag x ls env=BI (x ls env) fun s=>some (.int .i64 s.length):=by
 show BI (x ls env) (fun s=>some (j5.int .i64 (.ofNat (len' s))))=_
 simp
@[simp] theorem afO (x:OF):YW x ls env=vSl (x ls env) (some (.int .i64 0)) (fun _ _ _ c=>some (.int .i64 c)) (fun _ _ _ _=>none):=_root_.id rfl
theorem tF (len i:Nat)(k:Nat→Option β)(h:i<len):idx len (.int .i64 i) k=k i:=by
 show bi (Nat.blt i len) (k i) none=_
 rw [show Nat.blt i len=true from avM.mpr h];rfl
@[simp] theorem eF (es:Nat)(x i:OF):J9 es x i ls env=vSl (x ls env) none (fun id off len _=>idx len (i ls env) fun k=>some (.ptr id (off+k*es)))
  (fun id off len _=>idx len (i ls env) fun k=>some (.ptr id (off+k*es))):=rfl
@[simp] theorem Qo (es n:Nat)(x i:OF):mP es n x i ls env=sj (x ls env) fun id off=>idx n (i ls env) fun k=>some (.ptr id (off+k*es)):=_root_.id rfl
@[simp] theorem afP (cs:List j5):lay [] ls env cs=some cs:=_root_.id rfl
theorem Oq (p:Nat×Nat×OF)(l:List (Nat×Nat×OF))(cs:List j5):lay (p::l) ls env cs =
  bi (Nat.beq (len' (p.2.2 ls env).cells) p.2.1) (bi (Nat.ble (Nat.add p.1 p.2.1) (len' cs)) (lay l ls env (mM p.1 (p.2.2 ls env).cells cs)) none) none:=rfl
@[simp] theorem Zu (z:List j5)(ps:List (Nat×Nat×OF)):P6 z ps ls env=ob (lay ps ls env z) fun l=>some (.agg l):=_root_.id rfl
def ld1 (b:Option Blk)(off:Nat):Option j5:=aO b fun rs n rows=>cell1 rs n rows off
def ldN (b:Option Blk)(off k:Nat):Option j5:=aO b fun rs n rows=>ob (mO rs n rows off k) fun l=>some (.agg l)
def stB (b:Option Blk)(off:Nat)(vs:List j5):Option Blk:=aO b fun rs n rows=>ob (aX rs n rows off vs) fun rows'=>some (.cells rs n rows')
@[simp] theorem Zv (a:OF):uf a ls env m=sj (a ls env) fun id off=>ld1 (m.get id) off:=_root_.id rfl
@[simp] theorem Zw (k:Nat)(a:OF):aL k a ls env m=sj (a ls env) fun id off=>ldN (m.get id) off k:=_root_.id rfl
@[simp] theorem dL (rs n:Nat)(rows:T (List j5))(k:Nat→Nat→T (List j5)→Option β):aO (some (.cells rs n rows)) k=k rs n rows:=_root_.id rfl
@[simp] theorem ari (es:List (j5×j5))(k:List (j5×j5)→Option β):vEs (some (.map es)) k=k es:=_root_.id rfl
theorem iM {rs n:Nat}{rows:T (List j5)}{i j:Nat}{row:List j5}(hj:j<rs)(hi:i<n)(h:rows.get i=some row):cell1 rs n rows (i*rs+j)=row[j]?:=by
 unfold cell1
 have h1:Nat.div (i*rs+j) rs=i:=by show (i*rs+j) / rs=i;rw [awx,Nat.mul_add_div (by omega),axZ hj];rfl
 have h2:Nat.mod (i*rs+j) rs=j:=by show (i*rs+j)%rs=j;rw [awx,ax6,awz hj]
 rw [h1,h2,h,show Nat.blt i n=true from avM.mpr hi]
 exact jv _ _
theorem tH {rs n:Nat}{rows:T (List j5)}{i j k:Nat}{row:List j5}(hj:j<rs)(hi:i<n)(h:rows.get i=some row)(hl:row.length=rs)(hk:j+k≤rs):
  mO rs n rows (i*rs+j) k=some ((row.drop j).take k):=by
 unfold mO
 have h1:Nat.div (i*rs+j) rs=i:=by show (i*rs+j) / rs=i;rw [awx,Nat.mul_add_div (by omega),axZ hj];rfl
 have h2:Nat.mod (i*rs+j) rs=j:=by show (i*rs+j)%rs=j;rw [awx,ax6,awz hj]
 rw [h1,h2,h,show Nat.blt i n=true from avM.mpr hi]
 simp only [aJ,O0,eO]
 cases hz:Nat.beq j 0 with
 | false=>simp only [aY];exact dQ _ _ (by simp;omega)
 | true=>
  have hz:=avt hz
  subst hz
  simp only [aJ]
  cases hk':Nat.beq k rs with
  | true=>have hk':=avt hk';subst hk';simp [hl.symm]
  | false=>simp only [aY,awh];exact dQ _ _ (by omega)
end
theorem div_lt {a b:Nat}(h:a<b):Nat.div a b=0:=axZ h
theorem mod_lt {a b:Nat}(h:a<b):Nat.mod a b=a:=awz h
@[simp] theorem jX (cs:List j5)(off:Nat):ld1 (some (A9 cs)) off=cs[off]?:=by
 show cell1 (len' cs) 1 (.nd .e cs .e) off=_
 rw [Q5]
 unfold cell1
 by_cases h:off<cs.length
 ·rw [div_lt h,mod_lt h]
  exact jv _ _
 ·rw [show cs[off]?=none from by simp;omega]
  by_cases h0:cs.length=0
  ·rw [h0,show Nat.div off 0=0 from Nat.div_zero off,show Nat.mod off 0=off from Nat.mod_zero off]
   show Ae off cs=none
   rw [jv];simp;omega
  ·have:1≤Nat.div off cs.length:=(axL (by omega)).2 (by omega)
   rw [show Nat.blt (Nat.div off cs.length) 1=false from by
    cases hb:Nat.blt (Nat.div off cs.length) 1 with
    | false=>rfl
    | true=>have:=avM.mp hb;omega]
theorem o7 {cs:List j5}{off k:Nat}(h:off+k≤cs.length)(h0:off<cs.length):ldN (some (A9 cs)) off k=some (.agg ((cs.drop off).take k)):=by
 show ob (mO (len' cs) 1 (.nd .e cs .e) off k) (fun l=>some (j5.agg l))=_
 have:=tH (rs:=cs.length) (n:=1) (rows:=.nd .e cs .e) (i:=0) (j:=off) (k:=k) (row:=cs) h0 (by omega) rfl rfl h
 rw [awF,avS] at this
 rw [Q5,this];rfl
theorem o8 {cs vs:List j5}{off:Nat}(h:off+vs.length≤cs.length)(h0:off<cs.length):stB (some (A9 cs)) off vs=some (A9 (cs.take off++(vs++cs.drop (off+vs.length)))):=by
 show ob (aX (len' cs) 1 (.nd .e cs .e) off vs) (fun rows'=>some (Blk.cells (len' cs) 1 rows'))=_
 have h1:Nat.ble (Nat.add off vs.length) cs.length=true:=avB h
 have h2:aX cs.length 1 (.nd .e cs .e) off vs=some (T.nd .e (mM off vs cs) .e):=by
  unfold aX
  rw [div_lt h0,mod_lt h0,Q5]
  show bi (Nat.ble (Nat.add off vs.length) cs.length) (some (T.nd .e (mM off vs cs) .e)) none=_
  rw [h1];rfl
 rw [Q5,h2,jR off vs cs (by omega)]
 show some (Blk.cells cs.length 1 _)=some (Blk.cells (len' _) 1 _)
 rw [Q5]
 congr 2
 simp
 omega
def Mem.Ok (m:Mem):Prop:=T.Ok m.t m.next
theorem Mem.Ok.new {m:Mem}(h:m.Ok)(b:Blk):(m.new b).Ok:=T.Ok.push h b
theorem Mem.Ok.set {m:Mem}(h:m.Ok){i:Nat}(hi:i<m.next)(b:Blk):(m.set i b).Ok:=T.Ok.put h i b hi
theorem bf {m:Mem}(h:m.Ok)(b:Blk){i j:Nat}(hj:j<m.next)(hi:i=j):(m.set j b).get i=some b:=by rw [Mem.ay h hj,if_pos hi]
theorem dV {m:Mem}(h:m.Ok)(b:Blk){i j:Nat}(hj:j<m.next)(hi:i≠j):(m.set j b).get i=m.get i:=by rw [Mem.ay h hj,if_neg hi]
theorem aW {β:Type}{m:Mem}{id off:Nat}{vs:List j5}{k:Mem→Option β}(hl:m.lim≤id)(h1:O7 vs=true):storeAt m id off vs k=ob (stB (m.get id) off vs) fun b=>k (m.set id b):=by
 unfold storeAt
 rw [show Nat.blt id m.lim=false from by
  cases hb:Nat.blt id m.lim with
  | false=>rfl
  | true=>have:=avM.mp hb;omega,h1]
 simp only [aY,aJ]
 unfold stB
 match m.get id with
 | some (.cells rs n rows)=>
  show ob (aX rs n rows off vs) _=ob (ob (aX rs n rows off vs) _) _
  cases aX rs n rows off vs<;>rfl
 | some .void | some .dead | some (.map _) | some (.iter ..) | some (.tail _) | some (.loop ..) | some .deferred | none=>rfl
theorem KQ (sz:Nat)(a x:OF)(cf:K8)(ls:List j5)(env:T j5)(m:Mem):O5 sz a x cf ls env m=sj (a ls env) fun id off=>
  bi (Nat.beq (x ls env).cells.length sz) (storeAt m id off (x ls env).cells fun m'=>some [⟨.undef,m'⟩]) none:=by
 show sj (a ls env) (fun id off=>bi (Nat.beq (len' (x ls env).cells) sz) (storeAt m id off (x ls env).cells fun m'=>one .undef m') none)=_
 simp only [Q5];rfl
@[simp] theorem YD:O7 []=true:=_root_.id rfl
@[simp] theorem SQ (v:j5)(l:List j5):O7 (v::l)=bi (J5 v) (O7 l) false:=_root_.id rfl
section
variable (cf:K8)(ls:List j5)(env:T j5)(m:Mem)(d:j5→T j5→T j5)(k:RC)
@[simp] theorem aeJ:D7 cf ls env m=some [⟨env,m,none,[]⟩]:=_root_.id rfl
@[simp] theorem arj (f:PF):rcP f d k cf ls env m=ob (f ls env) fun v=>k cf (v::ls) (d v env) m:=_root_.id rfl
@[simp] theorem afQ (f:PF):r9 f k cf ls env m=ob (f ls env) fun v=>k cf (v::ls) env m:=_root_.id rfl
@[simp] theorem ark (f:RF):rcR f d k cf ls env m=ob (f ls env m) fun v=>k cf (v::ls) (d v env) m:=_root_.id rfl
@[simp] theorem afR (f:RF):H9 f k cf ls env m=ob (f ls env m) fun v=>k cf (v::ls) env m:=_root_.id rfl
@[simp] theorem Zx:Nk m none=m:=_root_.id rfl
@[simp] theorem Zy (b:Blk):Nk m (some b)=m.new b:=_root_.id rfl
@[simp] theorem arl (f:LF):rcL f d k cf ls env m=ob (f ls env m.next) fun r=>k cf (r.1::ls) (d r.1 env) (Nk m r.2):=_root_.id rfl
@[simp] theorem afS (f:LF):dZ f k cf ls env m=ob (f ls env m.next) fun r=>k cf (r.1::ls) env (Nk m r.2):=_root_.id rfl
@[simp] theorem arn (f:EF):rcE f d k cf ls env m=bnd (f cf ls env m) fun r=>kK r.v (fun x=>some [⟨env,r.m,some x,[]⟩]) (k cf (r.v::ls) (d r.v env) r.m):=_root_.id rfl
@[simp] theorem afT (f:EF):I8 f k cf ls env m=bnd (f cf ls env m) fun r=>kK r.v (fun x=>some [⟨env,r.m,some x,[]⟩]) (k cf (r.v::ls) env r.m):=_root_.id rfl
@[simp] theorem Zz (z:List j5)(i:Nat):iI z ls env i=some (.ptr i 0,some (A9 z)):=_root_.id rfl
@[simp] theorem afU (x:OF)(i:Nat):RD x ls env i=some (.ptr i 0,some (A9 (x ls env).cells)):=_root_.id rfl
@[simp] theorem ZA (i:Nat):BR ls env i=some (.map i,some (.map [])):=_root_.id rfl
@[simp] theorem ZB (l:List j5):(j5.agg l).cells=l:=_root_.id rfl
@[simp] theorem ZC (k:IntKind)(n:Int):(j5.int k n).cells=[.int k n]:=_root_.id rfl
@[simp] theorem YE (b:Bool):(j5.bool b).cells=[.bool b]:=_root_.id rfl
@[simp] theorem ZE (s:List UInt8):(j5.str s).cells=[.str s]:=_root_.id rfl
@[simp] theorem ZF (i o:Nat):(j5.ptr i o).cells=[.ptr i o]:=_root_.id rfl
@[simp] theorem ZG (i:Nat):(j5.map i).cells=[.map i]:=_root_.id rfl
@[simp] theorem cells_func (f:Fn)(a b:List j5):(j5.func f a b).cells=[.func f a b]:=_root_.id rfl
@[simp] theorem SS (a b c d:Nat):(j5.slice a b c d).cells=[.slice a b c d]:=_root_.id rfl
@[simp] theorem Qp (a b c d:Nat):(j5.sliceU a b c d).cells=[.sliceU a b c d]:=_root_.id rfl
@[simp] theorem Np:j5.nilSlice.cells=[.nilSlice]:=_root_.id rfl
@[simp] theorem aeK (f:FuncId)(as:List OF):G8 f as cf ls env m=cf (.func f) (evs as ls env) m:=_root_.id rfl
@[simp] theorem ZH (f:OF)(as:List OF):kN f as cf ls env m=RI cf m (evs as ls env) (f ls env):=_root_.id rfl
@[simp] theorem YF (as:List j5)(f:FuncId)(a b:List j5):RI cf m as (.func (.func f) a b)=cf (.func f) (a++(as++b)) m:=by
 show cf (.func f) (jl a (jl as b)) m=_
 simp
end
@[simp] theorem aeL (b:Bool):isB true (.bool b)=b:=by cases b<;>rfl
@[simp] theorem ZI (b:Bool):isB false (.bool b)=!b:=by cases b<;>rfl
section
variable (w:Bool)(x:OF)(ls:List j5)(env:T j5)(m:Mem)
@[simp] theorem asx (f:PF):gP x w f ls env=bi (isB w (x ls env)) (f ls env) (some .undef):=_root_.id rfl
@[simp] theorem aro (f:RF):gRd x w f ls env m=bi (isB w (x ls env)) (f ls env m) (some .undef):=_root_.id rfl
@[simp] theorem arp (f:LF)(i:Nat):gLk x w f ls env i=bi (isB w (x ls env)) (f ls env i) (some (.undef,none)):=_root_.id rfl
@[simp] theorem asy (f:EF)(cf:K8):gE x w f cf ls env m=bi (isB w (x ls env)) (f cf ls env m) (some [⟨.undef,m⟩]):=_root_.id rfl
end
@[simp] theorem T.aeM {α:Type}(x:α)(t:T α)(i:Nat):T.rep x 0 t i=t:=_root_.id rfl
attribute [simp] T.Aj T.aC T.dw
section
variable (cf:K8)(fu:Nat)(ir:Option Nat)(env:T j5)(m:Mem)(k:List Mk)
@[simp] theorem afV (x:bB):xL x env m k=some [⟨x,env,m,k,none⟩]:=_root_.id rfl
@[simp] theorem ZJ:H7 cf fu ir env m k=some [⟨.normal,env,m,k,none⟩]:=_root_.id rfl
@[simp] theorem aeN (r:RC):l9 r cf fu ir env m k=bnd (r cf [] env m) (kP k):=_root_.id rfl
@[simp] theorem ZK:kP k ⟨env,m,none,[]⟩=some [⟨.normal,env,m,k,none⟩]:=_root_.id rfl
@[simp] theorem ZL (n:Nat)(r:DC):O8 n r cf fu ir env m k=bnd (r cf m.next [] env (reserve n m) [reserve n m]) (kP k):=_root_.id rfl
def aeO (b:SC)(cf:K8)(fu:Nat)(ir:Option Nat)(o:Out):Option (List Out):=bB.rec (b cf fu ir o.env o.m o.marks) (fun _=>some [o]) (some [o]) o.x
@[simp] theorem aeP (a b:SC):d9 a b cf fu ir env m k=bnd (a cf fu ir env m k) (aeO b cf fu ir):=_root_.id rfl
@[simp] theorem SV (b:SC)(p:Option j5):aeO b cf fu ir ⟨.normal,env,m,k,p⟩=b cf fu ir env m k:=_root_.id rfl
@[simp] theorem ZM (b:SC)(i:Nat)(p:Option j5):aeO b cf fu ir ⟨.exit i,env,m,k,p⟩=some [⟨.exit i,env,m,k,p⟩]:=_root_.id rfl
@[simp] theorem aeQ (b:SC)(p:Option j5):aeO b cf fu ir ⟨.ret,env,m,k,p⟩=some [⟨.ret,env,m,k,p⟩]:=_root_.id rfl
@[simp] theorem ZN (c:OF)(a b:SC):G7 c a b cf fu ir env m k=pK (c [] env) fun t=>bi t (a cf fu ir env m k) (b cf fu ir env m k):=_root_.id rfl
def aeR (id:Nat)(o:Out):Option (List Out):=bB.rec (some [o]) (fun id'=>bi (Nat.beq id id') (xL .normal o.env o.m o.marks) (some [o])) (some [o]) o.x
@[simp] theorem YG (id:Nat)(a:SC):D9 id a cf fu ir env m k=bnd (a cf fu ir env m k) (aeR id):=_root_.id rfl
@[simp] theorem SX (id:Nat)(p:Option j5):aeR id ⟨.normal,env,m,k,p⟩=some [⟨.normal,env,m,k,p⟩]:=_root_.id rfl
@[simp] theorem aeS (id:Nat)(p:Option j5):aeR id ⟨.ret,env,m,k,p⟩=some [⟨.ret,env,m,k,p⟩]:=_root_.id rfl
@[simp] theorem ZO (id i:Nat)(p:Option j5):aeR id ⟨.exit i,env,m,k,p⟩=bi (Nat.beq id i) (some [⟨.normal,env,m,k,none⟩]) (some [⟨.exit i,env,m,k,p⟩]):=_root_.id rfl
@[simp] theorem ZP (a:SC):K9 a cf fu ir env m k=aj (fun env m k=>a cf fu ir env m k) fu env m k:=_root_.id rfl
def KR (f:T j5→Mem→List Mk→Option (List Out))(o:Out):Option (List Out):=bB.rec (f o.env o.m o.marks) (fun _=>some [o]) (some [o]) o.x
theorem G5 (body:T j5→Mem→List Mk→Option (List Out))(n:Nat):aj body (n+1) env m k=bnd (body env m k) (KR (aj body n)):=rfl
@[simp] theorem Qq (f:T j5→Mem→List Mk→Option (List Out))(p:Option j5):KR f ⟨.normal,env,m,k,p⟩=f env m k:=_root_.id rfl
@[simp] theorem YH (f:T j5→Mem→List Mk→Option (List Out))(i:Nat)(p:Option j5):KR f ⟨.exit i,env,m,k,p⟩=some [⟨.exit i,env,m,k,p⟩]:=_root_.id rfl
@[simp] theorem ZQ (f:T j5→Mem→List Mk→Option (List Out))(p:Option j5):KR f ⟨.ret,env,m,k,p⟩=some [⟨.ret,env,m,k,p⟩]:=_root_.id rfl
@[simp] theorem ZR (id:Nat):eB id cf fu ir env m k=some [⟨.exit id,env,m,k,none⟩]:=_root_.id rfl
@[simp] theorem aeT:I9 cf fu ir env m k=some [⟨.ret,env,m,k,none⟩]:=_root_.id rfl
end
section
variable (cf:K8)(b:Nat)(ls:List j5)(env:T j5)(m:Mem)(gs:List Mem)(d:j5→T j5→T j5)(k:DC)(c:Nat)
attribute [simp] Dc Df
@[simp] theorem aeU:bC cf b ls env m gs=some [⟨env,m,none,[]⟩]:=_root_.id rfl
@[simp] theorem arq (f:PF):dcP f d k cf b ls env m gs=ob (f ls env) fun v=>k cf b (v::ls) (d v env) m gs:=_root_.id rfl
@[simp] theorem ars (f:RF):dcR f c d k cf b ls env m gs=ob (f ls env (hd m gs)) fun v=>bi (stable f ls env v c (tl gs)) (k cf b (v::ls) (d v env) m gs) none:=_root_.id rfl
@[simp] theorem aru (f:LF):dcL f c d k cf b ls env m gs=ob (f ls env (b+c)) fun r=>bi (isVoid (m.get (b+c))) (bi (dI (b+c) gs) (k cf b (r.1::ls) (d r.1 env) (RN m (b+c) r.2) gs) none) none:=_root_.id rfl
@[simp] theorem arv (f:EF)(gh:GF):dcE f gh d k cf b ls env m gs=RL (f cf ls env m) fun r=>kK r.v (fun x=>bi (gh (.undef::ls) (d .undef env)) (some [⟨env,r.m,some x,[]⟩]) none) (k cf b (r.v::ls) (d r.v env) r.m (r.m::gs)):=_root_.id rfl
@[simp] theorem aeV:Zc ls env=true:=_root_.id rfl
@[simp] theorem arw:ghF ls env=false:=_root_.id rfl
@[simp] theorem arx (g:GF):ghD g ls env=g (.undef::ls) env:=_root_.id rfl
@[simp] theorem SY (g:Mem):hd m (g::gs)=g:=_root_.id rfl
@[simp] theorem afW (g:Mem):tl (g::gs)=gs:=_root_.id rfl
@[simp] theorem KS (i:Nat)(x:Blk):RN m i (some x)=m.set i x:=_root_.id rfl
@[simp] theorem Ta:isVoid (some .void)=true:=_root_.id rfl
@[simp] theorem Tc (i:Nat):dI i []=true:=_root_.id rfl
@[simp] theorem Qr (i:Nat)(g:Mem):dI i (g::gs)=bi (isVoid (g.get i)) (dI i gs) false:=_root_.id rfl
@[simp] theorem Td (f:RF)(v:j5):stable f ls env v 0 gs=true:=_root_.id rfl
@[simp] theorem Te (f:RF)(v:j5)(n:Nat)(g:Mem):stable f ls env v (n+1) (g::gs)=bi (Option.rec false (fun u=>dH 100 u v) (f ls env g)) (stable f ls env v n gs) false:=_root_.id rfl
end
@[simp] theorem Nq (env:T j5):bZ [] [] env=some env:=_root_.id rfl
@[simp] theorem KT (j:Option Nat)(js:List (Option Nat))(v:j5)(vs:List j5)(env:T j5):bZ (j::js) (v::vs) env=bZ js vs (trD j v env):=_root_.id rfl
@[simp] theorem ZT (dcf:jP)(rs:List vI)(env:T j5)(m:Mem):leave dcf rs ⟨.ret,env,m,[],none⟩=ob (results rs env m) fun l=>some [⟨result l,m⟩]:=_root_.id rfl
@[simp] theorem Qs (dcf:jP)(rs:List vI)(env:T j5)(m:Mem):leave dcf rs ⟨.normal,env,m,[],none⟩=ob (results rs env m) fun l=>some [⟨result l,m⟩]:=_root_.id rfl
@[simp] theorem Tf (env:T j5)(m:Mem):results [] env m=some []:=_root_.id rfl
@[simp] theorem results_tmp (j:Nat)(rs:List vI)(env:T j5)(m:Mem):results (.tmp j::rs) env m=ob (env.get j) fun v=>ob (results rs env m) fun l=>some (v::l):=_root_.id rfl
@[simp] theorem YI:result []=.tuple []:=_root_.id rfl
@[simp] theorem YJ (v:j5):result [v]=v:=_root_.id rfl
@[simp] theorem YK (v x:j5)(l:List j5):result (v::x::l)=.tuple (v::x::l):=_root_.id rfl
structure Ext (m m':Mem):Prop where
 ok:T.Ok m'.t m'.next
 next:m.next≤m'.next
 lim:m'.lim=m.lim
 old:∀i,i<m.next→m'.get i=m.get i
theorem Ext.refl {m:Mem}(h:T.Ok m.t m.next):Ext m m:=⟨h,D5 _,rfl,fun _ _=>rfl⟩
theorem Ext.trans {a b c:Mem}(h:Ext a b)(k:Ext b c):Ext a c:=
 ⟨k.ok,avz h.next k.next,k.lim.trans h.lim,fun i hi=>(k.old i (avu hi h.next)).trans (h.old i hi)⟩
theorem Ext.new {a m:Mem}(h:Ext a m)(b:Blk):Ext a (m.new b):=
 ⟨h.ok.push b,axS h.next,h.lim,fun i hi=>by rw [Mem.T9 h.ok,if_neg (by have:=h.next;omega)];exact h.old i hi⟩
theorem Ext.set {a m:Mem}(h:Ext a m){i:Nat}(hi:i<m.next)(hn:a.next≤i)(b:Blk):Ext a (m.set i b):=
 ⟨h.ok.put _ _ hi,h.next,h.lim,fun j hj=>by rw [Mem.ay h.ok hi,if_neg (by omega)];exact h.old j hj⟩
theorem Ext.get {a m:Mem}(h:Ext a m){i:Nat}{b:Blk}(ha:T.Ok a.t a.next)(hg:a.get i=some b):m.get i=some b:=
 (h.old i (Mem.M8 ha hg)).trans hg
def bW (m:Mem)(v:j5)(xs:List Int):Prop:=
 (v=.nilSlice∧xs=[])∨∃p:Nat×Nat,((∃c,v=.slice p.1 p.2 xs.length c)∨∃es,v=.sliceU p.1 p.2 xs.length es)∧p.1<m.next∧(xs=[]∨∃n rows,m.get p.1=some (.cells 1 n rows)∧p.2+xs.length≤n∧∀i (h:i<xs.length),rows.get (p.2+i)=some [.int .i64 xs[i]])
theorem bW.ext {m m':Mem}(h:Ext m m'){v:j5}{xs:List Int}(hv:bW m v xs):bW m' v xs:=by
 rcases hv with hv | ⟨id,h1,h2,h3⟩
 ·exact .inl hv
 ·refine .inr ⟨id,h1,avu h2 h.next,?_⟩
  rcases h3 with h3 | ⟨n,rows,h4,h5,h6⟩
  ·exact .inl h3
  ·exact .inr ⟨n,rows,(h.old id.1 h2).trans h4,h5,h6⟩
theorem KU {n i:Nat}{rows:T (List j5)}{v:j5}(h:i<n)(hr:rows.get i=some [v]):ld1 (some (.cells 1 n rows)) i=some v:=by
 have:=iM (rs:=1) (n:=n) (rows:=rows) (i:=i) (j:=0) (by omega) h hr
 rw [awt] at this
 exact this
theorem U6 {i:Nat}(h:i<4611686018427387904):w64 ((i:Int)+1)=((i+1:Nat):Int):=by rw [aN (by omega) (by omega)];rfl
theorem bW.at {m:Mem}{v:j5}{xs:List Int}(h:bW m v xs){i:Nat}(hi:i<xs.length):
  ∃q:Nat×Nat,vSl v none (fun id off len _=>idx len (.int .i64 i) fun k=>some (j5.ptr id (off+k))) (fun id off len _=>idx len (.int .i64 i) fun k=>some (j5.ptr id (off+k)))=some (.ptr q.1 q.2)∧q.1<m.next∧ld1 (m.get q.1) q.2=some (.int .i64 xs[i]):=by
 rcases h with⟨_,rfl⟩ | ⟨id,h1,h2,h3⟩
 ·simp at hi
 ·rcases h3 with rfl | ⟨n,rows,h4,h5,h6⟩
  ·simp at hi
  ·refine⟨(id.1,id.2+i),?_,h2,by rw [h4];exact KU (by omega) (h6 i hi)⟩
   rcases h1 with⟨c,rfl⟩ | ⟨c,rfl⟩
   ·simp only [wS]
    rw [tF _ _ _ hi]
   ·simp only [tu]
    rw [tF _ _ _ hi]
theorem bW.cells {m:Mem}{v:j5}{xs:List Int}(h:bW m v xs):v.cells=[v]:=by
 rcases h with⟨rfl,rfl⟩ | ⟨id,⟨c,rfl⟩ | ⟨c,rfl⟩,_⟩<;>rfl
theorem bW.pan {m:Mem}{v:j5}{xs:List Int}(h:bW m v xs){β:Type}(p:j5→β)(q:β):kK v p q=q:=by
 rcases h with⟨rfl,rfl⟩ | ⟨id,⟨c,rfl⟩ | ⟨c,rfl⟩,_⟩<;>rfl
theorem bW.J5 {m:Mem}{v:j5}{xs:List Int}(h:bW m v xs):Go.AM.J5 v=true:=by
 rcases h with⟨rfl,rfl⟩ | ⟨id,⟨c,rfl⟩ | ⟨c,rfl⟩,_⟩<;>rfl
theorem bW.len {m:Mem}{v:j5}{xs:List Int}(h:bW m v xs):vSl v (some (j5.int .i64 0)) (fun _ _ n _=>some (.int .i64 n)) (fun _ _ n _=>some (.int .i64 n))=some (.int .i64 xs.length):=by
 rcases h with⟨rfl,rfl⟩ | ⟨id,⟨c,rfl⟩ | ⟨c,rfl⟩,_⟩<;>rfl
theorem bW.lenOf {m:Mem}{v:j5}{xs:List Int}(h:bW m v xs):Go.AM.lenOf v=some xs.length:=by
 rcases h with⟨rfl,rfl⟩ | ⟨id,⟨c,rfl⟩ | ⟨c,rfl⟩,_⟩<;>rfl
def ints (xs:List Int):List j5:=xs.map (j5.int .i64)
theorem Bg {n off:Nat}{rows:T (List j5)}{xs:List Int}(h:∀i (h:i<xs.length),rows.get (off+i)=some [.int .i64 xs[i]])(hn:off+xs.length≤n):
  ∀(j i:Nat),i+j=xs.length→M5 1 n rows j (off+i)=some (ints (xs.drop i)):=by
 intro j
 induction j with
 | zero=>intro i hi;rw [avD (by omega)];rfl
 | succ j ih=>
  intro i hi
  have hl:i<xs.length:=by omega
  show ob (cell1 1 n rows (off+i)) (fun v=>ob (M5 1 n rows j (off+i+1)) fun l=>some (v::l))=_
  have e:cell1 1 n rows (off+i)=some (.int .i64 xs[i]):=by
   have:=iM (rs:=1) (n:=n) (rows:=rows) (i:=off+i) (j:=0) (by omega) (by omega) (h i hl)
   rwa [awt] at this
  rw [e,show off+i+1=off+(i+1) from by omega,ih (i+1) (by omega),avJ hl];rfl
theorem bW.read {m:Mem}{v:j5}{xs:List Int}(h:bW m v xs):ah m 1 xs.length v=some (ints xs):=by
 rcases h with⟨rfl,rfl⟩ | ⟨id,h1,h2,h3⟩
 ·rfl
 ·rcases h3 with rfl | ⟨n,rows,h4,h5,h6⟩
  ·rcases h1 with⟨c,rfl⟩ | ⟨c,rfl⟩<;>rfl
  ·have key:R4 m id.1 id.2 (Nat.mul xs.length 1)=some (ints xs):=by
    have e:Nat.mul xs.length 1=xs.length:=awt _
    rw [e]
    cases hx:xs.length with
    | zero=>rw [avW.1 hx];rfl
    | succ k=>
     show aO (m.get id.1) (fun rs k' rows=>M5 rs k' rows (k+1) id.2)=_
     have:=Bg h6 h5 (k+1) 0 (by omega)
     rw [h4,dL]
     exact this
   rcases h1 with⟨c,rfl⟩ | ⟨c,rfl⟩<;>exact key
theorem wT:∀(xs:List Int),rowsOf 1 xs.length (ints xs)=some (xs.map fun x=>[j5.int .i64 x])
 | []=>rfl
 | x::xs=>by
  show ob (takeN 1 (ints (x::xs))) (fun r=>ob (rowsOf 1 xs.length (jk 1 (ints (x::xs)))) fun rest=>some (r::rest))=_
  have e:jk 1 (ints (x::xs))=ints xs:=rfl
  rw [e,wT xs];rfl
theorem IL {m:Mem}(hm:T.Ok m.t m.next)(xs:List Int):∃m',grown m 1 xs.length (ints xs)=some [⟨.sliceU m.next 0 xs.length 1,m'⟩]∧Ext m m'∧bW m' (.sliceU m.next 0 xs.length 1) xs:=by
 refine⟨m.new (.cells 1 xs.length (T.ofList (xs.map fun x=>[j5.int .i64 x]))),?_,(Ext.refl hm).new _,.inr ⟨(m.next,0),.inr ⟨1,rfl⟩,by simp,.inr ⟨xs.length,_,by rw [Mem.T9 hm,if_pos rfl],by simp,fun i hi=>by rw [avS,T.aS];simp [hi]⟩⟩⟩
 show ob (rowsOf 1 xs.length (ints xs)) _=_
 rw [wT];rfl
namespace T
variable {α:Type}
theorem Tg {t:T α}{n:Nat}(h:Ok t n):∀i (x y:α),i≤n→(t.put i x).put i y=t.put i y:=by
 induction h with
 | e=>intro i x y hi;obtain rfl:i=0:=by omega
      rfl
 | @nd l r z n hl hr ihl ihr=>
  intro i x y hi
  cases i with
  | zero=>rfl
  | succ i=>
   rw [aC,aC]
   split
   ·rename_i h0;rw [aC,if_pos h0,ihl _ _ _ (by omega)]
   ·rename_i h0;rw [aC,if_neg h0,ihr _ _ _ (by omega)]
theorem put_comm {t:T α}{n:Nat}(h:Ok t n):∀i (x y:α),i<n→(t.put n x).put i y=(t.put i y).put n x:=by
 induction h with
 | e=>intro i x y hi;omega
 | @nd l r z n hl hr ihl ihr=>
  intro i x y hi
  cases i with
  | zero=>
   rw [aC,Gf,aC]
   split<;>rfl
  | succ i=>
   rw [aC (i:=n),aC (i:=i)]
   by_cases hn:n%2=0
   ·rw [if_pos hn,aC]
    by_cases h0:i%2=0
    ·rw [if_pos h0,if_pos h0,aC,if_pos hn]
     have e:(n+1) / 2=n / 2:=by omega
     rw [e] at hl ihl
     have:=ihl (i / 2) x y (by omega)
     rw [this]
    ·rw [if_neg h0,if_neg h0,aC,if_pos hn]
   ·rw [if_neg hn,aC]
    by_cases h0:i%2=0
    ·rw [if_pos h0,if_pos h0,aC,if_neg hn]
    ·rw [if_neg h0,if_neg h0,aC,if_neg hn]
     have:=ihr (i / 2) x y (by omega)
     rw [this]
end T
theorem wU {α:Type}{p:List α→Prop}(h0:p [])(hs:∀l b,p l→p (l ++ [b])):∀l,p l:=by
 intro l
 have:p l.reverse.reverse:=by
  generalize l.reverse=r
  induction r with
  | nil=>exact h0
  | cons x r ih=>rw [List.reverse_cons];exact hs _ _ ih
 rwa [List.reverse_reverse] at this
def ext (m:Mem)(l:List Blk):Mem:=l.foldl Mem.new m
theorem x9 (m:Mem)(b:Blk):m.new b=ext m [b]:=rfl
theorem z8 (m:Mem)(l l':List Blk):ext (ext m l) l'=ext m (l++l'):=by simp [ext]
theorem ext_nil (m:Mem):ext m []=m:=rfl
theorem eT (m:Mem)(l:List Blk)(b:Blk):ext m (l ++ [b])=(ext m l).new b:=by simp [ext]
@[simp] theorem Gz (m:Mem)(l:List Blk):(ext m l).next=m.next+l.length:=by
 induction l using wU with
 | h0=>rfl
 | hs l b ih=>rw [eT,Mem.Gg,ih];simp;omega
@[simp] theorem iR (m:Mem)(l:List Blk):(ext m l).lim=m.lim:=by
 induction l using wU with
 | h0=>rfl
 | hs l b ih=>rw [eT,Mem.RX,ih]
theorem J4 {m:Mem}(hm:m.Ok)(l:List Blk):(ext m l).Ok:=by
 induction l using wU with
 | h0=>exact hm
 | hs l b ih=>rw [eT];exact ih.new b
theorem ext_get {m:Mem}(hm:m.Ok)(l:List Blk)(i:Nat):(ext m l).get i=if i<m.next then m.get i else l[i-m.next]?:=by
 induction l using wU with
 | h0=>
  rw [ext_nil]
  split
  ·rfl
  ·cases h:m.get i with
   | none=>simp
   | some b=>have:=Mem.M8 hm h;omega
 | hs l b ih=>
  rw [eT,Mem.T9 (J4 hm l),ih,Gz]
  by_cases h1:i<m.next
  ·rw [if_neg (by omega),if_pos h1,if_pos h1]
  ·rw [if_neg h1,if_neg h1]
   by_cases h2:i=m.next+l.length
   ·rw [if_pos h2,awm (by omega),show i-m.next-l.length=0 from by omega];rfl
   ·rw [if_neg h2]
    by_cases h3:i-m.next<l.length
    ·rw [avY h3]
    ·rw [awM (by omega),awM (by simp;omega)]
theorem l8 {m:Mem}(hm:m.Ok)(l:List Blk)(c:Nat):(ext m l).get (m.next+c)=l[c]?:=by
 rw [ext_get hm,if_neg (by omega),show m.next+c-m.next=c from by omega]
theorem l5 {m:Mem}(hm:m.Ok)(l:List Blk):(ext m l).get m.next=l[0]?:=l8 hm l 0
theorem G6 {m:Mem}(hm:m.Ok)(l:List Blk){i:Nat}(h:i<m.next):(ext m l).get i=m.get i:=by rw [ext_get hm,if_pos h]
theorem D8 {m:Mem}(hm:m.Ok)(l:List Blk):Ext m (ext m l):=⟨J4 hm l,by simp,by simp,fun i hi=>G6 hm l hi⟩
theorem Mem.KV {m:Mem}(hm:m.Ok)(a b:Blk):(m.new a).set m.next b=m.new b:=by
 show (⟨(m.t.put m.next a).put m.next b,_,_⟩:Mem)=_
 rw [T.Tg hm _ _ _ (D5 _)];rfl
theorem Mem.Fq {m:Mem}(hm:m.Ok)(a b:Blk){i:Nat}(h:i<m.next):(m.new a).set i b=(m.set i b).new a:=by
 show (⟨(m.t.put m.next a).put i b,_,_⟩:Mem)=⟨(m.t.put i b).put m.next a,_,_⟩
 rw [T.put_comm hm _ _ _ h];rfl
theorem A8 {m:Mem}(hm:m.Ok)(l:List Blk)(c:Nat)(b:Blk)(h:c<l.length):(ext m l).set (m.next+c) b=ext m (l.set c b):=by
 induction l using wU with
 | h0=>simp at h
 | hs l a ih=>
  rw [eT]
  by_cases h1:c<l.length
  ·rw [Mem.Fq (J4 hm l) _ _ (by rw [Gz];omega),ih h1,List.set_append_left _ _ h1,eT]
  ·have:c=l.length:=by simp at h;omega
   subst this
   have e:m.next+l.length=(ext m l).next:=by simp
   rw [e,Mem.KV (J4 hm l),List.set_append_right _ _ (D5 _)]
   simp [eT]
theorem w9 {m:Mem}(hm:m.Ok)(l:List Blk)(b:Blk)(h:0<l.length):(ext m l).set m.next b=ext m (l.set 0 b):=A8 hm l 0 b h
end
end Go.AM
namespace Go.AM
open Go
theorem M9 {α:Type}(a b:Nat)(x y:α):bi (Nat.beq a b) x y=if a=b then x else y:=uy a b x y
theorem Dq {α:Type}(a b:Nat)(x y:α):bi (Nat.ble a b) x y=if a≤b then x else y:=by
 cases h:Nat.ble a b with
 | true=>rw [if_pos (avC h)];rfl
 | false=>rw [if_neg (fun hh=>by rw [avB hh] at h;cases h)];rfl
theorem KX {α:Type}(a b:Nat)(x y:α):bi (Nat.blt a b) x y=if a<b then x else y:=Dq (a+1) b x y
theorem C9 (ls:List j5)(env:T j5)(p:Nat×Nat×OF)(l:List (Nat×Nat×OF))(cs:List j5):lay (p::l) ls env cs =
  if (p.2.2 ls env).cells.length=p.2.1 then if p.1+p.2.1≤cs.length then lay l ls env (cs.take p.1++((p.2.2 ls env).cells++cs.drop (p.1+(p.2.2 ls env).cells.length))) else none else none:=by
 rw [Oq,M9,Q5,Q5]
 split
 ·rename_i h
  show bi (Nat.ble (p.1+p.2.1) cs.length) _ _=_
  rw [Dq]
  split
  ·rename_i h2
   rw [jR _ _ _ (by omega)]
  ·rfl
 ·rfl
theorem j6 (sz:Nat)(a x:OF)(cf:K8)(ls:List j5)(env:T j5)(m:Mem):O5 sz a x cf ls env m=sj (a ls env) fun id off=>
  if (x ls env).cells.length=sz then storeAt m id off (x ls env).cells fun m'=>some [⟨.undef,m'⟩] else none:=by
 rw [KQ];simp only [M9]
theorem rD {β:Type}{m:Mem}(hm:m.Ok)(hl:m.lim≤m.next)(l:List Blk)(c off:Nat)(vs:List j5)(k:Mem→Option β):
  storeAt (ext m l) (m.next+c) off vs k=bi (O7 vs) (ob (stB l[c]? off vs) fun b=>k (ext m (l.set c b))) none:=by
 cases h1:O7 vs with
 | false=>
  unfold storeAt
  rw [h1]
  cases Nat.blt (m.next+c) (ext m l).lim<;>rfl
 | true=>
  rw [aW (by rw [iR];omega) h1,l8 hm,aJ]
  by_cases hc:c<l.length
  ·congr 1
   funext b
   rw [A8 hm _ _ _ hc]
  ·rw [awM (by omega)];rfl
theorem kG {β:Type}{m:Mem}(hm:m.Ok)(hl:m.lim≤m.next)(l:List Blk)(off:Nat)(vs:List j5)(k:Mem→Option β):
  storeAt (ext m l) m.next off vs k=bi (O7 vs) (ob (stB l[0]? off vs) fun b=>k (ext m (l.set 0 b))) none:=rD hm hl l 0 off vs k
@[simp] theorem Qt (j:Nat)(k:Nat)(rs:List vI)(env:T j5)(m:Mem):results (.cell j (some k)::rs) env m=ob (ob (env.get j) fun p=>sj p fun id off=>ldN (m.get id) off k) fun v=>ob (results rs env m) fun l=>some (v::l):=id rfl
@[simp] theorem Ot (j:Nat)(rs:List vI)(env:T j5)(m:Mem):results (.cell j none::rs) env m=ob (ob (env.get j) fun p=>sj p fun id off=>ld1 (m.get id) off) fun v=>ob (results rs env m) fun l=>some (v::l):=id rfl
end Go.AM
namespace Go.AM
open Go
section
variable {α β:Type}
@[congr] theorem aeW {b b':Bool}{x x' y y':α}(hb:b=b')(h1:b'=true→x=x')(h2:b'=false→y=y'):bi b x y=bi b' x' y':=by
 subst hb
 cases b with
 | true=>exact h1 rfl
 | false=>exact h2 rfl
@[simp] theorem afX (b:Bool)(x:α):bi b x x=x:=by cases b<;>rfl
@[simp] theorem arz (b:Bool)(x y:α):bi (!b) x y=bi b y x:=by cases b<;>rfl
theorem o9 (b:Bool)(x y:α)(k:α→Option β):ob (bi b (some x) (some y)) k=k (bi b x y):=by cases b<;>rfl
theorem l6 (b:Bool)(x y:α)(k:α→Option (List β)):bnd (bi b (some [x]) (some [y])) k=k (bi b x y):=by cases b<;>rfl
theorem j3 (b:Bool)(x y:α)(k:α→Option β):RL (bi b (some [x]) (some [y])) k=k (bi b x y):=by cases b<;>rfl
end
@[simp] theorem Ti (b c:Bool):bi b (j5.bool c) (j5.bool false)=.bool (b&&c):=by cases b<;>rfl
@[simp] theorem YL (b c:Bool):bi b (j5.bool true) (j5.bool c)=.bool (b||c):=by cases b<;>rfl
theorem Tj (b:Bool)(v w:j5)(m:Mem):bi b (⟨v,m⟩:VM) ⟨w,m⟩=⟨bi b v w,m⟩:=by cases b<;>rfl
@[simp] theorem afY {β:Type}(b:Bool)(v w:j5)(p:j5→β)(q:β):kK (bi b v w) p q=bi b (kK v p q) (kK w p q):=by cases b<;>rfl
end Go.AM
namespace Go.AM
open Go
section
variable {α:Type}(a b c:Bool)(x y z:α)
@[simp] theorem afZ:bi b (bi b x y) z=bi b x z:=by cases b<;>rfl
@[simp] theorem aeX:bi b x (bi b y z)=bi b x z:=by cases b<;>rfl
@[simp] theorem ag0:bi (b&&c) (bi b x y) z=bi (b&&c) x z:=by cases b<;>cases c<;>rfl
@[simp] theorem ag1:bi (b&&c) (bi c x y) z=bi (b&&c) x z:=by cases b<;>cases c<;>rfl
@[simp] theorem arA:bi (b||c) x (bi b y z)=bi (b||c) x z:=by cases b<;>cases c<;>rfl
@[simp] theorem arB:bi (b||c) x (bi c y z)=bi (b||c) x z:=by cases b<;>cases c<;>rfl
end
end Go.AM
namespace Go.AM
open Go
@[simp] theorem asz (b:Bool)(f f':T j5)(m m':Mem)(p p':Option j5)(k k':List Mk):bi b (⟨f,m,p,k⟩:EM) ⟨f',m',p',k'⟩=⟨bi b f f',bi b m m',bi b p p',bi b k k'⟩:=by cases b<;>rfl
@[simp] theorem asA (b:Bool)(l l' r r':T j5)(x x':j5):bi b (T.nd l x r) (T.nd l' x' r')=.nd (bi b l l') (bi b x x') (bi b r r'):=by cases b<;>rfl
@[simp] theorem arC (b:Bool)(v w:j5)(m m':Mem):bi b (⟨v,m⟩:VM) ⟨w,m'⟩=⟨bi b v w,bi b m m'⟩:=by cases b<;>rfl
end Go.AM
namespace Go.AM
open Go
@[simp] theorem ZU (w:Bool):isB w .undef=false:=id rfl
theorem jY {i:Nat}(h0:0<i)(h:i<4611686018427387904):w64 ((i:Int)-1)=((i-1:Nat):Int):=by rw [aN (by omega) (by omega)];omega
def Q8 (p:Nat→Bool):Nat→Nat→Bool
 | 0,_=>true
 | j+1,i=>p i&&Q8 p j (i+1)
def okB (xs:List Int)(i:Nat):Bool:=(decide (1≤xs.getD i 0)&&decide (xs.getD i 0≤1099511627776))&&(decide (i=0)||decide (xs.getD (i-1) 0<xs.getD i 0))
theorem iy {xs:List Int}{i:Nat}(h:i<xs.length):xs.getD i 0=xs[i]:=by simp [List.getD,h]
end Go.AM
namespace Go.AM
open Go
@[simp] theorem ZV (ks:List PK)(a b:List j5):tZ ks (.agg a) (.agg b)=dG ks a b:=id rfl
@[simp] theorem ZW:dG [] [] []=some true:=id rfl
@[simp] theorem ZX (k:PK)(ks:List PK)(x y:j5)(a b:List j5):dG (k::ks) (x::a) (y::b)=ob (PN k x y) fun r=>bi r (dG ks a b) (some false):=id rfl
@[simp] theorem arD:PN .i=cO:=id rfl
@[simp] theorem aeY (k:IntKind)(a b:Int):cO (.int k a) (.int k b)=some (decide (a=b)):=by
 show bi (kEq k k) (some (xK a b)) none=_
 rw [Bf,lD,show (a==b)=decide (a=b) from rfl];rfl
@[simp] theorem Tk (b c:Bool):bi b (some c) (some false)=some (b&&c):=by cases b<;>rfl
theorem I6 (n:Nat)(k:IntKind)(i:Int):dH (n+1) (.int k i) (.int k i)=true:=by
 show bi (kEq k k) (xK i i) false=true
 rw [Bf,lD];simp
theorem gF {m:Mem}{v:j5}{xs:List Int}(h:bW m v xs)(n:Nat):dH (n+1) v v=true:=by
 rcases h with⟨rfl,rfl⟩ | ⟨id,⟨c,rfl⟩ | ⟨c,rfl⟩,_⟩
 ·rfl
 ·show bi (Nat.beq id.1 id.1) (bi (Nat.beq id.2 id.2) (bi (Nat.beq _ _) (Nat.beq _ _) false) false) false=true
  simp [M9]
 ·show bi (Nat.beq id.1 id.1) (bi (Nat.beq id.2 id.2) (bi (Nat.beq _ _) (Nat.beq _ _) false) false) false=true
  simp [M9]
theorem Dr (f:j5→j5→Bool)(x y:j5)(a b:List j5):Ah f (x::a) (y::b)=bi (f x y) (Ah f a b) false:=rfl
theorem GA (f:j5→j5→Bool):Ah f [] []=true:=rfl
theorem Dt (n:Nat)(a b:List j5):dH (n+1) (.agg a) (.agg b)=Ah (dH n) a b:=rfl
end Go.AM
namespace Go.AM
open Go
section
variable {α β:Type}
@[congr] theorem asB {o o':Option α}{k:α→Option β}(h:o=o'):ob o k=ob o' k:=by rw [h]
@[congr] theorem arE {o o':Option (List α)}{k:α→Option (List β)}(h:o=o'):bnd o k=bnd o' k:=by rw [h]
@[congr] theorem ag2 {o o':Option (List α)}{k:α→Option β}(h:o=o'):RL o k=RL o' k:=by rw [h]
@[congr] theorem ag3 {v v':j5}{p:j5→β}{q:β}(h:v=v'):kK v p q=kK v' p q:=by rw [h]
@[congr] theorem ag4 {v v':j5}{k:Nat→Nat→Option β}(h:v=v'):sj v k=sj v' k:=by rw [h]
@[congr] theorem ag5 {v v':j5}{k:IntKind→Int→Option β}(h:v=v'):BN v k=BN v' k:=by rw [h]
@[congr] theorem aeZ {v v':j5}{k:Bool→Option β}(h:v=v'):pK v k=pK v' k:=by rw [h]
@[congr] theorem ag6 {v v':j5}{k:List j5→Option β}(h:v=v'):El v k=El v' k:=by rw [h]
@[congr] theorem ag7 {v v':j5}{k:List j5→Option β}(h:v=v'):PE v k=PE v' k:=by rw [h]
@[congr] theorem ag8 {v v':j5}{k:List UInt8→Option β}(h:v=v'):BI v k=BI v' k:=by rw [h]
@[congr] theorem ag9 {v v':j5}{k:Nat→Option β}(h:v=v'):oQ v k=oQ v' k:=by rw [h]
end
end Go.AM
namespace Go.AM
open Go
section
variable {α β:Type}
@[simp high] theorem ZY (a:α)(k:α→Option β):ob (some a) k=k a:=id rfl
@[simp high] theorem aa0 (k:α→Option β):ob none k=none:=id rfl
@[simp high] theorem aa1 (x y:α):bi true x y=x:=id rfl
@[simp high] theorem YM (x y:α):bi false x y=y:=id rfl
@[simp high] theorem aga (i:Nat):(T.e:T α).get i=none:=id rfl
@[simp high] theorem YN (l:T α)(x:α)(r:T α):(T.nd l x r).get 0=some x:=id rfl
@[simp high] theorem agb (i:Nat)(x:α):(T.e:T α).put i x=.nd .e x .e:=id rfl
@[simp high] theorem YO (l:T α)(y:α)(r:T α)(x:α):(T.nd l y r).put 0 x=.nd l x r:=id rfl
@[simp high] theorem YP (x:α)(n:Nat)(t:T α)(i:Nat):T.rep x (n+1) t i=T.rep x n (t.put i x) (i+1):=id rfl
@[simp high] theorem Nr (m:Mem):reserve 0 m=m:=id rfl
@[simp high] theorem Ns (n:Nat)(m:Mem):reserve (n+1) m=reserve n (m.new .void):=id rfl
@[simp high] theorem YQ (m:Mem)(b:Blk):(m.new b).next=m.next+1:=id rfl
@[simp high] theorem aa2 (m:Mem)(b:Blk):(m.new b).lim=m.lim:=id rfl
@[simp high] theorem YR (m:Mem)(i:Nat)(b:Blk):(m.set i b).next=m.next:=id rfl
@[simp high] theorem aa3 (m:Mem)(i:Nat)(b:Blk):(m.set i b).lim=m.lim:=id rfl
end
end Go.AM
namespace Go.AM
open Go
@[simp] theorem Tm:dH 100 .undef .undef=true:=id rfl
end Go.AM
namespace Go.AM
open Go
theorem rE (k:IntKind)(a b:Nat)(h:b≠0):Jy k (a:Int) (b:Int)=some (.int k ((a%b:Nat):Int)):=by
 cases b with
 | zero=>exact absurd rfl h
 | succ b=>rfl
end Go.AM
namespace Go.AM
open Go
theorem Fu {β:Type}{es:Nat}{cells:List j5}(h:cells.length=es)(k:Blk→Option β):iO es 1 cells k=k (A9 cells):=by
 show ob (ob (takeN es cells) fun r=>ob (rowsOf es 0 (jk es cells)) fun rest=>some (r::rest)) (fun rows=>k (.cells es 1 (T.ofList rows)))=_
 rw [dQ _ _ (by omega),O0,eO,avD (by omega),avQ (by omega)]
 show k (.cells es 1 (.nd .e cells .e))=k (.cells (len' cells) 1 (.nd .e cells .e))
 rw [Q5,h]
theorem L9 (es:Nat)(zero:List j5)(ps:List (Nat×Nat×OF))(ls:List j5)(env:T j5)(nid:Nat)(hz:zero.length=es):J2 es 1 zero ps ls env nid=ob (lay ps ls env zero) fun cells=>if cells.length=es then some (.slice nid 0 1 1,some (A9 cells)) else none:=by
 show ob (lay ps ls env (jl zero [])) (fun cells=>iO es 1 cells fun b=>some (j5.slice nid 0 1 1,some b))=_
 rw [ak,awo]
 congr 1
 funext cells
 split
 ·rename_i h;rw [Fu h]
 ·rename_i h
  show ob (ob (takeN es cells) fun r=>ob (rowsOf es 0 (jk es cells)) fun rest=>some (r::rest)) _=none
  cases ht:takeN es cells with
  | none=>rfl
  | some r=>
   obtain⟨h1,h2⟩:=jd _ _ _ ht
   rw [O0,eO]
   cases hd:cells.drop es with
   | nil=>
    have:=List.drop_eq_nil_iff.1 hd
    omega
   | cons x xs=>rfl
@[simp] theorem af0 {β:Type}(len:Nat)(k:Nat→Option β):idx len (.int .i64 0) k=if 0<len then k 0 else none:=by
 show bi (Nat.blt 0 len) (k 0) none=_
 rw [KX]
noncomputable def msB (b:Option Blk)(f:EqF)(n:Nat)(k x:j5):Option Blk:=
 vEs b fun es=>ob (dn f n k es) fun r=>Option.rec (some (.map (es ++ [(k,x)]))) (fun p=>ob es[p.1]? fun e=>bi (Nat.beq e.1.cells.length n) (some (.map (jO es k x p.1))) none) r
theorem tJ (f:EqF)(n:Nat)(mp k x:OF)(cf:K8)(ls:List j5)(env:T j5)(m:Mem):jo f n mp k x cf ls env m=BO (mp ls env) none fun id=>bi (Nat.blt id m.lim) none (ob (msB (m.get id) f n (k ls env) (x ls env)) fun b=>some [⟨.undef,m.set id b⟩]):=by
 show BO (mp ls env) none (fun id=>bi (Nat.blt id m.lim) none _)=_
 congr 1
 funext id
 congr 1
 unfold msB
 match m.get id with
 | some (.map es)=>
  show ob (dn f n (k ls env) es) _=ob (ob (dn f n (k ls env) es) _) _
  cases dn f n (k ls env) es with
  | none=>rfl
  | some r=>
   cases r with
   | none=>simp [ak];rfl
   | some p=>
    simp only [O0]
    show ob (Ae p.1 es) _=ob (ob es[p.1]? _) _
    rw [jv]
    cases es[p.1]? with
    | none=>rfl
    | some e=>
     simp only [O0,Q5]
     cases Nat.beq e.1.cells.length n<;>rfl
 | some .void | some .dead | some (.cells ..) | some (.iter ..) | some (.tail _) | some (.loop ..) | some .deferred | none=>rfl
@[congr] theorem agc {β:Type}{v v':j5}{z:Option β}{k:Nat→Option β}(h:v=v'):BO v z k=BO v' z k:=by rw [h]
theorem KY {m:Mem}(hl:m.lim≤m.next)(l:List Blk)(c:Nat):Nat.blt (m.next+c) (ext m l).lim=false:=by
 rw [iR]
 cases h:Nat.blt (m.next+c) m.lim with
 | false=>rfl
 | true=>have:=avM.mp h;omega
theorem uP {m:Mem}(hl:m.lim≤m.next)(l:List Blk):Nat.blt m.next (ext m l).lim=false:=KY hl l 0
theorem Fv (es:List (j5×j5))(f:EqF)(n:Nat)(k x:j5):msB (some (.map es)) f n k x=ob (dn f n k es) fun r=>Option.rec (some (.map (es ++ [(k,x)]))) (fun p=>ob es[p.1]? fun e=>bi (Nat.beq e.1.cells.length n) (some (.map (jO es k x p.1))) none) r:=rfl
theorem nL (f:EqF)(n:Nat)(k:j5):dn f n k []=bi (Nat.beq (len' k.cells) n) (ob (f k k) fun _=>some none) none:=rfl
theorem K5 (f:EqF)(n:Nat)(k:j5)(e:j5×j5)(es:List (j5×j5)):dn f n k (e::es)=bi (Nat.beq (len' k.cells) n) (findKey f k (e::es) 0) none:=rfl
@[simp] theorem YS (f:OF)(params:List (Option Nat))(assign body:bF)(cf:K8)(fu:Nat)(env:T j5)(m:Mem)(k:List Mk):En f params assign body cf fu none env m k=RQ cf (f [] env) params assign body env (m.new .deferred) (.c m.next::k):=id rfl
@[simp] theorem aa4 (cf:K8)(f:FuncId)(a b:List j5)(params:List (Option Nat))(assign body:bF)(env:T j5)(m:Mem)(k:List Mk):RQ cf (.func (.func f) a b) params assign body env m k =
  bnd (cf (.func f) (a++(.func (.yield m.next) [] []::b)) (m.new (.loop .ready none env params assign body))) fun r=>kK r.v (fun _=>none) <|
   qC (r.m.get m.next) fun st pend _ _ _ _=>match st with
    | .busy=>none
    | _=>match pend with
     | none=>xL .normal env (r.m.set m.next .dead) k
     | some x=>xL x env (r.m.set m.next .dead) k:=by
 show bnd (cf (.func f) (jl a (jl [.func (.yield m.next) [] []] b)) _) _=_
 rw [ak,ak];rfl
@[simp] theorem af2 {β:Type}(st:LoopState)(pend:Option bB)(env:T j5)(ps:List (Option Nat))(as bd:bF)(f:LoopState→Option bB→T j5→List (Option Nat)→bF→bF→Option β):qC (some (.loop st pend env ps as bd)) f=f st pend env ps as bd:=id rfl
theorem Tn (dcf:jP)(rs:List vI)(env:T j5)(m:Mem)(id:Nat)(h:m.get id=some .deferred):leave dcf rs ⟨.ret,env,m,[.c id],none⟩=ob (results rs env (m.set id .dead)) fun l=>some [⟨result l,m.set id .dead⟩]:=by
 show Zd (m.get id) _=_
 rw [h];rfl
end Go.AM
namespace Go.AM
open Go
theorem tK {β:Type}{m:Mem}{id:Nat}(hl:m.lim≤id)(off:Nat)(vs:List j5)(k:Mem→Option β):storeAt m id off vs k=bi (O7 vs) (ob (stB (m.get id) off vs) fun b=>k (m.set id b)) none:=by
 cases h1:O7 vs with
 | true=>rw [aW hl h1];rfl
 | false=>
  unfold storeAt
  rw [h1]
  cases Nat.blt id m.lim<;>rfl
def GD (P:Program):List Field→Nat→Nat→Bool
 | [],o,n=>Nat.beq o n
 | f::fs,o,n=>Nat.beq f.offset o&&GD P fs (o+P.cellsOf f.type) n
def wV (P:Program):Nat→TypeId→Bool
 | 0,_=>false
 | n+1,t=>match P.underlying t with
  | some .bool=>true
  | some (.int _)=>true
  | some .string=>true
  | some (.slice e)=>wV P n e&&Nat.blt 0 (P.cellsOf e)
  | some (.struct fs)=>fs.toList.all (fun f=>wV P n f.type)&&GD P fs.toList 0 (P.cellsOf t)
  | _=>false
def IQ (S:TypeId→List j5→Prop):List Field→List j5→Prop
 | [],vs=>vs=[]
 | f::fs,vs=>∃a b,vs=a++b∧S f.type a∧IQ S fs b
def shp (P:Program)(m:Mem):Nat→TypeId→List j5→Prop
 | 0,_,_=>False
 | n+1,t,vs=>match P.underlying t with
  | some .bool=>∃b,vs=[.bool b]
  | some (.int k)=>∃i,vs=[.int k i]∧(Lit.int k i).wf=true
  | some .string=>∃s:List UInt8,vs=[.str s]∧s.length≤maxLen
  | some (.slice e)=>vs=[.nilSlice]∨∃id len cap,vs=[.slice id 0 len cap]∧len≤cap∧cap≤maxLen∧
    ((cap=0∧m.get id=some .dead)∨∃rows,0<cap∧m.get id=some (.cells (P.cellsOf e) cap rows)∧∀i,i<cap→∃row,rows.get i=some row∧row.length=P.cellsOf e∧shp P m n e row)
  | some (.struct fs)=>IQ (shp P m n) fs.toList vs
  | _=>False
theorem zQ {S S':TypeId→List j5→Prop}(h:∀t vs,S t vs→S' t vs):∀fs vs,IQ S fs vs→IQ S' fs vs
 | [],_,hv=>hv
 | _::fs,_,⟨a,b,e,h1,h2⟩=>⟨a,b,e,h _ _ h1,zQ h fs b h2⟩
theorem rF {P:Program}{m m':Mem}(h:∀i b,m.get i=some b→m'.get i=some b):∀n t vs,shp P m n t vs→shp P m' n t vs:=by
 intro n
 induction n with
 | zero=>intro t vs hv;exact hv
 | succ n ih=>
  intro t vs hv
  unfold shp at hv ⊢
  split at hv
  ·exact hv
  ·exact hv
  ·exact hv
  ·rcases hv with hv | ⟨id,len,cap,h1,h2,h3,h4⟩
   ·exact .inl hv
   ·refine .inr ⟨id,len,cap,h1,h2,h3,?_⟩
    rcases h4 with⟨h4,h5⟩ | ⟨rows,h4,h5,h6⟩
    ·exact .inl ⟨h4,h _ _ h5⟩
    ·exact .inr ⟨rows,h4,h _ _ h5,fun i hi=>by
      obtain⟨row,g1,g2,g3⟩:=h6 i hi
      exact⟨row,g1,g2,ih _ _ g3⟩⟩
  ·exact zQ (fun t vs=>ih t vs) _ _ hv
  ·exact hv
section
variable {P:Program}{G:Mem}{hp:Array Obj}
theorem Mem.rG (m:Mem)(i:Nat):m.shut.get i=m.get i:=rfl
theorem RM.push {ι:Inj}{m:Mem}(h:RM P G ι m hp)(hl:m.lim=m.next){b:Blk}{l:Loc}(hv:iV b=false)(hs:aV b=true→l.spot=none)
  (hb:fT P (ι.upd m.next l) ((m.new b).nm (ι.upd m.next l)) hp l b):RM P G (ι.upd m.next l) (m.new b).shut hp:=by
 have hget:∀i,(m.new b).shut.get i=if i=m.next then some b else m.get i:=fun i=>Mem.T9 h.ok b i
 have hne:∀i x,m.get i=some x→i≠m.next:=fun i x hx e=>by have:=Mem.M8 h.ok hx;omega
 have hext:∀j,m.has j→ι.upd m.next l j=ι j:=fun j ⟨x,hx,_⟩=>ι.upd_ne l (hne j x hx)
 have hhas:∀i,m.has i→(m.new b).shut.has i:=fun i ⟨x,hx,hv⟩=>⟨x,by rw [hget,if_neg (hne i x hx)];exact hx,hv⟩
 have hG:G.next≤m.next:=avz h.glim h.limn
 refine⟨h.ok.push b,fun i x hx=>?_,fun i x hi hx _=>?_,?_,D5 _,h.gle,fun i hi=>?_,fun i hi=>hhas i (h.ghas i hi),fun i hi=>?_,fun i x hx hlx=>?_,h.gsz⟩
 ·rw [hget] at hx
  split at hx
  ·rename_i e;subst e;cases hx;rw [ι.V8];exact hb
  ·rename_i e
   rw [ι.upd_ne l e]
   exact (h.blk i x hx).mono (n:=m.nm ι) hext (Mem.bU hhas hext) fun _=>rfl
 ·have h1:=Mem.M8 (m:=(m.new b).shut) (h.ok.push b) hx
  have hi:(m.new b).shut.next≤i:=hi
  omega
 ·show G.next≤m.next+1;omega
 ·rw [hget,if_neg (by omega)];exact h.base i hi
 ·rw [hext i (h.ghas i hi)];exact h.glob i hi
 ·rw [hget] at hx
  split at hx
  ·rename_i e;subst e;cases hx;rw [ι.V8];exact hs hlx
  ·rename_i e;rw [ι.upd_ne l e];exact h.spot i x hx hlx
structure Lifts (P:Program)(G:Mem)(hp:Array Obj)(ι:Inj)(m:Mem)(ι':Inj)(m':Mem):Prop where
 rm:RM P G ι' m' hp
 lim:m'.lim=m'.next
 get:∀i b,m.get i=some b→m'.get i=some b
 ext:∀i,m.has i→ι' i=ι i
theorem Lifts.refl {ι:Inj}{m:Mem}(h:RM P G ι m hp)(hl:m.lim=m.next):Lifts P G hp ι m ι m:=⟨h,hl,fun _ _ h=>h,fun _ _=>rfl⟩
theorem Lifts.has {ι ι':Inj}{m m':Mem}(h:Lifts P G hp ι m ι' m')(i:Nat)(hi:m.has i):m'.has i:=by
 obtain⟨x,h1,h2⟩:=hi
 exact⟨x,h.get i x h1,h2⟩
theorem Lifts.trans {ι1 ι2 ι3:Inj}{m1 m2 m3:Mem}(h:Lifts P G hp ι1 m1 ι2 m2)(k:Lifts P G hp ι2 m2 ι3 m3):Lifts P G hp ι1 m1 ι3 m3:=
 ⟨k.rm,k.lim,fun i b hb=>k.get i b (h.get i b hb),fun i hi=>(k.ext i (h.has i hi)).trans (h.ext i hi)⟩
theorem Lifts.H6 {ι ι':Inj}{m m':Mem}(h:Lifts P G hp ι m ι' m'){vs:List j5}(hv:ltL (m.nm ι) vs):H8 ι' vs=H8 ι vs:=dJ (n:=m.nm ι) h.ext vs hv
theorem Lifts.lt {ι ι':Inj}{m m':Mem}(h:Lifts P G hp ι m ι' m'){vs:List j5}(hv:ltL (m.nm ι) vs):ltL (m'.nm ι') vs:=dR (Mem.bU h.has h.ext) vs hv
theorem Lifts.push {ι:Inj}{m:Mem}(h:RM P G ι m hp)(hl:m.lim=m.next){b:Blk}{l:Loc}(hv:iV b=false)(hs:aV b=true→l.spot=none)
  (hb:fT P (ι.upd m.next l) ((m.new b).nm (ι.upd m.next l)) hp l b):Lifts P G hp ι m (ι.upd m.next l) (m.new b).shut:=by
 have hne:∀i x,m.get i=some x→i≠m.next:=fun i x hx e=>by have:=Mem.M8 h.ok hx;omega
 exact⟨h.push hl hv hs hb,rfl,fun i x hx=>by rw [Mem.rG,Mem.T9 h.ok,if_neg (hne i x hx)];exact hx,fun j ⟨x,hx,_⟩=>ι.upd_ne l (hne j x hx)⟩
def Gets (P:Program)(G:Mem)(hp:Array Obj)(ι:Inj)(m:Mem)(cs:List Value)(S:Mem→List j5→Prop):Prop:=
 ∃ι' m' vs,Lifts P G hp ι m ι' m'∧H8 ι' vs=cs∧ltL (m'.nm ι') vs∧S m' vs
variable {H:Type}{enc:TypeId×Value→H}{w:World}{held:Bool}
theorem Fw {cs:List Value}{S:Mem→TypeId→List j5→Prop}(hS:∀m m' t vs,(∀i b,m.get i=some b→m'.get i=some b)→S m t vs→S m' t vs):
  ∀(fs:List Field) (o:Nat),(∀f∈fs,∀ι m,RM P G ι m hp→m.lim=m.next→Gets P G hp ι m ((cs.drop f.offset).take (P.cellsOf f.type)) (fun m' vs=>S m' f.type vs))→GD P fs o cs.length=true→
   ∀ι m,RM P G ι m hp→m.lim=m.next→Gets P G hp ι m (cs.drop o) (fun m' vs=>IQ (S m') fs vs):=by
 intro fs
 induction fs with
 | nil=>
  intro o _ ho ι m hm hl
  have:o=cs.length:=avt ho
  exact⟨ι,m,[],Lifts.refl hm hl,by rw [this];simp [H8],trivial,rfl⟩
 | cons f fs ih=>
  intro o hf ho ι m hm hl
  simp only [GD,avv] at ho
  have h1:f.offset=o:=avt ho.1
  obtain⟨ι1,m1,a,g1,g2,g3,g4⟩:=hf f (by simp) ι m hm hl
  obtain⟨ι2,m2,b,k1,k2,k3,k4⟩:=ih (o+P.cellsOf f.type) (fun f' hf'=>hf f' (by simp [hf'])) ho.2 ι1 m1 g1.rm g1.lim
  refine⟨ι2,m2,a++b,g1.trans k1,?_,gX (k1.lt g3) k3,a,b,rfl,hS _ _ _ _ k1.get g4,k4⟩
  rw [iL,k1.H6 g3,g2,k2,h1,← axg,List.take_append_drop]
theorem KZ {n ce:Nat}{row:Nat→List Value}{S:Mem→List j5→Prop}(hS:∀m m' vs,(∀i b,m.get i=some b→m'.get i=some b)→S m vs→S m' vs)
  (h:∀i,i<n→∀ι m,RM P G ι m hp→m.lim=m.next→Gets P G hp ι m (row i) S):∀c,c≤n→∀ι m,RM P G ι m hp→m.lim=m.next→
   ∃(ι':Inj) (m':Mem) (rl:List (List j5)),Lifts P G hp ι m ι' m'∧rl.length=c∧∀i r,rl[i]?=some r→H8 ι' r=row i∧ltL (m'.nm ι') r∧S m' r:=by
 intro c
 induction c with
 | zero=>intro _ ι m hm hl;exact⟨ι,m,[],Lifts.refl hm hl,rfl,fun i r hr=>by simp at hr⟩
 | succ c ih=>
  intro hc ι m hm hl
  obtain⟨ι1,m1,rl,g1,g2,g3⟩:=ih (by omega) ι m hm hl
  obtain⟨ι2,m2,r,k1,k2,k3,k4⟩:=h c (by omega) ι1 m1 g1.rm g1.lim
  refine⟨ι2,m2,rl ++ [r],g1.trans k1,by simp [g2],fun i r' hr=>?_⟩
  by_cases hi:i<rl.length
  ·rw [avY hi] at hr
   obtain⟨q1,q2,q3⟩:=g3 i r' hr
   exact⟨by rw [k1.H6 q2,q1],k1.lt q2,hS _ _ _ k1.get q3⟩
  ·rw [awm (by omega)] at hr
   have:i-rl.length=0:=by
    have:=(S9.1 hr).1
    simp at this;omega
   rw [this] at hr
   simp at hr
   subst hr
   rw [show i=c from by omega]
   exact⟨k2,k3,k4⟩
theorem lift (k:Nat):∀(n:Nat) (t:TypeId) (cs:List Value) (x:DataW H×List MemPlace),DataW.trod enc P w 0 (fun _=>true) held n t cs=some x→wV P k t=true→
  ∀ι m,RM P G ι m w.heap→m.lim=m.next→Gets P G w.heap ι m cs (fun m' vs=>shp P m' k t vs):=by
 induction k with
 | zero=>intro n t cs x _ h;cases h
 | succ k ih=>
  intro n t cs x hx hp ι m hm hl
  unfold wV at hp
  have self:∀vs:List j5,H8 ι vs=cs→ltL (m.nm ι) vs→shp P m (k+1) t vs→Gets P G w.heap ι m cs (fun m' vs=>shp P m' (k+1) t vs):=fun vs h1 h2 h3=>⟨ι,m,vs,Lifts.refl hm hl,h1,h2,h3⟩
  split at hp
  ·rename_i ht
   obtain⟨b,rfl,_⟩:=DataW.trod_bool ht hx
   exact self [.bool b] rfl ⟨trivial,trivial⟩ (by unfold shp;rw [ht];exact⟨b,rfl⟩)
  ·rename_i ik ht
   obtain⟨i,rfl,_,hw⟩:=DataW.trod_int ht hx
   exact self [.int ik i] rfl ⟨trivial,trivial⟩ (by unfold shp;rw [ht];exact⟨i,rfl,hw⟩)
  ·rename_i ht
   obtain⟨s,rfl,_,hw⟩:=DataW.trod_string ht hx
   have hw':s.data.toList.length≤maxLen:=by simpa using hw
   exact self [.str s.data.toList] (by simp [H8,H6]) ⟨trivial,trivial⟩ (by unfold shp;rw [ht];exact⟨s.data.toList,rfl,hw'⟩)
  ·rename_i e ht
   simp only [avv] at hp
   have hce:0<P.cellsOf e:=avM.mp hp.2
   rcases Deep.open_slice ht hx with⟨rfl,_⟩ | ⟨a,len,cap,mm,n',D,Pl,rfl,_,hlen,hcap,hmm,_,hel⟩
   ·exact self [.nilSlice] rfl ⟨trivial,trivial⟩ (by unfold shp;rw [ht];exact .inl rfl)
   ·have hmm:mm=cap:=by simpa using hmm
    subst hmm
    by_cases h0:mm=0
    ·subst h0
     have hlen:len=0:=by omega
     subst hlen
     have L:=Lifts.push (b:=.dead) (l:=⟨a.block,a.off,0,a.spot⟩) hm hl rfl (by intro h;cases h) trivial
     refine⟨_,_,[.slice m.next 0 0 0],L,?_,⟨⟨.dead,by rw [Mem.rG,Mem.T9 hm.ok,if_pos rfl],rfl⟩,trivial⟩,?_⟩
     ·simp [H8,H6,Inj.at]
     ·unfold shp
      rw [ht]
      exact .inr ⟨m.next,0,0,rfl,D5 _,hcap,.inl ⟨rfl,by rw [Mem.rG,Mem.T9 hm.ok,if_pos rfl]⟩⟩
    ·obtain⟨row,hrow⟩:=Deep.choose_lt hel
     obtain⟨ι1,m1,rl,g1,g2,g3⟩:=KZ (n:=mm) (ce:=P.cellsOf e) (row:=row) (S:=fun m' vs=>shp P m' k e vs) (fun m m' vs h hs=>rF h k e vs hs)
      (fun i hi ι m hm hl=>ih n' e (row i) _ (hrow i hi).2 hp.1 ι m hm hl) mm (D5 _) ι m hm hl
     have cell:∀i j,i<mm→j<P.cellsOf e→w.cell? ((a.add (i*P.cellsOf e)).add j)=(row i)[j]?∧(row i).length=P.cellsOf e:=fun i j hi hj=>by
      obtain⟨_,q2,q3⟩:=World.cells?_some (hrow i hi).1
      exact⟨q3 j hj,q2⟩
     have hsome:∀i j,i<mm→j<P.cellsOf e→∃v,(row i)[j]?=some v:=fun i j hi hj=>⟨_,U1 (by rw [(cell i j hi hj).2];exact hj)⟩
     have hspot:a.spot=none:=by
      obtain⟨v,hv⟩:=hsome 0 0 (by omega) hce
      have:=(cell 0 0 (by omega) hce).1
      rw [hv] at this
      unfold World.cell? at this
      split at this
      ·split at this
       ·cases this
       ·rename_i hn
        simp only [awF,Addr.add,if_true] at hn
        cases hs:a.spot with
        | none=>rfl
        | some s=>rw [hs] at hn;simp at hn
      ·cases this
     obtain⟨c,et,fz,hc⟩:∃c et fz,w.heap[a.block]?=some (.cells c et fz):=by
      obtain⟨v,hv⟩:=hsome 0 0 (by omega) hce
      have:=(cell 0 0 (by omega) hce).1
      rw [hv] at this
      unfold World.cell? at this
      split at this
      ·rename_i c et fz hh
       simp only [awF,Addr.add,if_true] at hh
       exact⟨c,et,fz,hh⟩
      ·cases this
     have hadd:∀i j,(a.add (i*P.cellsOf e)).add j=⟨a.block,a.off+(i*P.cellsOf e+j),none⟩:=fun i j=>by
      rw [Deep.add_add]
      unfold Addr.add
      split
      ·rename_i h;rw [h,awl,← hspot]
      ·rfl
     have hcc:∀i j,i<mm→j<P.cellsOf e→c[a.off+(i*P.cellsOf e+j)]?=(row i)[j]?:=fun i j hi hj=>by
      have:=(cell i j hi hj).1
      rw [hadd] at this
      simpa [World.cell?,hc] using this
     have hbound:a.off+mm*P.cellsOf e≤c.size:=by
      obtain⟨v,hv⟩:=hsome (mm-1) (P.cellsOf e-1) (by omega) (by omega)
      have:=hcc (mm-1) (P.cellsOf e-1) (by omega) (by omega)
      rw [hv] at this
      have h1:=(avx.1 this).1
      have h2:(mm-1)*P.cellsOf e+P.cellsOf e=mm*P.cellsOf e:=by
       rw [← awq];congr 1;omega
      omega
     have hrl:∀i,i<mm→∃r,rl[i]?=some r∧H8 ι1 r=row i∧ltL (m1.nm ι1) r∧shp P m1 k e r∧r.length=P.cellsOf e:=fun i hi=>by
      have hh:rl[i]?=some rl[i]:=U1 (by omega)
      obtain⟨q1,q2,q3⟩:=g3 i _ hh
      refine⟨_,hh,q1,q2,q3,?_⟩
      have:=congrArg List.length q1
      rw [aD] at this
      rw [this,(cell i 0 hi hce).2]
     have hne:∀i x,m1.get i=some x→i≠m1.next:=fun i x hx e=>by have:=Mem.M8 g1.rm.ok hx;omega
     have hext:∀j,m1.has j→(ι1.upd m1.next ⟨a.block,a.off,mm*P.cellsOf e,none⟩) j=ι1 j:=fun j ⟨x,hx,_⟩=>ι1.upd_ne _ (hne j x hx)
     have hhas:∀i,m1.has i→(m1.new (.cells (P.cellsOf e) mm (T.ofList rl))).has i:=fun i ⟨x,hx,hv⟩=>⟨x,by rw [Mem.T9 g1.rm.ok,if_neg (hne i x hx)];exact hx,hv⟩
     have L:=Lifts.push (b:=.cells (P.cellsOf e) mm (T.ofList rl)) (l:=⟨a.block,a.off,mm*P.cellsOf e,none⟩) g1.rm g1.lim rfl (fun _=>rfl)
      ⟨c,et,fz,hc,hbound,⟨D5 _,rl.length,by omega,T.iJ rl⟩,fun i hi=>by
       obtain⟨r,q1,q2,q3,q4,q5⟩:=hrl i hi
       refine⟨r,by rw [T.aS];exact q1,q5,dR (Mem.bU hhas hext) r q3,fun j hj=>?_⟩
       show c[a.off+(i*P.cellsOf e+j)]?=_
       rw [hcc i j hi hj,← q2,aZ]
       cases hr:r[j]? with
       | none=>rfl
       | some v=>simp [V9 (n:=m1.nm ι1) hext v (cZ.1 q3 v (avG hr))]⟩
     refine⟨_,_,[.slice m1.next 0 len mm],g1.trans L,?_,⟨⟨_,by rw [Mem.rG,Mem.T9 g1.rm.ok,if_pos rfl],rfl⟩,trivial⟩,?_⟩
     ·simp only [H8,H6]
      rw [Inj.Es (by rw [Inj.V8]),Inj.V8]
      simp only [awl]
      rw [← hspot]
     ·unfold shp
      rw [ht]
      refine .inr ⟨m1.next,len,mm,rfl,hlen,hcap,.inr ⟨T.ofList rl,by omega,by rw [Mem.rG,Mem.T9 g1.rm.ok,if_pos rfl],fun i hi=>?_⟩⟩
      obtain⟨r,q1,q2,q3,q4,q5⟩:=hrl i hi
      exact⟨r,by rw [T.aS];exact q1,q5,rF L.get k e r q4⟩
  ·rename_i fs ht
   simp only [avv,awi] at hp
   obtain⟨xs,n',rfl,_,hcl,hxl,hf⟩:=DataW.trod_struct ht hx
   have:=Fw (P:=P) (G:=G) (hp:=w.heap) (cs:=cs) (S:=fun m' t vs=>shp P m' k t vs) (fun m m' t vs h hs=>rF h k t vs hs) fs.toList 0
    (fun f hfm ι m hm hl=>by
     obtain⟨i,hi⟩:=avU hfm
     have hi':fs[i]?=some f:=by simpa using hi
     have h1:=hf i f hi'
     have hlt:i<xs.length:=by rw [hxl];exact (avx.1 hi').1
     rw [U1 hlt] at h1
     exact ih n' f.type _ _ h1 (hp.1 f hfm) ι m hm hl) (by rw [hcl];exact hp.2) ι m hm hl
   obtain⟨ι',m',vs,q1,q2,q3,q4⟩:=this
   refine⟨ι',m',vs,q1,by simpa using q2,q3,?_⟩
   unfold shp
   rw [ht]
   exact q4
  ·cases hp
end
structure Arr (m:Mem)(id rs:Nat)(l:List (List j5)):Prop where
 pos:0<rs
 len:∀r,r∈l→r.length=rs
 blk:∃c t c',m.get id=some (.cells rs c t)∧l.length≤c∧c≤c'∧T.Ok t c'∧∀i (h:i<l.length),t.get i=some l[i]
structure kL (id:Nat)(m m':Mem):Prop where
 ok:T.Ok m'.t m'.next
 next:m.next≤m'.next
 lim:m'.lim=m.lim
 old:∀i,i<m.next→i≠id→m'.get i=m.get i
theorem kL.refl {id:Nat}{m:Mem}(h:T.Ok m.t m.next):kL id m m:=⟨h,D5 _,rfl,fun _ _ _=>rfl⟩
theorem kL.trans {id:Nat}{a b c:Mem}(h:kL id a b)(k:kL id b c):kL id a c:=
 ⟨k.ok,avz h.next k.next,k.lim.trans h.lim,fun i hi hn=>(k.old i (avu hi h.next) hn).trans (h.old i hi hn)⟩
theorem Ext.toB {id:Nat}{a b:Mem}(h:Ext a b):kL id a b:=⟨h.ok,h.next,h.lim,fun i hi _=>h.old i hi⟩
theorem Arr.same {m m':Mem}{id rs:Nat}{l:List (List j5)}(h:Arr m id rs l)(e:m'.get id=m.get id):Arr m' id rs l:=by
 obtain⟨p,hl,c,t,c',h1,h2⟩:=h
 exact⟨p,hl,c,t,c',e.trans h1,h2⟩
theorem Arr.ext {m m':Mem}{id rs:Nat}{l:List (List j5)}(h:Arr m id rs l)(hid:id<m.next)(e:Ext m m'):Arr m' id rs l:=h.same (e.old id hid)
theorem Arr.take {m:Mem}{id rs:Nat}{l:List (List j5)}(h:Arr m id rs l)(k:Nat):Arr m id rs (l.take k):=by
 obtain⟨p,hl,c,t,c',h1,h2,h0,h3,h4⟩:=h
 refine⟨p,fun r hr=>hl r (awu hr),c,t,c',h1,by simp;omega,h0,h3,fun i hi=>?_⟩
 have hi':i<l.length:=by simp at hi;omega
 rw [h4 i hi',List.getElem_take]
theorem Arr.ldN {m:Mem}{id rs:Nat}{l:List (List j5)}(h:Arr m id rs l){i:Nat}(hi:i<l.length):AM.ldN (m.get id) (i*rs) rs=some (.agg l[i]):=by
 obtain⟨p,hl,c,t,c',h1,h2,h0,h3,h4⟩:=h
 have hr:=hl l[i] (awj hi)
 have hk:=tH (rs:=rs) (n:=c) (rows:=t) (i:=i) (j:=0) (k:=rs) p (by omega) (h4 i hi) hr (by omega)
 rw [awl] at hk
 rw [h1]
 show aO (some (Blk.cells rs c t)) (fun rs' n rows=>ob (mO rs' n rows (i*rs) rs) fun l=>some (j5.agg l))=_
 rw [dL,hk,O0,awh,avQ (by omega)]
theorem Arr.ld1 {m:Mem}{id rs:Nat}{l:List (List j5)}(h:Arr m id rs l){i j:Nat}(hi:i<l.length)(hj:j<rs):AM.ld1 (m.get id) (i*rs+j)=l[i][j]?:=by
 obtain⟨p,hl,c,t,c',h1,h2,h0,h3,h4⟩:=h
 rw [h1]
 show aO (some (Blk.cells rs c t)) (fun rs' n rows=>cell1 rs' n rows (i*rs+j))=_
 rw [dL,iM hj (by omega) (h4 i hi)]
theorem Arr.store {m:Mem}{id rs:Nat}{l:List (List j5)}(h:Arr m id rs l)(hm:m.Ok)(hid:id<m.next)(hlim:m.lim≤id){i:Nat}(hi:i<l.length){row:List j5}(hr:row.length=rs)(ho:O7 row=true):
  ∃m',(∀{β:Type} (k:Mem→Option β),storeAt m id (i*rs) row k=k m')∧Arr m' id rs (l.set i row)∧kL id m m':=by
 obtain⟨p,hl,c,t,c',h1,h2,h0,h3,h4⟩:=h
 have hq:Nat.div (i*rs) rs=i:=axd i p
 have hz:Nat.mod (i*rs) rs=0:=Nat.mul_mod_left i rs
 have hold:=h4 i hi
 have hol:=hl l[i] (awj hi)
 have hw:aX rs c t (i*rs) row=some (t.put i row):=by
  unfold aX
  rw [hq,hz,show Nat.blt i c=true from avM.mpr (by omega),hold]
  show bi (Nat.ble (Nat.add 0 (len' row)) rs) (some (t.put i (mM 0 row l[i]))) none=_
  rw [Q5,show Nat.ble (Nat.add 0 row.length) rs=true from avB (by show 0+row.length≤rs;omega),jR _ _ _ (by omega),axh,avS,
   avD (by omega)]
  simp
 refine⟨m.set id (.cells rs c (t.put i row)),fun k=>?_,⟨p,fun r hr'=>?_,c,t.put i row,c',?_,by simpa using h2,h0,T.Ok.put h3 i row (by omega),fun j hj=>?_⟩,?_⟩
 ·rw [aW hlim ho,h1]
  show ob (ob (aX rs c t (i*rs) row) fun rows'=>some (Blk.cells rs c rows')) _=_
  rw [hw];rfl
 ·rcases List.mem_or_eq_of_mem_set hr' with h | rfl
  ·exact hl r h
  ·exact hr
 ·rw [Mem.ay hm hid,if_pos rfl]
 ·have hj':j<l.length:=by simpa using hj
  rw [List.getElem_set]
  split
  ·rename_i e;subst e;exact T.aQ h3 _ _ (by omega)
  ·rename_i e;rw [T.bL h3 _ _ _ (by omega) e];exact h4 j hj'
 ·exact⟨Mem.Ok.set hm hid _,by simp,rfl,fun j hj hn=>by rw [Mem.ay hm hid,if_neg hn]⟩
theorem uQ {rs n:Nat}{rows:T (List j5)}:∀(a b off:Nat),M5 rs n rows (a+b) off=ob (M5 rs n rows a off) fun x=>ob (M5 rs n rows b (off+a)) fun y=>some (x++y)
 | 0,b,off=>by
  rw [avS,awl]
  show _=ob (M5 rs n rows b off) fun y=>some ([]++y)
  cases M5 rs n rows b off<;>rfl
 | a+1,b,off=>by
  rw [show a+1+b=(a+b)+1 from by omega]
  show ob (cell1 rs n rows off) (fun v=>ob (M5 rs n rows (a+b) (off+1)) fun l=>some (v::l))=ob (ob (cell1 rs n rows off) fun v=>ob (M5 rs n rows a (off+1)) fun l=>some (v::l)) _
  rw [uQ a b (off+1),show off+1+a=off+(a+1) from by omega]
  cases cell1 rs n rows off with
  | none=>rfl
  | some v=>
   simp only [O0]
   cases M5 rs n rows a (off+1) with
   | none=>rfl
   | some x=>
    simp only [O0]
    cases M5 rs n rows b (off+(a+1))<;>rfl
theorem Du {rs n:Nat}{rows:T (List j5)}{i:Nat}{row:List j5}(hi:i<n)(h:rows.get i=some row)(hl:row.length=rs):
  ∀k j,j+k=rs→M5 rs n rows k (i*rs+j)=some (row.drop j):=by
 intro k
 induction k with
 | zero=>intro j hj;rw [avD (by omega)];rfl
 | succ k ih=>
  intro j hj
  show ob (cell1 rs n rows (i*rs+j)) (fun v=>ob (M5 rs n rows k (i*rs+j+1)) fun l=>some (v::l))=_
  have hjl:j<row.length:=by omega
  rw [iM (by omega) hi h,U1 hjl,O0,show i*rs+j+1=i*rs+(j+1) from by omega,ih (j+1) (by omega),avJ hjl]
  rfl
theorem rH {rs n:Nat}{rows:T (List j5)}{l:List (List j5)}(hl:∀r,r∈l→r.length=rs)(h:∀i (h:i<l.length),rows.get i=some l[i])(hn:l.length≤n):
  ∀k i,i+k=l.length→M5 rs n rows (k*rs) (i*rs)=some (l.drop i).flatten:=by
 intro k
 induction k with
 | zero=>intro i hi;rw [avD (by omega),awF];rfl
 | succ k ih=>
  intro i hi
  have hi':i<l.length:=by omega
  have:=Du (n:=n) (i:=i) (by omega) (h i hi') (hl _ (awj hi')) rs 0 (by omega)
  rw [awl,awh] at this
  rw [show (k+1)*rs=rs+k*rs from by rw [awS,Nat.one_mul,Nat.add_comm],uQ,this,O0,show i*rs+rs=(i+1)*rs from by rw [awS,Nat.one_mul],ih (i+1) (by omega),O0,avJ hi']
  rfl
theorem wW {rs:Nat}:∀(l:List (List j5)),(∀r,r∈l→r.length=rs)→rowsOf rs l.length l.flatten=some l
 | [],_=>rfl
 | r::l,h=>by
  have hr:=h r (by simp)
  show ob (takeN rs (r++l.flatten)) (fun x=>ob (rowsOf rs l.length (jk rs (r++l.flatten))) fun rest=>some (x::rest))=_
  rw [dQ _ _ (by simp;omega),O0,eO,List.drop_left' hr,List.take_left' hr,wW l (fun x hx=>h x (by simp [hx]))]
  rfl
theorem Tp {m:Mem}(hm:m.Ok){rs:Nat}(hp:0<rs){l:List (List j5)}(hl:∀r,r∈l→r.length=rs):Arr (m.new (.cells rs l.length (T.ofList l))) m.next rs l:=
 ⟨hp,hl,l.length,T.ofList l,l.length,by rw [Mem.T9 hm,if_pos rfl],D5 _,D5 _,T.iJ l,fun i h=>by rw [T.aS,U1 h]⟩
theorem IU {m:Mem}{rs:Nat}{l:List (List j5)}(hl:∀r,r∈l→r.length=rs):grown m rs l.length l.flatten=some [⟨.sliceU m.next 0 l.length rs,m.new (.cells rs l.length (T.ofList l))⟩]:=by
 show ob (rowsOf rs l.length l.flatten) (fun rows=>one (j5.sliceU m.next 0 l.length rs) (m.new (.cells rs l.length (T.ofList rows))))=_
 rw [wW l hl];rfl
theorem lX:∀(a b:List j5),O7 (a++b)=(O7 a&&O7 b)
 | [],_=>rfl
 | v::a,b=>by
  show bi (J5 v) (O7 (a++b)) false=(bi (J5 v) (O7 a) false&&O7 b)
  rw [lX a b]
  cases J5 v<;>rfl
theorem nM {rs n:Nat}(hp:0<rs):∀(vs:List j5) (t:T (List j5)) (off k n':Nat),n≤n'→T.Ok t n'→k*rs≤off→off+vs.length≤n*rs→
  ∃t',fJ rs n vs t off=some t'∧T.Ok t' n'∧∀i,i<k→t'.get i=t.get i
 | [],t,off,k,n',_,h,_,_=>⟨t,rfl,h,fun _ _=>rfl⟩
 | v::vs,t,off,k,n',hnn,h,hk,hn=>by
  have hlt:off<n*rs:=by simp at hn;omega
  have hd:off / rs<n:=Nat.div_lt_of_lt_mul (by rw [awx];exact hlt)
  obtain⟨row,hrow⟩:=(h.get _).2 (avu hd hnn)
  have hmod:off%rs<rs:=awr _ hp
  have hkd:k≤off / rs:=(aw0 hp).2 hk
  have hw:aX rs n t off [v]=some (t.put (off / rs) (mM (off%rs) [v] row)):=by
   show bi (Nat.blt (off / rs) n) (ob (t.get (off / rs)) fun row=>bi (Nat.ble (off%rs+1) rs) (some (t.put (off / rs) (mM (off%rs) [v] row))) none) none=_
   rw [show Nat.blt (off / rs) n=true from avM.mpr hd,hrow,aJ,O0,show Nat.ble (off%rs+1) rs=true from avB hmod];rfl
  obtain⟨t',h1,h2,h3⟩:=nM hp vs (t.put (off / rs) (mM (off%rs) [v] row)) (off+1) k n' hnn (T.Ok.put h _ _ (avu hd hnn)) (by omega) (by simp at hn;omega)
  refine⟨t',?_,h2,fun i hi=>?_⟩
  ·show ob (aX rs n t off [v]) (fun rows'=>fJ rs n vs rows' (off+1))=_
   rw [hw];exact h1
  ·rw [h3 i hi,T.bL h _ _ _ (by omega) (by omega)]
theorem Arr.clear {m:Mem}{id rs:Nat}{l:List (List j5)}(h:Arr m id rs l)(hm:m.Ok)(hid:id<m.next)(hlim:m.lim≤id){k:Nat}(hk:k≤l.length){vs:List j5}(hv:k*rs+vs.length≤l.length*rs)(ho:O7 vs=true):
  ∃m',(∀{β:Type} (f:Mem→Option β),iH m id (k*rs) vs f=f m')∧Arr m' id rs (l.take k)∧kL id m m':=by
 have ht:=h.take k
 obtain⟨p,hl,c,t,c',h1,h2,h0,h3,h4⟩:=h
 cases vs with
 | nil=>exact⟨m,fun f=>rfl,ht,kL.refl hm⟩
 | cons v vs=>
  obtain⟨t',w1,w2,w3⟩:=nM p (v::vs) t (k*rs) k c' h0 h3 (D5 _) (avz hv (avR _ h2))
  refine⟨m.set id (.cells rs c t'),fun {β} f=>?_,⟨p,ht.len,c,t',c',by rw [Mem.ay hm hid,if_pos rfl],by simp;omega,h0,w2,fun i hi=>?_⟩,Mem.Ok.set hm hid _,by simp,rfl,fun j hj hn=>by rw [Mem.ay hm hid,if_neg hn]⟩
  ·show bi (Nat.blt id m.lim) none (bi (O7 (v::vs)) (aO (m.get id) fun rs' n rows=>ob (fJ rs' n (v::vs) rows (k*rs)) fun rows'=>f (m.set id (.cells rs' n rows'))) none)=f (m.set id (.cells rs c t'))
   rw [show Nat.blt id m.lim=false from avO.2 fun e=>absurd (avM.mp e) (Nat.not_lt.2 hlim),ho,h1,aY,aJ,dL,w1];rfl
  ·have hi':i<k∧i<l.length:=by simp at hi;omega
   rw [w3 i hi'.1,h4 i hi'.2,List.getElem_take]
def kH (m:Mem)(v:j5)(xs:List j5):Prop:=
 (v=.nilSlice∧xs=[])∨∃id off,((∃c,v=.slice id off xs.length c∧xs.length≤c)∨v=.sliceU id off xs.length 1)∧id<m.next∧
  (xs=[]∨∃n rows,m.get id=some (.cells 1 n rows)∧off+xs.length≤n∧∀i (h:i<xs.length),rows.get (off+i)=some [xs[i]])
def Ej (m:Mem)(v:j5)(xs:List j5):Prop:=
 ∃id off c,v=.slice id off xs.length c∧xs.length≤c∧id<m.next∧
  (xs=[]∨∃n rows,m.get id=some (.cells 1 n rows)∧off+xs.length≤n∧∀i (h:i<xs.length),rows.get (off+i)=some [xs[i]])
theorem Ej.vs {m:Mem}{v:j5}{xs:List j5}(h:Ej m v xs):kH m v xs:=by
 obtain⟨id,off,c,h1,h2,h3,h4⟩:=h
 exact .inr ⟨id,off,.inl ⟨c,h1,h2⟩,h3,h4⟩
theorem kH.keep {m m':Mem}{v:j5}{xs:List j5}(hv:kH m v xs)(hn:m.next≤m'.next)(h:∀id n rows,id<m.next→m.get id=some (.cells 1 n rows)→(∃o l c,v=.slice id o l c)∨(∃o l e,v=.sliceU id o l e)→m'.get id=m.get id):kH m' v xs:=by
 rcases hv with hv | ⟨id,off,h1,h2,h3⟩
 ·exact .inl hv
 ·refine .inr ⟨id,off,h1,avu h2 hn,?_⟩
  rcases h3 with h3 | ⟨n,rows,h4,h5,h6⟩
  ·exact .inl h3
  ·refine .inr ⟨n,rows,(h id n rows h2 h4 ?_).trans h4,h5,h6⟩
   rcases h1 with⟨c,rfl,_⟩ | rfl
   ·exact .inl ⟨_,_,_,rfl⟩
   ·exact .inr ⟨_,_,_,rfl⟩
theorem kH.ext {m m':Mem}(h:Ext m m'){v:j5}{xs:List j5}(hv:kH m v xs):kH m' v xs:=hv.keep h.next fun id _ _ hi _ _=>h.old id hi
theorem Ej.keep {m m':Mem}{v:j5}{xs:List j5}(hv:Ej m v xs)(hn:m.next≤m'.next)(h:∀id n rows,id<m.next→m.get id=some (.cells 1 n rows)→(∃o l c,v=.slice id o l c)→m'.get id=m.get id):Ej m' v xs:=by
 obtain⟨id,off,c,rfl,h1,h2,h3⟩:=hv
 refine⟨id,off,c,rfl,h1,avu h2 hn,?_⟩
 rcases h3 with h3 | ⟨n,rows,h4,h5,h6⟩
 ·exact .inl h3
 ·exact .inr ⟨n,rows,(h id n rows h2 h4 ⟨_,_,_,rfl⟩).trans h4,h5,h6⟩
theorem Ej.ext {m m':Mem}(h:Ext m m'){v:j5}{xs:List j5}(hv:Ej m v xs):Ej m' v xs:=hv.keep h.next fun id _ _ hi _ _=>h.old id hi
theorem kH.cells {m:Mem}{v:j5}{xs:List j5}(h:kH m v xs):v.cells=[v]:=by
 rcases h with⟨rfl,rfl⟩ | ⟨id,off,⟨c,rfl,_⟩ | rfl,_⟩<;>rfl
theorem kH.pan {m:Mem}{v:j5}{xs:List j5}(h:kH m v xs){β:Type}(p:j5→β)(q:β):kK v p q=q:=by
 rcases h with⟨rfl,rfl⟩ | ⟨id,off,⟨c,rfl,_⟩ | rfl,_⟩<;>rfl
theorem kH.J5 {m:Mem}{v:j5}{xs:List j5}(h:kH m v xs):Go.AM.J5 v=true:=by
 rcases h with⟨rfl,rfl⟩ | ⟨id,off,⟨c,rfl,_⟩ | rfl,_⟩<;>rfl
theorem kH.len {m:Mem}{v:j5}{xs:List j5}(h:kH m v xs):vSl v (some (j5.int .i64 0)) (fun _ _ n _=>some (.int .i64 n)) (fun _ _ n _=>some (.int .i64 n))=some (.int .i64 xs.length):=by
 rcases h with⟨rfl,rfl⟩ | ⟨id,off,⟨c,rfl,_⟩ | rfl,_⟩<;>rfl
theorem kH.lenOf {m:Mem}{v:j5}{xs:List j5}(h:kH m v xs):Go.AM.lenOf v=some xs.length:=by
 rcases h with⟨rfl,rfl⟩ | ⟨id,off,⟨c,rfl,_⟩ | rfl,_⟩<;>rfl
theorem kH.at {m:Mem}{v:j5}{xs:List j5}(h:kH m v xs){i:Nat}(hi:i<xs.length):
  ∃id o,vSl v none (fun id off len _=>idx len (.int .i64 i) fun k=>some (j5.ptr id (off+k))) (fun id off len _=>idx len (.int .i64 i) fun k=>some (j5.ptr id (off+k)))=some (.ptr id o)∧id<m.next∧ld1 (m.get id) o=some xs[i]:=by
 rcases h with⟨_,rfl⟩ | ⟨id,off,h1,h2,h3⟩
 ·simp at hi
 ·rcases h3 with rfl | ⟨n,rows,h4,h5,h6⟩
  ·simp at hi
  ·refine⟨id,off+i,?_,h2,by rw [h4];exact KU (by omega) (h6 i hi)⟩
   rcases h1 with⟨c,rfl,_⟩ | rfl
   ·simp only [wS]
    rw [tF _ _ _ hi]
   ·simp only [tu]
    rw [tF _ _ _ hi]
theorem kH.at0 {m:Mem}{v x:j5}{xs:List j5}(h:kH m v (x::xs)):
  ∃id o,vSl v none (fun id off len _=>idx len (.int .i64 0) fun k=>some (j5.ptr id (off+k))) (fun id off len _=>idx len (.int .i64 0) fun k=>some (j5.ptr id (off+k)))=some (.ptr id o)∧id<m.next∧ld1 (m.get id) o=some x:=by
 have:=h.at (i:=0) (by simp)
 simpa using this
theorem wX {n off:Nat}{rows:T (List j5)}{xs:List j5}(h:∀i (h:i<xs.length),rows.get (off+i)=some [xs[i]])(hn:off+xs.length≤n):
  ∀(j i:Nat),i+j=xs.length→M5 1 n rows j (off+i)=some (xs.drop i):=by
 intro j
 induction j with
 | zero=>intro i hi;rw [avD (by omega)];rfl
 | succ j ih=>
  intro i hi
  have hl:i<xs.length:=by omega
  show ob (cell1 1 n rows (off+i)) (fun v=>ob (M5 1 n rows j (off+i+1)) fun l=>some (v::l))=_
  have e:cell1 1 n rows (off+i)=some xs[i]:=by
   have:=iM (rs:=1) (n:=n) (rows:=rows) (i:=off+i) (j:=0) (by omega) (by omega) (h i hl)
   rwa [awt] at this
  rw [e,show off+i+1=off+(i+1) from by omega,ih (i+1) (by omega),avJ hl];rfl
theorem kH.read {m:Mem}{v:j5}{xs:List j5}(h:kH m v xs):ah m 1 xs.length v=some xs:=by
 rcases h with⟨rfl,rfl⟩ | ⟨id,off,h1,h2,h3⟩
 ·rfl
 ·have key:R4 m id off (Nat.mul xs.length 1)=some xs:=by
   have e:Nat.mul xs.length 1=xs.length:=awt _
   rw [e]
   rcases h3 with rfl | ⟨n,rows,h4,h5,h6⟩
   ·rfl
   ·cases hx:xs.length with
    | zero=>rw [avW.1 hx];rfl
    | succ k=>
     show aO (m.get id) (fun rs k' rows=>M5 rs k' rows (k+1) off)=_
     have:=wX h6 h5 (k+1) 0 (by omega)
     rw [h4,dL,← awl off,this,awh]
  rcases h1 with⟨c,rfl,_⟩ | rfl<;>exact key
theorem Ej.tail {m:Mem}{v x:j5}{xs:List j5}(h:Ej m v (x::xs)):∃v',Ej m v' xs∧(∀(y a:OF) (ls:List j5) (env:T j5) (nid:Nat),y ls env=v→a ls env=.int .i64 1→lSl 1 y (some a) none ls env nid=some (v',none))∧∀i o l c,v'=.slice i o l c→∃o2 l2 c2,v=.slice i o2 l2 c2:=by
 obtain⟨id,off,c,rfl,h1,h2,h3⟩:=h
 have hc:xs.length+1≤c:=by simpa using h1
 refine⟨.slice id (bi (Nat.beq 1 c) off (Nat.add off (Nat.mul 1 1))) xs.length (c-1),⟨id,_,c-1,rfl,by omega,h2,?_⟩,fun y a ls env nid hy ha=>?_,fun i o l c' h=>by cases h;exact⟨_,_,_,rfl⟩⟩
 ·by_cases hx:xs=[]
  ·exact .inl hx
  ·have hl:=aws.2 hx
   rcases h3 with h3 | ⟨n,rows,h4,h5,h6⟩
   ·cases h3
   ·refine .inr ⟨n,rows,h4,?_⟩
    rw [M9,if_neg (by omega)]
    have e:Nat.add off (Nat.mul 1 1)=off+1:=rfl
    rw [e]
    refine⟨by simp at h5;omega,fun i hi=>?_⟩
    have:=h6 (i+1) (by simp;omega)
    rw [show off+1+i=off+(i+1) from by omega,this];rfl
 ·show oQ (a ls env) (fun l=>R9 nid 1 (y ls env) l none)=_
  rw [ha,hy]
  show R9 nid 1 (.slice id off (xs.length+1) c) 1 none=_
  show bi (Nat.ble 1 (xs.length+1)) (bi (Nat.ble (xs.length+1) c) (some (j5.slice id (bi (Nat.beq 1 c) off (Nat.add off (Nat.mul 1 1))) (Nat.sub (xs.length+1) 1) (Nat.sub c 1),none)) none) none=_
  rw [show Nat.ble 1 (xs.length+1)=true from avB (by omega),show Nat.ble (xs.length+1) c=true from avB hc]
  rfl
structure Fr (lo p:Nat)(m m':Mem):Prop where
 ok:T.Ok m'.t m'.next
 next:m.next≤m'.next
 lim:m'.lim=m.lim
 old:∀i,i<lo→i≠p→m'.get i=m.get i
theorem Fr.refl {lo p:Nat}{m:Mem}(h:T.Ok m.t m.next):Fr lo p m m:=⟨h,D5 _,rfl,fun _ _ _=>rfl⟩
theorem Fr.trans {lo p:Nat}{a b c:Mem}(h:Fr lo p a b)(k:Fr lo p b c):Fr lo p a c:=
 ⟨k.ok,avz h.next k.next,k.lim.trans h.lim,fun i hi hp=>(k.old i hi hp).trans (h.old i hi hp)⟩
theorem Ext.fr {lo p:Nat}{m m':Mem}(h:Ext m m')(hlo:lo≤m.next):Fr lo p m m':=⟨h.ok,h.next,h.lim,fun i hi _=>h.old i (by omega)⟩
theorem kL.fr {lo p:Nat}{m m':Mem}(h:kL p m m')(hlo:lo≤m.next):Fr lo p m m':=⟨h.ok,h.next,h.lim,fun i hi hp=>h.old i (by omega) hp⟩
theorem Fr.ext {lo p:Nat}{m m':Mem}(h:Fr lo p m m')(hlo:m.next≤lo)(hp:lo≤p):Ext m m':=⟨h.ok,h.next,h.lim,fun i hi=>h.old i (by omega) (by omega)⟩
theorem Fr.Js {lo p:Nat}{m m':Mem}(h:Fr lo p m m')(hlo:m.next≤lo):kL p m m':=⟨h.ok,h.next,h.lim,fun i hi hp=>h.old i (by omega) hp⟩
theorem Fr.mono {lo p q:Nat}{m m':Mem}(h:Fr lo p m m')(hp:lo≤p):Fr lo q m m':=⟨h.ok,h.next,h.lim,fun i hi _=>h.old i hi (by omega)⟩
def dz (lo:Nat)(m:Mem)(v:j5)(l:List j5):Prop:=
 (v=.nilSlice∧l=[])∨∃id,lo≤id∧id<m.next∧O7 l=true∧Arr m id 1 (l.map ([·]))∧(v=.slice id 0 l.length l.length∨v=.sliceU id 0 l.length 1)
theorem dz.nil (lo:Nat)(m:Mem):dz lo m .nilSlice []:=.inl ⟨rfl,rfl⟩
theorem dz.keep {lo:Nat}{m m':Mem}{v:j5}{l:List j5}(h:dz lo m v l)(hn:m.next≤m'.next)(ho:∀i,lo≤i→i<m.next→m'.get i=m.get i):dz lo m' v l:=by
 rcases h with h | ⟨id,h1,h2,h3,h4,h5⟩
 ·exact .inl h
 ·exact .inr ⟨id,h1,avu h2 hn,h3,h4.same (ho id h1 h2),h5⟩
theorem dz.ext {lo:Nat}{m m':Mem}{v:j5}{l:List j5}(h:dz lo m v l)(e:Ext m m'):dz lo m' v l:=h.keep e.next fun i _ hi=>e.old i hi
theorem dz.Js {lo p:Nat}{m m':Mem}{v:j5}{l:List j5}(h:dz lo m v l)(e:kL p m m')(hp:p<lo):dz lo m' v l:=h.keep e.next fun i h1 hi=>e.old i hi (by omega)
theorem vD:∀l:List j5,(l.map ([·])).flatten=l
 | []=>rfl
 | x::l=>by rw [axt,List.flatten_cons,vD l];rfl
theorem dz.vs {lo:Nat}{m:Mem}{v:j5}{l:List j5}(h:dz lo m v l):kH m v l:=by
 rcases h with h | ⟨id,h1,h2,h3,h4,h5⟩
 ·exact .inl h
 ·obtain⟨p,hl,c,t,c',q1,q2,q0,q3,q4⟩:=h4
  refine .inr ⟨id,0,?_,h2,.inr ⟨c,t,q1,by simpa using q2,fun i hi=>?_⟩⟩
  ·rcases h5 with h5 | h5
   ·exact .inl ⟨_,h5,D5 _⟩
   ·exact .inr h5
  ·rw [avS,q4 i (by simpa using hi)];simp
theorem dz.sl {lo:Nat}{m:Mem}{v:j5}{xs:List Int}(h:dz lo m v (ints xs)):bW m v xs:=by
 have hlen:(ints xs).length=xs.length:=by simp [ints]
 rcases h with⟨h,h'⟩ | ⟨id,h1,h2,h3,h4,h5⟩
 ·exact .inl ⟨h,by simpa [ints] using h'⟩
 ·obtain⟨p,hl,c,t,c',q1,q2,q0,q3,q4⟩:=h4
  rw [hlen] at h5
  refine .inr ⟨(id,0),?_,h2,.inr ⟨c,t,q1,by simpa [ints] using q2,fun i hi=>?_⟩⟩
  ·rcases h5 with h5 | h5
   ·exact .inl ⟨_,h5⟩
   ·exact .inr ⟨_,h5⟩
  ·rw [avS,q4 i (by simpa [ints] using hi)];simp [ints]
theorem Dv {n bytes:Nat}(h:n≤100000)(hb:1≤bytes∧bytes≤1000):big n bytes 1=true:=by
 show bi (Nat.ble ((2*n+2048)*bytes) 281474976710656) (bi true (Nat.ble 1 bytes) false) false=true
 rw [show Nat.ble ((2*n+2048)*bytes) 281474976710656=true from avB (avz (Nat.mul_le_mul (show 2*n+2048≤202048 by omega) hb.2) (by decide)),show Nat.ble 1 bytes=true from avB hb.1];rfl
theorem qj {lo:Nat}{m:Mem}(hm:m.Ok)(hlo:lo≤m.next)(l:List j5)(h1:O7 l=true):grown m 1 l.length l=some [⟨.sliceU m.next 0 l.length 1,m.new (.cells 1 l.length (T.ofList (l.map ([·]))))⟩]∧dz lo (m.new (.cells 1 l.length (T.ofList (l.map ([·]))))) (.sliceU m.next 0 l.length 1) l:=by
 have hr:∀r,r∈l.map ([·])→r.length=1:=fun r hr=>by
  obtain⟨x,_,rfl⟩:=awy.1 hr
  rfl
 have g:=IU (m:=m) hr
 have a:=Tp hm (rs:=1) (by omega) hr
 rw [axz] at g a
 rw [vD] at g
 exact⟨g,.inr ⟨m.next,hlo,by simp,h1,a,.inr rfl⟩⟩
theorem Fr.new {lo:Nat}{m:Mem}(hm:m.Ok)(hlo:lo≤m.next)(b:Blk):Fr lo lo m (m.new b):=((Ext.refl hm).new b).fr hlo
theorem La {lo bytes:Nat}{m:Mem}{v:j5}{l xs:List j5}(hm:m.Ok)(hlim:m.lim≤lo)(hlo:lo≤m.next)(h:dz lo m v l)(h1:O7 xs=true)(hb:l.length+xs.length≤100000)(hby:1≤bytes∧bytes≤1000):
  ∃v' m',pR m 1 bytes xs.length xs v=some [⟨v',m'⟩]∧dz lo m' v' (l++xs)∧Fr lo lo m m':=by
 by_cases hf:xs=[]
 ·subst hf
  refine⟨v,m,?_,by simpa using h,Fr.refl hm⟩
  rcases h with⟨rfl,rfl⟩ | ⟨id,_,_,_,_,rfl | rfl⟩
  ·rfl
  ·show bi (Nat.ble (l.length+0) l.length) (one (.slice id 0 (l.length+0) l.length) m) _=_
   rw [awl,show Nat.ble l.length l.length=true from avB (D5 _)];rfl
  ·rfl
 ·obtain⟨k,hk⟩:∃k,xs.length=k+1:=⟨xs.length-1,by have:=aws.2 hf;omega⟩
  rcases h with⟨rfl,rfl⟩ | ⟨id,i1,i2,i3,ha,hv⟩
  ·obtain⟨g,o⟩:=qj (lo:=lo) hm hlo xs h1
   refine⟨_,_,?_,by rw [avT];exact o,Fr.new hm hlo _⟩
   rw [← g]
   show JH m 1 bytes xs.length xs=_
   rw [hk]
   show bi (big (k+1) bytes 1) _ none=_
   rw [Dv (by simp at hb;omega) hby];rfl
  ·have hl1:O7 (l++xs)=true:=by rw [lX,i3,h1];rfl
   obtain⟨p,hl,c,t,c',q1,q2,q0,q3,q4⟩:=ha
   have q2':l.length≤c:=by simpa using q2
   have hrd:M5 1 c t l.length 0=some l:=by
    have:=rH (rs:=1) (n:=c) (rows:=t) hl q4 q2 l.length 0 (by simp)
    rwa [awt,awF,awh,vD] at this
   rcases hv with rfl | rfl
   ·obtain⟨g,o⟩:=qj (lo:=lo) hm hlo (l++xs) hl1
    refine⟨_,_,?_,o,Fr.new hm hlo _⟩
    rw [← g]
    show lu m 1 bytes xs.length xs id 0 l.length l.length=_
    unfold lu
    have e1:Nat.ble (Nat.add l.length xs.length) l.length=false:=by
     rw [avO]
     intro e
     have:l.length+xs.length≤l.length:=avC e
     omega
    have e2:R4 m id 0 (Nat.mul l.length 1)=some l:=by
     rw [show Nat.mul l.length 1=l.length from awt _]
     cases hll:l.length with
     | zero=>rw [avW.1 hll];rfl
     | succ j=>
      show aO (m.get id) (fun rs k' rows=>M5 rs k' rows (j+1) 0)=_
      rw [q1,dL,← hll,hrd]
    rw [e1,aY,show Nat.add l.length xs.length=(l++xs).length from by simp,Dv (by simpa using hb) hby,aJ,e2,O0,ak]
   ·have hset:(m.set id .dead).Ok:=Mem.Ok.set hm i2 _
    have hfr:∀b,Fr lo lo m ((m.set id .dead).new b):=fun b=>⟨Mem.Ok.new hset _,by simp,by simp,fun i hi _=>by
     rw [Mem.T9 hset,if_neg (by simp;omega),Mem.ay hm i2,if_neg (by omega)]⟩
    have hl1':Nat.ble m.lim id=true:=avB (by omega)
    by_cases hone:xs.length=1
    ·obtain⟨x,rfl⟩:∃x,xs=[x]:=List.length_eq_one_iff.1 hone
     have hput:∃c'',l.length+1≤c''∧T.Ok (t.put l.length [x]) c'':=by
      by_cases hc:l.length<c'
      ·exact⟨c',hc,T.Ok.put q3 _ _ hc⟩
      ·obtain rfl:c'=l.length:=by omega
       exact⟨l.length+1,D5 _,T.Ok.push q3 _⟩
     obtain⟨c'',r1,r2⟩:=hput
     refine⟨.sliceU m.next 0 (l.length+1) 1,(m.set id .dead).new (.cells 1 (l.length+1) (t.put l.length [x])),?_,.inr ⟨m.next,hlo,by simp,hl1,⟨by omega,fun r hr=>?_,l.length+1,t.put l.length [x],c'',?_,by simp,r1,r2,fun i hi=>?_⟩,.inr (by simp)⟩,hfr _⟩
     ·show vM m 1 bytes 1 [x] id 0 l.length 1=_
      show bi (Nat.beq 1 1) (bi (big (l.length+1) bytes 1) (bi (Nat.ble m.lim id) (bi (O7 [x]) (BU (m.get id) _ _) none) none) none) none=_
      rw [Dv (by simpa using hb) hby,hl1',h1,q1]
      show bi (bi (Nat.beq 1 1) (bi (Nat.beq 0 0) (bi (Nat.ble l.length c) (bi (Nat.beq 1 1) (Nat.beq (len' [x]) 1) false) false) false) false) _ _=_
      rw [show Nat.ble l.length c=true from avB q2']
      rfl
     ·obtain⟨y,_,rfl⟩:=awy.1 hr
      rfl
     ·rw [Mem.T9 hset];simp
     ·by_cases hil:i=l.length
      ·subst hil
       rw [T.aQ q3 _ _ (by omega)]
       simp
      ·have hil':i<l.length:=by simp at hi;omega
       rw [T.bL q3 _ _ _ (by omega) (axu hil),q4 i (by simpa using hil')]
       simp [ax1,hil']
    ·obtain⟨g,o⟩:=qj (lo:=lo) hset (by simpa using hlo) (l++xs) hl1
     refine⟨_,_,?_,o,hfr _⟩
     rw [← g]
     show vM m 1 bytes xs.length xs id 0 l.length 1=_
     unfold vM
     rw [hk]
     show bi (Nat.beq 1 1) (bi (big (l.length+(k+1)) bytes 1) (bi (Nat.ble m.lim id) (bi (O7 xs) (BU (m.get id) _ _) none) none) none) none=_
     rw [Dv (by omega) hby,hl1',h1,q1]
     show bi (bi (Nat.beq 1 1) (bi (Nat.beq 0 0) (bi (Nat.ble l.length c) (bi (Nat.beq (k+1) 1) (Nat.beq (len' xs) 1) false) false) false) false) _ (ob (M5 1 c t (Nat.mul l.length 1) 0) fun old=>grown (m.set id .dead) 1 (Nat.add l.length (k+1)) (jl old xs))=_
     rw [show Nat.ble l.length c=true from avB q2',show Nat.beq (k+1) 1=false from avO.2 fun e=>hone (by rw [hk];exact avt e),
      show Nat.mul l.length 1=l.length from awt _,show Nat.add l.length (k+1)=(l++xs).length from by simp [hk]]
     show ob (M5 1 c t l.length 0) (fun old=>grown (m.set id .dead) 1 (l++xs).length (jl old xs))=_
     rw [hrd,O0,ak]
theorem rJ {lo bytes:Nat}{m:Mem}{v x:j5}{l xs:List j5}(hm:m.Ok)(hlim:m.lim≤lo)(hlo:lo≤m.next)(h:dz lo m v l)(hx:kH m x xs)(h1:O7 xs=true)(hb:l.length+xs.length≤100000)(hby:1≤bytes∧bytes≤1000):
  ∃v' m',(∀(s y:OF) (cf:K8) (ls:List j5) (env:T j5),s ls env=v→y ls env=x→lC 1 bytes s y cf ls env m=some [⟨v',m'⟩])∧dz lo m' v' (l++xs)∧Fr lo lo m m':=by
 obtain⟨v',m',g1,g2,g3⟩:=La hm hlim hlo h h1 hb hby
 refine⟨v',m',fun s y cf ls env hs hy=>?_,g2,g3⟩
 show ob (AM.lenOf (y ls env)) (fun n=>ob (ah m 1 n (y ls env)) fun new=>pR m 1 bytes n new (s ls env))=_
 rw [hy,hs,hx.lenOf,O0,hx.read,O0,g1]
theorem rM:∀a b:List UInt8,strEq a b=decide (a=b)
 | [],[]=>rfl
 | [],_ :: _=>rfl
 | _ :: _,[]=>rfl
 | x::a,y::b=>by
  show bi (Nat.beq x.toNat y.toNat) (strEq a b) false=_
  rw [M9,rM a b]
  by_cases h:x=y
  ·subst h;rw [if_pos rfl];simp
  ·rw [if_neg (fun e=>h (axv.1 e))];simp [h]
@[simp] theorem arF (a b:List UInt8):sEq a b=some (.bool (decide (a=b))):=by rw [← rM];rfl
@[simp] theorem arG (a b:List UInt8):sNe a b=some (.bool (!decide (a=b))):=by rw [← rM];rfl
theorem Q9 {a b:List UInt8}(h:a.length+b.length<9223372036854775808):bG a b=some (.str (a++b)):=by
 show bi (Nat.blt (Nat.add (len' a) (len' b)) 9223372036854775808) (some (j5.str (jl a b))) none=_
 rw [Q5,Q5,ak,show Nat.blt (Nat.add a.length b.length) 9223372036854775808=true from avM.mpr h];rfl
@[simp] theorem af3 (a b:List UInt8):eqStr (.str a) (.str b)=some (decide (a=b)):=by rw [← rM];rfl
section
variable {x lo hi:OF}{ls:List j5}{env:T j5}{s:List UInt8}{l h:Nat}
theorem Dw (hx:x ls env=.str s)(hl:lo ls env=.int .i64 (l:Int))(hh:hi ls env=.int .i64 (h:Int))(h1:l≤h)(h2:h≤s.length):mF x (some lo) (some hi) ls env=some (.str ((s.drop l).take (h-l))):=by
 show BI (x ls env) (fun s=>oQ (lo ls env) fun l=>oQ (hi ls env) fun h=>bi (Nat.ble l h) (bi (Nat.ble h (len' s)) (ob (takeN (Nat.sub h l) (jk l s)) fun r=>some (j5.str r)) none) none)=_
 rw [hx,Bd,hl,tC,oz,hh,tC,oz,show Nat.ble l h=true from avB h1,Q5,show Nat.ble h s.length=true from avB h2,aJ,aJ,eO,
  show Nat.sub h l=h-l from rfl,dQ _ _ (by simp;omega)];rfl
theorem Ou (hx:x ls env=.str s)(hh:hi ls env=.int .i64 (h:Int))(h2:h≤s.length):mF x none (some hi) ls env=some (.str (s.take h)):=by
 show BI (x ls env) (fun s=>oQ (hi ls env) fun h=>bi (Nat.ble 0 h) (bi (Nat.ble h (len' s)) (ob (takeN (Nat.sub h 0) (jk 0 s)) fun r=>some (j5.str r)) none) none)=_
 rw [hx,Bd,hh,tC,oz,show Nat.ble 0 h=true from avB (axp _),Q5,show Nat.ble h s.length=true from avB h2,aJ,aJ,eO,
  show Nat.sub h 0=h from rfl,awh,dQ _ _ h2];rfl
theorem GH (hx:x ls env=.str s)(hl:lo ls env=.int .i64 (l:Int))(h1:l≤s.length):mF x (some lo) none ls env=some (.str (s.drop l)):=by
 show BI (x ls env) (fun s=>oQ (lo ls env) fun l=>bi (Nat.ble l (len' s)) (bi (Nat.ble (len' s) (len' s)) (ob (takeN (Nat.sub (len' s) l) (jk l s)) fun r=>some (j5.str r)) none) none)=_
 rw [hx,Bd,hl,tC,oz,Q5,show Nat.ble l s.length=true from avB h1,show Nat.ble s.length s.length=true from avB (D5 _),aJ,aJ,eO,
  show Nat.sub s.length l=s.length-l from rfl,dQ _ _ (by simp),avQ (by simp)];rfl
theorem rO (hx:x ls env=.str s)(hl:lo ls env=.int .i64 (l:Int))(h1:l<s.length):vJ x lo ls env=some (.int .u8 (s[l].toNat:Nat)):=by
 show BI (x ls env) (fun s=>oQ (lo ls env) fun k=>ob (Ae k s) fun b=>some (j5.int .u8 b.toNat))=_
 rw [hx,Bd,hl,tC,oz,jv,U1 h1];rfl
theorem Tq {b:UInt8}{t:List UInt8}(hx:x ls env=.str (b::t))(hl:lo ls env=.int .i64 0):vJ x lo ls env=some (.int .u8 (b.toNat:Nat)):=by
 have:=rO (l:=0) hx (by simpa using hl) (by simp)
 simpa using this
end
def strs (l:List (List UInt8)):List j5:=l.map j5.str
theorem R3 (l:List (List UInt8)):(strs l).length=l.length:=by simp [strs]
theorem Bh:∀l:List (List UInt8),O7 (strs l)=true
 | []=>rfl
 | _::l=>by
  show bi true (O7 (strs l)) false=true
  rw [Bh l];rfl
theorem GI:∀l:List Int,O7 (ints l)=true
 | []=>rfl
 | _::l=>by
  show bi true (O7 (ints l)) false=true
  rw [GI l];rfl
theorem vE (a b:List (List UInt8)):strs (a++b)=strs a++strs b:=by simp [strs]
theorem vF (a b:List Int):ints (a++b)=ints a++ints b:=by simp [ints]
open Go Go.RowKit
section
variable {P:Program}{G:Mem}{ι:Inj}{m:Mem}{w w':World}
theorem zS (h:RM P G ι m w.heap)(hb:Below w.heap.size w w'):Step P G ι m w ι m w':=by
 refine⟨⟨h.ok,fun i x hx=>?_,fun i x hi hx hl=>?_,h.glim,h.limn,h.gle,h.base,h.ghas,h.glob,h.spot,h.JU fun k hk _=>hb.block k hk⟩,fun _ _=>rfl,fun _ h=>h,D5 _,rfl,fun _ _=>rfl,hb.size,fun b hb' _=>hb.block b hb',fun _ h=>.inl h,hb.os,hb.output,hb.tape⟩
 ·exact (h.blk i x hx).mono (n:=m.nm ι) (fun _ _=>rfl) (Mem.bU (fun _ h=>h) fun _ _=>rfl) fun hl=>hb.block _ (dx (h.blk i x hx) hl)
 ·have ho:=h.own i x hi hx hl
  refine⟨ho.alone,fun c e fz hc=>?_⟩
  rw [hb.block _ (dx (h.blk i x hx) hl)] at hc
  exact ho.free c e fz hc
theorem Ov (h:RM P G ι m w.heap)(hb:Below w.heap.size w w')(b:Blk)(l:Loc)(hv:iV b=false)(hA:w.heap.size≤l.b)
  (hblk:fT P (ι.upd m.next l) ((m.new b).nm (ι.upd m.next l)) w'.heap l b)
  (hfree:aV b=true→∀c e fz,w'.heap[l.b]?=some (.cells c e fz)→∀k,k<c.size→¬ (fz.1≤k∧k<fz.2)) (hspot:aV b=true→l.spot=none):
  Step P G ι m w (ι.upd m.next l) (m.new b) w':=by
 have s1:=zS h hb
 have s2:=s1.trans (AX s1.rm)
 have hget:=Mem.T9 h.ok .void
 have hvoid:(m.new .void).get m.next=some .void:=by rw [hget,if_pos rfl]
 have s3:=s2.rename (ι2:=ι.upd m.next l) fun i ⟨x,hx,hxv⟩=>ι.upd_ne l fun e=>by
  subst e
  rw [hvoid] at hx;cases hx;cases hxv
 have e:(m.new .void).set m.next b=m.new b:=Mem.KV h.ok .void b
 have s4:=s3.add (id:=m.next) (b:=b) hvoid h.limn ⟨by rw [e,ι.V8];exact hblk,hv,fun hl j y hj hy hly=>?_,fun hl c e' fz hc=>?_,fun hl=>by rw [ι.V8];exact hspot hl⟩ (fun _=>by rw [ι.V8];exact hA)
 ·rw [e] at s4;exact s4
 ·rw [hget,if_neg hj] at hy
  rw [ι.V8,ι.upd_ne l hj]
  have:=dx (h.blk j y hy) hly
  omega
 ·rw [ι.V8] at hc
  exact hfree hl c e' fz hc
end
section
variable {P:Program}{G:Mem}
theorem Dx {f:FuncId}{args:List j5}{v:j5}(hans:Cc (layAll [] G).next ⟨v,P7 G []⟩=some ⟨v,[]⟩)(hlt:∀n:Nm,v.lt n)(hcv:∀ι ι',H6 ι v=H6 ι' v)
  (hc:∀(ι:Inj) (w:World),RM P G ι (P7 G []) w.heap→Calls P f (H8 ι args).toArray w fun e w'=>e=.returned (H6 ι v)∧Below w.heap.size w w'):oM P G f args [] ⟨v,[]⟩:=by
 intro ι w hm hargs
 refine callsIn_wide.2 ((hc ι w hm).mono ?_)
 rintro e w' ⟨rfl,hb⟩
 exact⟨ι,⟨v,P7 G []⟩,zS hm hb,hlt _,rfl,hans⟩
theorem Fx {f:FuncId}{args:List j5}{v:j5}{nb:NB}(hans:Cc (layAll [] G).next ⟨v,(P7 G []).new (eD nb)⟩=some ⟨v,[nb]⟩)
  (hc:∀(ι:Inj) (w:World),RM P G ι (P7 G []) w.heap→Calls P f (H8 ι args).toArray w fun e w'=>∃l:Loc,e=.returned (H6 (ι.upd G.next l) v)∧Below w.heap.size w w'∧w.heap.size≤l.b∧
   v.lt (((P7 G []).new (eD nb)).nm (ι.upd G.next l))∧fT P (ι.upd G.next l) (((P7 G []).new (eD nb)).nm (ι.upd G.next l)) w'.heap l (eD nb)∧
   (aV (eD nb)=true→(∀c e fz,w'.heap[l.b]?=some (.cells c e fz)→∀k,k<c.size→¬ (fz.1≤k∧k<fz.2))∧l.spot=none)):oM P G f args [] ⟨v,[nb]⟩:=by
 intro ι w hm hargs
 refine callsIn_wide.2 ((hc ι w hm).mono ?_)
 rintro e w' ⟨l,rfl,hb,hA,hlt,hblk,hfs⟩
 have hn:(P7 G []).next=G.next:=rfl
 exact⟨ι.upd G.next l,⟨v,(P7 G []).new (eD nb)⟩,Ov hm hb (eD nb) l (sW nb) hA hblk (fun hl=>(hfs hl).1) (fun hl=>(hfs hl).2),hlt,rfl,hans⟩
end
end Go.AM
namespace Go.AM
open Go Go.RowKit
noncomputable section
theorem IV (rs:Nat)(rows:List (List j5)):Eo (.cells rs (len' rows) (T.ofList rows))=some (.cells rs rows):=by
 show ob ((T.ofList rows).slice (len' rows) 0) (fun l=>some (NB.cells rs l))=_
 rw [Q5,uO];rfl
theorem IW (m:Mem)(lo n:Nat)(seen:List (Nat×NB)):reach m lo (n+1) [] seen=some seen.reverse:=rfl
theorem Dy {m:Mem}{lo i:Nat}{b:Blk}{nb:NB}(h:m.get i=some b)(hb:Eo b=some nb)(hi:Qa lo nb=[])(n:Nat):reach m lo (n+2) [i] []=some [(i,nb)]:=by
 show bi (HV i []) (reach m lo (n+1) [] []) (ob (m.get i) fun b=>ob (Eo b) fun nb=>reach m lo (n+1) (Qa lo nb ++ []) [(i,nb)])=_
 rw [h,O0,hb,O0,hi];rfl
theorem GJ (lo:Nat):∀ws:List (List UInt8),Qa lo (.cells 1 (ws.map fun w=>[j5.str w]))=[]
 | []=>rfl
 | w::ws=>by
  show BL lo [j5.str w]++Qa lo (.cells 1 (ws.map fun w=>[j5.str w]))=[]
  rw [GJ lo ws];rfl
theorem Bj (r:Nat→Option Nat):∀ws:List (List UInt8),oL r (ws.map fun w=>[j5.str w])=some (ws.map fun w=>[j5.str w])
 | []=>rfl
 | w::ws=>by
  show ob (uh r [j5.str w]) (fun x=>ob (oL r (ws.map fun w=>[j5.str w])) fun y=>some (x::y))=_
  rw [Bj r ws];rfl
theorem Dz (lo:Nat):Eh lo [lo] lo=some lo:=by
 show bi (Nat.ble lo lo) (bi (Nat.beq lo lo) (some lo) none) _=_
 rw [show Nat.ble lo lo=true from avB (D5 _),show Nat.beq lo lo=true from awU lo];rfl
section
variable {G:Mem}
theorem Ow (hG:T.Ok G.t G.next)(ws:List (List UInt8))(n c:Nat):Cc (layAll [] G).next ⟨.slice G.next 0 n c,(P7 G []).new (eD (.cells 1 (ws.map fun w=>[j5.str w])))⟩=some ⟨.slice G.next 0 n c,[.cells 1 (ws.map fun w=>[j5.str w])]⟩:=by
 have hg:((P7 G []).new (eD (.cells 1 (ws.map fun w=>[j5.str w])))).get G.next=some (.cells 1 (len' (ws.map fun w=>[j5.str w])) (T.ofList (ws.map fun w=>[j5.str w]))):=by
  rw [Mem.T9 (m:=P7 G []) hG];exact if_pos rfl
 have hr:=Dy (lo:=G.next) hg (IV 1 _) (GJ G.next ws) 99998
 have hi:BL G.next [j5.slice G.next 0 n c]=[G.next]:=by
  show bi (Nat.ble G.next G.next) [G.next] [] ++ []=_
  rw [show Nat.ble G.next G.next=true from avB (D5 _)];rfl
 have hc:gT G.next [j5.slice G.next 0 n c] ((P7 G []).new (eD (.cells 1 (ws.map fun w=>[j5.str w]))))=some ⟨[G.next],[.slice G.next 0 n c],[.cells 1 (ws.map fun w=>[j5.str w])]⟩:=by
  show ob (reach _ G.next (99998+2) (BL G.next _) []) _=_
  rw [hi,hr]
  show ob (ob (ob (Eh G.next [G.next] G.next) fun j=>some (j5.slice j 0 n c)) fun x=>ob (some []) fun y=>some (x::y)) (fun xs=>ob (ob (ob (oL (Eh G.next [G.next]) (ws.map fun w=>[j5.str w])) fun x=>some (NB.cells 1 x)) fun x=>ob (some []) fun y=>some (x::y)) fun bs=>some (⟨[G.next],xs,bs⟩:CO))=_
  rw [Dz,Bj];rfl
 show ob (gT G.next [j5.slice G.next 0 n c] _) _=_
 rw [hc];rfl
theorem GK (hG:T.Ok G.t G.next)(k:Int)(t:TypeId):Cc (layAll [] G).next ⟨.tuple [.int .i64 k,.iface t (.ptr G.next 0)],(P7 G []).new .dead⟩=some ⟨.tuple [.int .i64 k,.iface t (.ptr G.next 0)],[.dead]⟩:=by
 have hg:((P7 G []).new .dead).get G.next=some .dead:=by
  rw [Mem.T9 (m:=P7 G []) hG];exact if_pos rfl
 have hr:=Dy (lo:=G.next) hg (nb:=.dead) rfl rfl 99998
 have hi:BL G.next [j5.tuple [.int .i64 k,.iface t (.ptr G.next 0)]]=[G.next]:=by
  show ([]++(bi (Nat.ble G.next G.next) [G.next] [] ++ [])) ++ []=_
  rw [show Nat.ble G.next G.next=true from avB (D5 _)];rfl
 have hc:gT G.next [j5.tuple [.int .i64 k,.iface t (.ptr G.next 0)]] ((P7 G []).new .dead)=some ⟨[G.next],[.tuple [.int .i64 k,.iface t (.ptr G.next 0)]],[.dead]⟩:=by
  show ob (reach _ G.next (99998+2) (BL G.next _) []) _=_
  rw [hi,hr]
  show ob (ob (ob (ob (some (j5.int .i64 k)) fun x=>ob (ob (ob (ob (Eh G.next [G.next] G.next) fun j=>some (j5.ptr j 0)) fun x=>some (j5.iface t x)) fun x=>ob (some []) fun y=>some (x::y)) fun y=>some (x::y)) fun x=>some (j5.tuple x)) fun x=>ob (some []) fun y=>some (x::y)) (fun xs=>ob (some [NB.dead]) fun bs=>some (⟨[G.next],xs,bs⟩:CO))=_
  rw [Dz];rfl
 show ob (gT G.next _ _) _=_
 rw [hc];rfl
end
theorem oC {lo:Nat}{v:j5}(m:Mem)(h1:BL lo [v]=[])(h2:∀r,uh r [v]=some [v]):gT lo [v] m=some ⟨[],[v],[]⟩:=by
 show ob (reach m lo (99999+1) (BL lo [v]) []) _=_
 rw [h1,IW]
 show ob (uh (Eh lo []) [v]) (fun xs=>ob (some []) fun bs=>some (⟨[],xs,bs⟩:CO))=_
 rw [h2];rfl
theorem Fy {K:Known}{cf:K8}{fuel:Nat}{f:FuncId}{sf:SFn}{args:List j5}{m:Mem}{c:CO}{a:Ans}(hc:gT K.base.next args m=some c)(ha:K.sum f c.vs c.bs=some a):
  qD K cf fuel f sf args m=ob (kQ (fC K.base.next c.ids m.next) a.v) fun v=>ob (uV (fC K.base.next c.ids m.next) a.bs) fun bs=>one v (layAll bs m):=by
 show ob (gT K.base.next args m) (fun c=>ob (Ci K cf fuel f sf c.vs c.bs) fun a=>ob (kQ (fC K.base.next c.ids m.next) a.v) fun v=>ob (uV (fC K.base.next c.ids m.next) a.bs) fun bs=>one v (layAll bs m))=_
 rw [hc,O0]
 have e:Ci K cf fuel f sf c.vs c.bs=some a:=by unfold Ci;rw [ha]
 rw [e,O0]
theorem zT (g next:Nat):fC g [] next g=some next:=by
 show bi (Nat.blt g g) (some g) (bi (Nat.blt (g-g) 0) (Ae (g-g) []) (some (next+(g-g-0))))=_
 rw [show Nat.blt g g=false from avO.2 fun e=>absurd (avM.mp e) (awX _),Nat.sub_self];rfl
open Go
section
variable (cf:K8)(fu:Nat)(ls:List j5)(env:T j5)(m:Mem)(k:List Mk)
@[simp] theorem aa5 (x:OF):vN x cf ls env m=aed (x ls env) m:=id rfl
@[simp] theorem YT (t:TypeId)(v:j5):aed (.iface t v) m=some [⟨.pan (.iface t v),m⟩]:=id rfl
@[simp] theorem YU (x:j5):kP k ⟨env,m,some x,[]⟩=some [⟨.ret,env,m,k,some x⟩]:=id rfl
@[simp] theorem YV (x:Mk):kP k ⟨env,m,none,[x]⟩=some [⟨.normal,env,m,x::k,none⟩]:=id rfl
@[simp] theorem aa6 (dcf:jP)(rs:List vI)(x:j5):leave dcf rs ⟨.ret,env,m,[],some x⟩=some [⟨.pan x,m⟩]:=id rfl
@[simp] theorem Tt:jm .nilIface .nilIface=some true:=id rfl
@[simp] theorem Qu (t:TypeId)(v:j5):jm (.iface t v) .nilIface=some false:=id rfl
@[simp] theorem aa7 (r:RC):Ca r cf fu none env m k=bnd (r cf [] env m) (kP k):=id rfl
@[simp] theorem af4 (g:OF)(args:List OF):Hy g args cf ls env m=PG (g ls env) fun fn a b=>some [⟨env,m,none,[.d (.func fn a b) (evs args ls env)]⟩]:=id rfl
def behind (rs:List vI)(env:T j5)(r:Mem×Option j5):vK:=vP rs env r.2 r.1
theorem Lb (dcf:jP)(rs:List vI)(f:FuncId)(a b args:List j5)(pv:Option j5):leave dcf rs ⟨.ret,env,m,[.d (.func (.func f) a b) args],pv⟩=bnd (dcf f (a++(args++b)) pv m) (behind rs env):=by
 show bnd (dcf f (jl a (jl args b)) pv m) (behind rs env)=_
 rw [ak,ak]
@[simp] theorem aa8 (rs:List vI):behind rs env (m,none)=ob (results rs env m) fun l=>some [⟨result l,m⟩]:=id rfl
def aa9 (b:bF)(r:RU):Option (List RU):=match r.o.x with
 | .normal=>match r.o.marks with
  | []=>dEv b cf fu r.o.env r.o.m r.md
  | _=>none
 | _=>some [r]
variable (md:Option j5)
theorem Lc (a b:bF):dEv (.seq a b) cf fu env m md=bnd (dEv a cf fu env m md) (aa9 cf fu b):=rfl
theorem GL (c:Opd)(a b:bF):dEv (.cond c a b) cf fu env m md=pK (trO c [] env) fun t=>bi t (dEv a cf fu env m md) (dEv b cf fu env m md):=rfl
def aac (r:EM×Option j5):Option (List RU):=some [⟨⟨.normal,r.1.env,r.1.m,[],none⟩,r.2⟩]
def Ox (md:Option j5)(o:Out):Option (List RU):=some [⟨o,md⟩]
theorem GN {ops:List Inst}(h:Ce ops=true):dEv (.reg ops) cf fu env m md=bnd (Cg ops cf [] env m md) aac:=by
 simp only [dEv,h];rfl
theorem rP {ops:List Inst}(h:Ce ops=false):dEv (.reg ops) cf fu env m md=bnd (trC (.reg ops) cf fu none env m []) (Ox md):=by
 simp only [dEv,h];rfl
theorem GQ:dEv .skip cf fu env m md=bnd (trC .skip cf fu none env m []) (Ox md):=rfl
@[simp] theorem af5 (b:bF):aa9 cf fu b ⟨⟨.normal,env,m,[],none⟩,md⟩=dEv b cf fu env m md:=id rfl
@[simp] theorem agd (o:Out):Ox md o=some [⟨o,md⟩]:=id rfl
@[simp] theorem af6 (e:EM):aac (e,md)=some [⟨⟨.normal,e.env,e.m,[],none⟩,md⟩]:=id rfl
theorem DF:JK [] ⟨⟨.normal,env,m,[],none⟩,md⟩=some [(m,md)]:=rfl
end
theorem Ld {x:OF}{c:Nat}{d:j5→T j5→T j5}{k:DC}{cf:K8}{b:Nat}{ls:List j5}{env:T j5}{m:Mem}{gs:List Mem}{id off len cp:Nat}(hx:x ls env=.slice id off len cp)(hv:isVoid ((hd m gs).get id)=true)(hc:isCells (m.get id)=true):
  Yp x c d k cf b ls env m gs=ob (aM x ls env m) fun v=>k cf b (v::ls) (d v env) m gs:=by
 unfold Yp
 rw [hx]
 show bi (isVoid ((hd m gs).get id)) (bi (isCells (m.get id)) _ none) _=_
 rw [hv,hc];rfl
def Le (P:Program)(slots:List Nat)(ops:Array Oper):Option bF:=
 match jQ P slots ops [] (canon (HZ ops) (masks ops.toList) ops.size) with
 | none=>none
 | some insts=>some (.dreg (Er insts) (numbered (masks ops.toList) ((canon (HZ ops) (masks ops.toList) ops.size).zip insts) [] 0))
theorem Lf {P:Program}{slots:List Nat}{ops:Array Oper}{c:bF}(h:Cj P slots ops=some c):Le P slots ops=some c:=by
 unfold Cj at h
 unfold Le
 split at h
 ·cases h
 ·rename_i insts hi
  rw [hi]
  split at h
  ·exact h
  ·cases h
def jF (P:Program)(slots:List Nat):Code→Option bF
 | .skip=>some .skip
 | .region _ ops false=>match jQ P slots ops [] (List.range ops.size) with
  | some l=>some (.reg l)
  | none=>none
 | .region _ ops true=>Le P slots ops
 | .seq a b=>match jF P slots a,jF P slots b with
  | some x,some y=>some (.seq x y)
  | _,_=>none
 | .cond c a b=>match bK P slots [] c,jF P slots a,jF P slots b with
  | some z,some x,some y=>some (.cond z x y)
  | _,_,_=>none
 | .block id a=>match jF P slots a with
  | some x=>some (.block id x)
  | none=>none
 | .loop a=>match jF P slots a with
  | some x=>some (.loop x)
  | none=>none
 | .exit id=>some (.exit id)
 | .ret=>some .ret
 | .rangeFunc f ps a b=>match bK P slots [] f,jF P slots a,jF P slots b with
  | some z,some x,some y=>some (.rangeFunc z (ps.toList.map fun t=>idxOf t slots 0) x y)
  | _,_,_=>none
 | _=>none
theorem gG {P:Program}{slots:List Nat}:∀(k:Code) {c:bF},aI P slots k=some c→jF P slots k=some c
 | .skip,_,h=>h
 | .region _ _ false,_,h=>h
 | .region _ _ true,_,h=>Lf h
 | .seq a b,c,h=>by
  unfold aI at h
  split at h
  ·rename_i x y hx hy
   unfold jF
   rw [gG a hx,gG b hy];exact h
  ·cases h
 | .cond z a b,c,h=>by
  unfold aI at h
  split at h
  ·rename_i w x y hw hx hy
   unfold jF
   rw [hw,gG a hx,gG b hy];exact h
  ·cases h
 | .block _ a,c,h=>by
  unfold aI at h
  split at h
  ·rename_i x hx
   unfold jF
   rw [gG a hx];exact h
  ·cases h
 | .loop a,c,h=>by
  unfold aI at h
  split at h
  ·rename_i x hx
   unfold jF
   rw [gG a hx];exact h
  ·cases h
 | .rangeFunc z _ a b,c,h=>by
  unfold aI at h
  split at h
  ·rename_i w x y hw hx hy
   unfold jF
   rw [hw,gG a hx,gG b hy];exact h
  ·cases h
 | .exit _,_,h=>h
 | .ret,_,h=>h
 | .scope _,_,h=>by cases h
 | .label _,_,h=>by cases h
 | .goto _,_,h=>by cases h
 | .refuse _,_,h=>by cases h
def agf (P:Program)(slots:List Nat)(f:FuncId):Option AFn:=
 match P.funcs[f]? with
 | none=>none
 | some fn=>match fn.body with
  | none=>none
  | some c=>match jF P slots c,Jr P slots fn.results.toList with
   | some b,some r=>some ⟨fn.params.size+fn.nfree,(List.range (fn.params.size+fn.nfree)).map fun t=>idxOf t slots 0,slots.length,r,b⟩
   | _,_=>none
theorem Tv {P:Program}{slots:List Nat}{f:FuncId}{a:AFn}(h:cFn P slots f=some a):agf P slots f=some a:=by
 unfold cFn at h
 unfold agf
 split at h
 ·cases h
 ·rename_i fn hf
  rw [hf]
  split at h
  ·cases h
  ·rename_i c hc
   simp only [hc]
   split at h
   ·rename_i b r hb hr
    rw [gG _ hb,hr]
    split at h
    ·exact h
    ·cases h
   ·cases h
def cT (P:Program)(slots:List Nat)(pure rc:Bool)(f:FuncId):SFn:=Yu pure rc ((agf P slots f).getD ⟨0,[],0,[],.skip⟩)
theorem Tw {P:Program}{slots:List Nat}{f:FuncId}{pure rc:Bool}(h:(cFn P slots f).isSome=true):xJ P f (cT P slots pure rc f):=by
 obtain⟨a,ha⟩:=Option.isSome_iff_exists.1 h
 have:cT P slots pure rc f=Yu pure rc a:=by unfold cT;rw [Tv ha];rfl
 rw [this]
 exact KP ha pure rc
end
end Go.AM
