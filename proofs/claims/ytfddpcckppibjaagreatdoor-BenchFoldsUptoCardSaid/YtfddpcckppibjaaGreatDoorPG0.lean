/- The row of BenchFolds in the evaluator's words; conditions: the row's own. -/
import Derived.Test.YtfddpcckppibjaaGreatDoorPD7
import Derived.Test.YtfddpcckppibjaaGreatDoorPC7
import Derived.Test.YtfddpcckppibjaaGreatDoorPR2
import Derived.Lib.AppendIntMem
import Derived.OpenShut
import Derived.ProofKit
import Derived.LaidMore
import Derived.ChangeSame
import Derived.Carry
import Derived.Below
import Derived.Test.YtfddpcckppibjaaGreatDoorRows
set_option linter.all false
namespace Go.Proofs.YtfddpcckppibjaaGreatDoor.TT
open Go Go.AM Go.RowKit
set_option maxRecDepth 100000
section
variable {P:Program}{G:Mem}{ι:J9}{m:Mem}{w:World}
theorem agc {n:String}{g:Nat}{cs:Array Value}{e:TypeId}{a:Nat×Nat}(b:P.globalNamed n=some g)(h:w.heap[g]?=some (.cells cs e a)):w.var? P n=some cs:=by unfold World.var?;rw [b];simp [h]
theorem aci (b:RM P G ι m w.heap){i:Nat}{k:IntKind}{ns:List Int}(f:i<P.globals.size)(l:G.get i=some (.cells ns.length 1 (T.ofList [ns.map (d9.int k)]))):
  ∃e fz,w.heap[i]?=some (.cells (ns.map (Value.int k)).toArray e fz):=by
 obtain⟨c,e,fz,n,y,_,s⟩:=b.blk i _ ((b.base i (gq f b.gle)).trans l);obtain⟨q,r,x⟩:=b.glob i f;obtain⟨u,v,p,a,z⟩:=b.gsz i _ _ _ f l;rw [q,a] at n;cases n;obtain⟨g,o,A,B,t⟩:=s 0 (by omega);have d:g=ns.map (d9.int k):=by rw [T.aD] at o;simpa using o.symm
 subst d;suffices h:c=(ns.map (Value.int k)).toArray by rw [h] at a;exact⟨_,_,a⟩
 apply ad5;intro j;by_cases hj:j<ns.length;have:=t j hj;rw [r,ad4,aaF,aaF] at this;rw [this];simp [hj,o8];rw [aeO (by omega),aeO (by simp;omega)]
theorem agd (c:RM P G ι m w.heap){i:Nat}{n:String}{k:IntKind}{ns:List Int}(d:P.globalNamed n=some i)(b:i<P.globals.size)(a:G.get i=some (.cells ns.length 1 (T.ofList [ns.map (d9.int k)]))):Lib.TabIs P w n k ns:=by obtain⟨e,f,h⟩:=aci c b a;exact agc d h
theorem LW {v:d9}(n:Nat)(a:xO n [v]=[])(b:∀r,kV r [v]=some [v])(m:Mem):BO n ⟨v,m⟩=some ⟨v,[]⟩:=by show ob (lQ n [v] m) _=_;rw [QB m a b];rfl
end
section
variable {ι:J9}{w:World}
theorem Pb:Tryz.prog.globals.size=11:=by kernel_rfl
end
theorem gnP:Tryz.prog.globalNamed "internal/strconv.uint64pow10"=some 4:=by kernel_rfl
theorem arH {ι:J9}{w:World}(a:RM Tryz.prog base ι (V8 base []) w.heap):Lib.TabIs Tryz.prog w "internal/strconv.uint64pow10" .u64 Lib.pow10Tab:=by have h:=agd (ns:=nsP) (k:=.u64) a gnP (by rw [Pb];omega) rfl;rw [show Lib.pow10Tab=nsP by decide +kernel];exact h
theorem YZ (n:Int)(h0:0<=n)(a:n<=9223372036854775807):kF Tryz.prog base 230 [.int .i64 n] [] ⟨.str (Lib.itoa n),[]⟩:=
 rD (LW _ rfl (λ_=>rfl) _) (λ_=>trivial) (λ_ _=>by simp [o8]) λι w b=>by refine aho (Tryz.strconv_Itoa n (by omega) a w (arH b)) ?_;rintro e w' ⟨rfl,k,os,rfl⟩;exact⟨by simp [o8],Lib.below_grow _ w (q9 _) k os⟩
theorem acj {f:FuncId}{args:List d9}{d:List NB}{a:CX}(h:aeV f args d=some a):kF Tryz.prog base f args d a:=by unfold aeV at h;split at h;split at h;split at h;rename_i b;subst b;cases h;exact Lc (λs c w=>Tryz.strings_Contains_one s c w) _ _;cases h;split at h;rename_i b;obtain⟨rfl,e,g⟩:=b;cases h;exact YZ _ e g;cases h;cases h;cases h
theorem acn:∀f args bs a,KW.sum f args bs=some a->kF Tryz.prog base f args bs a:=by
 intro f args bs a h;have h:XL f args bs=some a:=h;unfold XL at h;split at h;have c:∀s∈[qS],kF Tryz.prog base s.f s.args s.bs s.a:=λs d=>by rcases aP.1 d with rfl;exact qoS
 exact yB [qS] c _ _ _ _ h;split at h;rename_i b;subst b;exact Sr (show XI 183 args bs=some a from h);exact acj h
theorem al0:WZ Tryz.prog KW:=by
 refine⟨mixed,λf sf h=>?_,⟨DJ,wC⟩,acn,λ{f args m outs} h=>?_⟩;have h:(fns f).map (λsf=>{sf with pure:=Sv f})=some sf:=h;cases hf:fns f with
 | none=>rw [hf] at h;cases h
 | some s0=>rw [hf] at h;cases h;exact Jy (QH f s0 hf) _
 exact Sq ⟨DJ,wC⟩ mixed (show aaP f args m=some outs from h)
end Go.Proofs.YtfddpcckppibjaaGreatDoor.TT
namespace Go.AM
open Go
set_option linter.unusedVariables false
def fdT (P:Program)(t:TypeId):Option (List TypeId):=match P.underlying t with
 | some (.struct fs)=>some (fs.toList.map (·.type))
 | _=>none
def slT (P:Program)(t:TypeId):Option TypeId:=match P.underlying t with
 | some (.slice e)=>some e
 | _=>none
def inT (P:Program)(t:TypeId):Option IntKind:=match P.underlying t with
 | some (.int k)=>some k
 | _=>none
def Ri (S:TypeId->Nat->List d9->Prop):List TypeId->Nat->List d9->Prop
 | [],b,vs=>vs=[]∧1<=b
 | t::ts,b,vs=>∃a c b1 b2,vs=a++c∧S t b1 a∧Ri S ts b2 c∧b1+b2<=b
theorem JL {S:TypeId->Nat->List d9->Prop}:∀fs b vs,vF S fs b vs->Ri S (fs.map (·.type)) b vs
 | [],_,_,h=>h
 | _::fs,_,_,⟨a,c,b1,b2,h1,h2,h3,h4⟩=>⟨a,c,b1,b2,h1,h2,JL fs b2 c h3,h4⟩
section
variable {P:Program}{m:Mem}{n:Nat}{t:TypeId}{b:Nat}{vs:List d9}
theorem CF {ts:List TypeId}(h:fdT P t=some ts)(hs:je P m (n+1) t b vs):Ri (je P m n) ts b vs:=by unfold je at hs;unfold fdT at h;split at h;rename_i c a;rw [a] at hs;cases h;exact JL _ _ _ hs;cases h
theorem Gs {k:IntKind}(h:inT P t=some k)(hs:je P m n t b vs):∃i,vs=[.int k i]:=by
 cases n with
 | zero=>exact hs.elim
 | succ n=>unfold je at hs;unfold inT at h;split at h;rename_i c a;rw [a] at hs;cases h;exact⟨_,hs.choose_spec.1⟩;cases h
theorem Pd (h:(match P.underlying t with | some .string=>true | _=>false)=true)(hs:je P m n t b vs):∃s:List UInt8,vs=[.str s]∧s.length+1<=b:=by
 cases n with
 | zero=>exact hs.elim
 | succ n=>unfold je at hs;split at h;rename_i a;rw [a] at hs;exact hs;cases h
theorem JM {α:Type}{At:α->List d9->Prop}{Rw:List α->List (List d9)->Prop}{Bd:α->Nat->Prop}{Bds:List α->Nat->Prop}(hm:m.Ok)
  (s:Rw [] []) (G:∀e es r rs,At e r->Rw es rs->Rw (e::es) (r::rs)) (b0:Bds [] 0) (u:∀e es b c,Bd e b->Bds es c->Bds (e::es) (b+c))
  {e:TypeId} {rs:Nat} (h:slT P t=some e) (C:P.cellsOf e=rs) (F:∀b row,je P m n e b row->∃x,At x row∧Bd x b) (hs:je P m (n+1) t b vs):
  ∃v l rl c,vs=[v]∧eD m (λ_=>True) rs v rl∧Rw l rl∧Bds l c∧c<=b:=by
 unfold je at hs;unfold slT at h;split at h;rename_i H E;rw [E] at hs;cases h;subst C;rcases hs with rfl | ⟨id,len,cap,rfl,hl,⟨rfl,hd⟩ | ⟨rows,bs,h1,h2,h3,h4⟩⟩;exact⟨_,[],[],0,rfl,.inl ⟨rfl,rfl⟩,s,b0,ahg _⟩;obtain rfl:len=0:=by omega
 exact⟨_,[],[],0,rfl,.inr ⟨id,0,trivial,.inl ⟨0,by simp,by simp⟩,Mem.J5 hm hd,.inl rfl⟩,s,b0,ahg _⟩;have d:∀k j,j+k=len->∃(l:List α) (rl:List (List d9)),rl.length=k∧(∀r,r∈rl->r.length=P.cellsOf e)∧(∀i (h:i<rl.length),rows.get (j+i)=some rl[i])∧Rw l rl∧Bds l (Ux bs j k):=by
  intro k;induction k with
  | zero=>exact λj _=>⟨[],[],rfl,(by intro r a;cases a),(λi h=>absurd h (Nat.not_lt_zero _)),s,b0⟩
  | succ k ihk=>
   intro j I;obtain⟨l,rl,f,g,o,p,q⟩:=ihk (j+1) (by omega);obtain⟨row,w,y,z⟩:=h4 j (by omega);obtain⟨x,A,B⟩:=F _ _ (z (by omega));refine⟨x::l,row::rl,by simp [f],?_,?_,G _ _ _ _ A p,u _ _ _ _ B q⟩;intro r a;rcases Z5.1 a with rfl | a;exact y;exact g r a;intro i D;cases i with
   | zero=>exact w
   | succ i=>have:=o i (by simpa using D);rw [ahh,← this];congr 1;omega
 obtain⟨l,rl,f,g,o,p,q⟩:=d len 0 (by omega);refine⟨_,l,rl,_,rfl,.inr ⟨id,0,trivial,.inl ⟨cap,by rw [f,ad4],by omega⟩,Mem.J5 hm h2,.inr ⟨cap,rows,h2,by omega,g,o⟩⟩,p,q,by omega⟩;cases h
end
end Go.AM
namespace Go.Proofs.YtfddpcckppibjaaGreatDoor.TT
open Go Go.AM
set_option linter.unusedVariables false
structure adB (P:Program)(tI tS tE tEs tT tTs:TypeId):Prop where
 i:inT P tI=some .i64
 s:(match P.underlying tS with | some .string=>true | _=>false)=true
 e:fdT P tE=some [tI,tI,tS,tEs]
 es:slT P tEs=some tE
 t:fdT P tT=some [tI,tS,tEs,tTs,tTs]
 ts:slT P tTs=some tT
 ce:P.cellsOf tE=4
 ct:P.cellsOf tT=5
theorem Tj:∀l:List Ex,l.length<=T9 l
 | []=>q9 0
 | .mk _ _ _ a::l=>by rw [Y6,T9,gM];have:=Tj l;omega
section
variable {P:Program}{m:Mem}{tI tS tE tEs tT tTs:TypeId}(L:adB P tI tS tE tEs tT tTs)(hm:m.Ok)
include L hm
theorem Za:∀n,(∀b row,je P m n tE b row->∃x,R7 m (λ_=>True) x row∧gM x<=b)∧(∀b vs,je P m n tEs b vs->∃v l,vs=[v]∧fB m (λ_=>True) l v∧T9 l<=b)
 | 0=>⟨λ_ _ h=>h.elim,λ_ _ h=>h.elim⟩
 | n+1=>by obtain⟨i1,i2⟩:=Za n;refine⟨λb row h=>?_,λb vs h=>?_⟩;obtain⟨a1,c1,x1,y1,rfl,s1,⟨a2,c2,x2,y2,rfl,s2,⟨a3,c3,x3,y3,rfl,s3,⟨a4,c4,x4,y4,rfl,s4,⟨rfl,h5⟩,h4⟩,h3⟩,h2⟩,h1⟩:=CF L.e h;obtain⟨k,rfl⟩:=Gs L.i s1;obtain⟨k2,rfl⟩:=Gs L.i s2;obtain⟨s,rfl,hs⟩:=Pd L.s s3;obtain⟨v,l,rfl,⟨rows,q1,q2⟩,q3⟩:=i2 _ _ s4;exact⟨.mk k k2 s l,⟨v,rows,rfl,q1,q2⟩,by rw [gM];omega⟩;obtain⟨v,l,rl,c,rfl,q1,q2,q3,q4⟩:=JM (At:=λe r=>R7 m (λ_=>True) e r) (Rw:=λl r=>A9 m (λ_=>True) l r) (Bd:=λe b=>gM e<=b) (Bds:=λl b=>T9 l<=b) hm rfl (λe es r rs h1 h2=>⟨r,rs,rfl,h1,h2⟩) (q9 0) (λe es b c h1 h2=>by rw [T9];omega) L.es L.ce i1 h;exact⟨v,l,rfl,⟨rl,q1,q2⟩,by omega⟩
theorem Zb:∀n,(∀b row,je P m n tT b row->∃x,ig m (λ_=>True) x row∧stP x<=b∧vC x<=1300*b)∧(∀b vs,je P m n tTs b vs->∃v l,vs=[v]∧O4 m (λ_=>True) l v∧U2 l<=b∧uj l<=1300*b)
 | 0=>⟨λ_ _ h=>h.elim,λ_ _ h=>h.elim⟩
 | n+1=>by obtain⟨i1,i2⟩:=Zb n;refine⟨λb row h=>?_,λb vs h=>?_⟩;obtain⟨a1,c1,x1,y1,rfl,s1,⟨a2,c2,x2,y2,rfl,s2,⟨a3,c3,x3,y3,rfl,s3,⟨a4,c4,x4,y4,rfl,s4,⟨a5,c5,x5,y5,rfl,s5,⟨rfl,h6⟩,h5⟩,h4⟩,h3⟩,h2⟩,h1⟩:=CF L.t h;obtain⟨k,rfl⟩:=Gs L.i s1;obtain⟨s,rfl,hs⟩:=Pd L.s s2;obtain⟨ve,le,rfl,⟨re,e1,e2⟩,e3⟩:=(Za L hm n).2 _ _ s3;obtain⟨vt,lt,rfl,⟨rt,t1,t2⟩,t3,t4⟩:=i2 _ _ s4;obtain⟨vf,lf,rfl,⟨rf,f1,f2⟩,f3,f4⟩:=i2 _ _ s5;have hl:=Tj le;exact⟨.mk k s le lt lf,⟨ve,vt,vf,re,rt,rf,rfl,e1,e2,t1,t2,f1,f2⟩,by rw [stP];omega,by rw [vC];omega⟩;obtain⟨v,l,rl,c,rfl,q1,q2,⟨q3,q5⟩,q4⟩:=JM (At:=λe r=>ig m (λ_=>True) e r) (Rw:=λl r=>H6 m (λ_=>True) l r) (Bd:=λe b=>stP e<=b∧vC e<=1300*b) (Bds:=λl b=>U2 l<=b∧uj l<=1300*b) hm rfl (λe es r rs h1 h2=>⟨r,rs,rfl,h1,h2⟩) ⟨q9 0,q9 0⟩ (λe es b c h1 h2=>by rw [U2,uj];omega) L.ts L.ct i1 h;exact⟨v,l,rfl,⟨rl,q1,q2⟩,by omega,by omega⟩
end
open Go Go.AM Go.RowKit
set_option maxRecDepth 100000
theorem Gt {w:World}{b o:Nat}{v:Value}(h:w.cell? ⟨b,o,none⟩=some v):∃c e fz,w.heap[b]?=some (Obj.cells c e fz)∧c[o]?=some v:=by unfold World.cell? at h;split at h;rename_i c e fz a;exact⟨c,e,fz,a,by simpa using h⟩;cases h
theorem nQ {P:Program}{ι:J9}{n:Nm}{w:World}{l:AM.Loc}{row:List d9}{N:Nat}(p:row.length=N)(h0:0<N)(u:l.cap=N)(f:aU n row)
  (h:∀j v,row[j]?=some v->w.cell? ⟨l.b,l.base+j,none⟩=some (o8 ι v)):dK P ι n w.heap l (.cells N 1 (T.ofList [row])):=by
 subst p;obtain⟨c,e,m,g,q⟩:=Gt (h (row.length-1) row[row.length-1] (by simp));refine⟨c,e,m,g,?_,⟨by omega,1,q9 _,T.gG [_],xS λ_=>rfl⟩,λi t=>?_⟩;have:=(U9.1 q).1;omega;obtain rfl:i=0:=by omega
 refine⟨row,rfl,rfl,f,λj k=>?_⟩;obtain⟨r,s,o,a,d⟩:=Gt (h j row[j] (by simp [k]));rw [g] at a;cases a;simpa [k] using d
theorem Gu (n:Nm)(k:IntKind):∀l:List Int,aU n (l.map (d9.int k))
 | []=>trivial
 | _::l=>⟨trivial,Gu n k l⟩
theorem JN {P:Program}{w:World}{n:String}{g:Nat}{cs:Array Value}(b:P.globalNamed n=some g)(h:w.var? P n=some cs):∃e fz,w.heap[g]?=some (Obj.cells cs e fz):=by unfold World.var? at h;rw [b] at h;simp only [ad3] at h;split at h;rename_i c e fz a;cases h;exact⟨e,fz,a⟩;cases h
theorem JO {P:Program}{w:World}{n:String}{g:Nat}{k:IntKind}{ns:List Int}(d:P.globalNamed n=some g)(h:Lib.TabIs P w n k ns)(ι:J9):∀j v,(ns.map (d9.int k))[j]?=some v->w.cell? ⟨g,0+j,none⟩=some (o8 ι v):=by intro j v a;rw [aaM,acY] at a;obtain⟨z,b,rfl⟩:=a;have c:=(J2.1 b).1;rw [aaF,h.cell d j c];simp [o8,List.getD,b]
theorem gn0:Tryz.prog.globalNamed "strconv.ErrSyntax"=some 0:=by kernel_rfl
theorem Zc:Tryz.prog.globalNamed "strconv.ErrRange"=some 1:=by kernel_rfl
theorem gn3:Tryz.prog.globalNamed "strings.asciiSpace"=some 3:=by kernel_rfl
theorem gn4:Tryz.prog.globalNamed "internal/strconv.uint64pow10"=some 4:=by kernel_rfl
def Zd (a2 a3:Addr):J9:=λi=>⟨if i=11 then a2.block else if i=12 then a3.block else i,if i=11 then a2.off else if i=12 then a3.off else 0,
 if i=0 then 1 else if i=1 then 1 else if i=3 then 256 else if i=4 then 20 else 0,if i=11 then a2.spot else if i=12 then a3.spot else none⟩
theorem aco {w:World}{M O:Addr}(R:Lib.TabIs Tryz.prog w "internal/strconv.uint64pow10" .u64 nsP)(Q:Lib.TabIs Tryz.prog w "strings.asciiSpace" .u8 nsA)
  (z:w.var? Tryz.prog "strconv.ErrSyntax"=some #[.iface 432 (.pointer (some M))]) (P:w.var? Tryz.prog "strconv.ErrRange"=some #[.iface 432 (.pointer (some O))]):∃ι,RM Tryz.prog base ι (V8 base []) w.heap:=by
 refine⟨Zd M O,?_⟩;have s:base.nx=13:=rfl;have l:T.Ok base.t base.nx:=wC.ok;have B:base.get 0=some (.cells 1 1 (T.ofList [[d9.iface 432 (.ptr 11 0)]])):=rfl;have C:base.get 1=some (.cells 1 1 (T.ofList [[d9.iface 432 (.ptr 12 0)]])):=rfl;have E:base.get 3=some (.cells nsA.length 1 (T.ofList [nsA.map (d9.int .u8)])):=rfl;have F:base.get 4=some (.cells nsP.length 1 (T.ofList [nsP.map (d9.int .u64)])):=rfl;have D:base.get 2=some .dead:=rfl;have G:base.get 5=some .dead:=rfl;have H:base.get 6=some .dead:=rfl;have I:base.get 7=some .dead:=rfl;have J:base.get 8=some .dead:=rfl;have K:base.get 9=some .dead:=rfl;have o:base.get 10=some .dead:=rfl;have p:base.get 11=some .dead:=rfl;have q:base.get 12=some .dead:=rfl;have A:∀i b,base.get i=some b->cO b=false->(V8 base []).has i:=λi b A r=>⟨b,A,r⟩;refine⟨l,λi b a=>?_,λi b f a=>?_,q9 _,q9 _,by rw [Pb,s];omega,λi f=>rfl,λi f=>?_,λi f=>?_,λi b a S=>?_,λi X k U f d=>?_⟩;have a:base.get i=some b:=a;have f:i<13:=Mem.J5 l a;match i,f with
 | 0,_=>
  rw [B] at a;cases a;refine nQ (by rfl) (by decide) rfl ⟨A 11 _ p rfl,trivial⟩ λj v r=>?_;obtain rfl:j=0:=by have:=(J2.1 r).1;simpa using this
  cases r;have:=World.var?_cell gn0 z 0;simpa [o8,J9.at,Zd] using this
 | 1,_=>
  rw [C] at a;cases a;refine nQ (by rfl) (by decide) rfl ⟨A 12 _ q rfl,trivial⟩ λj v r=>?_;obtain rfl:j=0:=by have:=(J2.1 r).1;simpa using this
  cases r;have:=World.var?_cell Zc P 0;simpa [o8,J9.at,Zd] using this
 | 2,_=>rw [D] at a;cases a;trivial
 | 3,_=>rw [E] at a;cases a;exact nQ (by simp) (by decide) rfl (Gu _ _ _) (JO gn3 Q _)
 | 4,_=>rw [F] at a;cases a;exact nQ (by simp) (by decide) rfl (Gu _ _ _) (JO gn4 R _)
 | 5,_=>rw [G] at a;cases a;trivial
 | 6,_=>rw [H] at a;cases a;trivial
 | 7,_=>rw [I] at a;cases a;trivial
 | 8,_=>rw [J] at a;cases a;trivial
 | 9,_=>rw [K] at a;cases a;trivial
 | 10,_=>rw [o] at a;cases a;trivial
 | 11,_=>rw [p] at a;cases a;trivial
 | 12,_=>rw [q] at a;cases a;trivial
 have a:base.get i=some b:=a;have W:i<13:=Mem.J5 l a;have z:base.nx<=i:=f;rw [s] at z;omega;rw [Pb] at f;match i,f with
 | 0,_=>exact⟨_,B,rfl⟩
 | 1,_=>exact⟨_,C,rfl⟩
 | 2,_=>exact⟨_,D,rfl⟩
 | 3,_=>exact⟨_,E,rfl⟩
 | 4,_=>exact⟨_,F,rfl⟩
 | 5,_=>exact⟨_,G,rfl⟩
 | 6,_=>exact⟨_,H,rfl⟩
 | 7,_=>exact⟨_,I,rfl⟩
 | 8,_=>exact⟨_,J,rfl⟩
 | 9,_=>exact⟨_,K,rfl⟩
 | 10,_=>exact⟨_,o,rfl⟩
 rw [Pb] at f;match i,f with
 | 0,_ | 1,_ | 2,_ | 3,_ | 4,_ | 5,_ | 6,_ | 7,_ | 8,_ | 9,_ | 10,_=>exact⟨rfl,rfl,rfl⟩
 have a:base.get i=some b:=a;have f:i<13:=Mem.J5 l a;match i,f with
 | 0,_ | 1,_ | 2,_ | 3,_ | 4,_ | 5,_ | 6,_ | 7,_ | 8,_ | 9,_ | 10,_=>rfl
 | 11,_=>rw [p] at a;cases a;cases S
 | 12,_=>rw [q] at a;cases a;cases S
 rw [Pb] at f;have y:∀{n:String} {k:IntKind} {ns:List Int} {g N:Nat},Tryz.prog.globalNamed n=some g->ns.length=N->Lib.TabIs Tryz.prog w n k ns->∃c e m,w.heap[g]?=some (Obj.cells c e m)∧c.size=1*N:=λs V L=>by obtain⟨e,m,h⟩:=JN s L;exact⟨_,e,m,h,by simp [V]⟩
 have u:∀{n:String} {x:Value} {g:Nat},Tryz.prog.globalNamed n=some g->w.var? Tryz.prog n=some #[x]->∃c e m,w.heap[g]?=some (Obj.cells c e m)∧c.size=1*1:=λs L=>by obtain⟨e,m,h⟩:=JN s L;exact⟨_,e,m,h,rfl⟩
 match i,f with
 | 0,_=>rw [B] at d;cases d;exact u gn0 z
 | 1,_=>rw [C] at d;cases d;exact u Zc P
 | 3,_=>rw [E] at d;cases d;exact y gn3 rfl Q
 | 4,_=>rw [F] at d;cases d;exact y gn4 rfl R
 | 2,_=>rw [D] at d;cases d
 | 5,_=>rw [G] at d;cases d
 | 6,_=>rw [H] at d;cases d
 | 7,_=>rw [I] at d;cases d
 | 8,_=>rw [J] at d;cases d
 | 9,_=>rw [K] at d;cases d
 | 10,_=>rw [o] at d;cases d
open Go Go.AM Go.ChangeShapes Go.WideShapes Go.ChangeAt Go.RowKit
theorem Pe {H:Type}{d:TypeId×Value->H}{P:Program}{f:Func}{s:ChangeSpec}{c o e n:Bool}{W W':World}{args:Array Value}{v:Value}{q u:List (DataW H)}{before pa pv:List MemPlace}
  (x:DataW.Whole d P f.params.toList s.vars c W args.toList q u before)
  (m:∀(b:Nat) (sp:Nat->Bool) (hd:Bool),DataW.TrodAll d P W' b sp hd f.resultTypes.toList (v.resultList f.resultTypes.size) (s.fn H (q++u)).results [])
  (g:∀sp:Nat->Bool,(∀p∈before,sp p.block=true)->DataW.TrodAll d P W' 0 sp true f.params.toList args.toList (s.fn H (q++u)).args pa)
  (h:∀sp:Nat->Bool,(∀p∈before,sp p.block=true)->DataW.TrodVars d P W' sp s.vars (s.fn H (q++u)).vars pv)
  (k:before=pa++pv) (D:W.keptBut W' (·∈before)) (y:∀a,a.block<W.heap.size->W'.frozen? a=W.frozen? a)
  (A:∀(j:Nat) (t:TypeId) (r:Value),f.resultTypes[j]?=some t->(v.resultList f.resultTypes.size)[j]?=some r->Value.okWide P W' .any 0 t r):
  s.post d P f c o e n W args v W':=by
 have l:∀p∈before,(λb=>decide (b<W.heap.size)) p.block=true:=λp i=>by simpa using x.lt p i
 have z:=x.lt;refine⟨q,u,before,[],pa,pv,x,m _ _ _,g _ l,h _ l,World.keptBut_mono (λp i=>⟨i,?_⟩) D,λ_=>?_⟩;rw [k,aaD] at i;exact Or.inr i;obtain⟨_,_,_,_,_,F,E⟩:=x;refine⟨A,_,_,([]++pa)++pv,⟨[]++pa,pv,trodAll_append (g _ (λ_ _=>rfl)) (m _ _ _),h _ (λ_ _=>rfl),rfl,?_,?_⟩,?_⟩;intro b w i;have B:MemPlace.cell b w∈before:=by rw [k];simpa using i
 rw [y _ (z _ B)];exact F b w B;intro C;have:=E C;rw [k] at this;simpa using this;intro p i _;rw [k];simpa using i
theorem al1:adB Tryz.prog 3 9 33 31 42 22:=⟨by kernel_rfl,by kernel_rfl,by kernel_rfl,by kernel_rfl,by kernel_rfl,by kernel_rfl,by kernel_rfl,by kernel_rfl⟩
theorem agh:Xj Tryz.prog [22,42,3,9,31,33]=true:=by kernel_rfl
theorem vQ {H:Type}:∀l:List (DataW H),Rows.uptoBulkAll l=(l.map Rows.uptoBulk).sum
 | []=>by rw [Rows.uptoBulkAll];rfl
 | d::l=>by rw [Rows.uptoBulkAll,vQ l];rfl
theorem agi {H:Type}{f:TypeId×Value->H}{d:Bool}{ι:J9}{m:Mem}{w:World}(z:RM Tryz.prog base ι m w.heap)(y:m.lim=m.nx){n0:Nat}{c:List Value}{n:DataW H×List MemPlace}
  (h0:DataW.trod f Tryz.prog w 0 (λ_=>true) d n0 22 c=some n) (hb:Rows.uptoBulk n.1<=1048576) (F:base.nx<=m.nx):
  ∃v0,c=[v0]∧Calls Tryz.prog 3 #[v0] w λe w'=>e=.returned (.bool true)∧w.heap.size<=w'.heap.size∧(∀b,b<w.heap.size->w'.heap[b]?=w.heap[b]?)∧w'.os=w.os∧w'.output=w.output∧w'.tape=w.tape:=by
 obtain⟨a,k,B,L0,o,A,S0⟩:=aiA (mu:=Rows.uptoBulk) (λe s=>by rw [Rows.uptoBulk,vQ,vQ];omega) (λp=>by rw [Rows.uptoBulk,vQ];exact q9 _) (λb=>by rw [Rows.uptoBulk];exact q9 _) agh _ _ _ _ h0 (by decide) ι m z y;have h:k.Ok:=L0.rm.ok;obtain⟨v,l,rfl,S1,C,D⟩:=(Zb al1 h _).2 _ _ S0;have q:13<=k.nx:=aA (L0.rm.glim) (L0.rm.limn);obtain⟨G,g,E⟩:=akG h (Nat.le_of_eq L0.lim) S1 (by omega) (by omega) 320 20000 (q9 _) (q9 _);refine⟨o8 a v,by rw [← o];simp [u6],?_⟩;have j:=((Bh al0 20000 (320+1)).func g).2 L0.rm A;have t:(u6 a [v]).toArray=#[o8 a v]:=by simp [u6]
 rw [t] at j;refine callsIn_wide.1 (j.mono ?_);rintro e w' (⟨u,rfl,r,hr,ι9,hst,hlt,rfl⟩ | ⟨r,hr,x,ι9,hx,_⟩);obtain rfl:=aP.1 hr;refine⟨by simp [o8],hst.size,λb hb=>hst.frame b hb ?_,hst.os,hst.out,hst.tape⟩;rintro⟨i,x,hi,hx,_,_⟩;have:=Mem.J5 h hx;have:=L0.lim;omega;obtain rfl:=aP.1 hr;cases hx
end Go.Proofs.YtfddpcckppibjaaGreatDoor.TT
