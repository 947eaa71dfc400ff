/- The row of BenchMemory in the evaluator's words; conditions: the row's own. -/
import Derived.Test.YtfddpcckppibjaaGreatDoorPD7
import Derived.Test.YtfddpcckppibjaaGreatDoorPC7
import Derived.Test.YtfddpcckppibjaaGreatDoorPR2
import Derived.Lib.AppendIntMem
import Derived.OpenShut
import Derived.ProofKit
import Derived.LaidMore
import Derived.ChangeSame
import Derived.Carry
import Derived.Below
import Derived.Test.YtfddpcckppibjaaGreatDoorRows
set_option linter.all false
namespace Go.Proofs.YtfddpcckppibjaaGreatDoor.TT
open Go Go.AM Go.RowKit
set_option maxRecDepth 100000
section
variable {P:Program}{G:Mem}{ι:J5}{m:Mem}{w:World}
theorem afr {n:String}{g:Nat}{cs:Array Value}{e:TypeId}{a:Nat×Nat}(b:P.globalNamed n=some g)(h:w.heap[g]?=some (.cells cs e a)):w.var? P n=some cs:=by unfold World.var?;rw [b];simp [h]
theorem abD (b:RM P G ι m w.heap){i:Nat}{k:IntKind}{ns:List Int}(f:i<P.globals.size)(l:G.get i=some (.cells ns.length 1 (T.ofList [ns.map (d9.int k)]))):
  ∃e fz,w.heap[i]?=some (.cells (ns.map (Value.int k)).toArray e fz):=by
 obtain⟨c,e,fz,n,y,_,s⟩:=b.blk i _ ((b.base i (gq f b.gle)).trans l);obtain⟨q,r,x⟩:=b.glob i f;obtain⟨u,v,p,a,z⟩:=b.gsz i _ _ _ f l;rw [q,a] at n;cases n;obtain⟨g,o,A,B,t⟩:=s 0 (by omega);have d:g=ns.map (d9.int k):=by rw [T.aC] at o;simpa using o.symm
 subst d;suffices h:c=(ns.map (Value.int k)).toArray by rw [h] at a;exact⟨_,_,a⟩
 apply acP;intro j;by_cases hj:j<ns.length;have:=t j hj;rw [r,adE,aad,aad] at this;rw [this];simp [hj,l9];rw [aec (by omega),aec (by simp;omega)]
theorem afs (c:RM P G ι m w.heap){i:Nat}{n:String}{k:IntKind}{ns:List Int}(d:P.globalNamed n=some i)(b:i<P.globals.size)(a:G.get i=some (.cells ns.length 1 (T.ofList [ns.map (d9.int k)]))):Lib.TabIs P w n k ns:=by obtain⟨e,f,h⟩:=abD c b a;exact afr d h
theorem KQ {v:d9}(n:Nat)(a:tF n [v]=[])(b:∀r,kP r [v]=some [v])(m:Mem):Bt n ⟨v,m⟩=some ⟨v,[]⟩:=by show ob (ji n [v] m) _=_;rw [Fa m a b];rfl
end
section
variable {ι:J5}{w:World}
theorem Ol:Tryz.prog.globals.size=11:=by kernel_rfl
end
theorem gnP:Tryz.prog.globalNamed "internal/strconv.uint64pow10"=some 4:=by kernel_rfl
theorem apB {ι:J5}{w:World}(a:RM Tryz.prog base ι (U4 base []) w.heap):Lib.TabIs Tryz.prog w "internal/strconv.uint64pow10" .u64 Lib.pow10Tab:=by have h:=afs (ns:=nsP) (k:=.u64) a gnP (by rw [Ol];omega) rfl;rw [show Lib.pow10Tab=nsP by decide +kernel];exact h
theorem Yx (n:Int)(h0:0<=n)(a:n<=9223372036854775807):kH Tryz.prog base 230 [.int .i64 n] [] ⟨.str (Lib.itoa n),[]⟩:=
 qX (KQ _ rfl (λ_=>rfl) _) (λ_=>trivial) (λ_ _=>by simp [l9]) λι w b=>by refine agr (Tryz.strconv_Itoa n (by omega) a w (apB b)) ?_;rintro e w' ⟨rfl,k,os,rfl⟩;exact⟨by simp [l9],Lib.below_grow _ w (J2 _) k os⟩
theorem abE {f:FuncId}{args:List d9}{d:List NB}{a:Br}(h:aer f args d=some a):kH Tryz.prog base f args d a:=by unfold aer at h;split at h;split at h;split at h;rename_i b;subst b;cases h;exact Ki (λs c w=>Tryz.strings_Contains_one s c w) _ _;cases h;split at h;rename_i b;obtain⟨rfl,e,g⟩:=b;cases h;exact Yx _ e g;cases h;cases h;cases h
theorem abF:∀f args bs a,KW.sum f args bs=some a->kH Tryz.prog base f args bs a:=by
 intro f args bs a h;have h:Fj f args bs=some a:=h;unfold Fj at h;split at h;have c:∀s∈[qS],kH Tryz.prog base s.f s.args s.bs s.a:=λs d=>by rcases aA.1 d with rfl;exact qoS
 exact yc [qS] c _ _ _ _ h;split at h;rename_i b;subst b;exact Rx (show Xm 183 args bs=some a from h);exact abE h
theorem ak6:Wq Tryz.prog KW:=by
 refine⟨mixed,λf sf h=>?_,⟨Df,vZ⟩,abF,λ{f args m outs} h=>?_⟩;have h:(fns f).map (λsf=>{sf with pure:=Ry f})=some sf:=h;cases hf:fns f with
 | none=>rw [hf] at h;cases h
 | some s0=>rw [hf] at h;cases h;exact Iu (Qj f s0 hf) _
 exact Rv ⟨Df,vZ⟩ mixed (show aak f args m=some outs from h)
end Go.Proofs.YtfddpcckppibjaaGreatDoor.TT
namespace Go.AM
open Go
set_option linter.unusedVariables false
def fdT (P:Program)(t:TypeId):Option (List TypeId):=match P.underlying t with
 | some (.struct fs)=>some (fs.toList.map (·.type))
 | _=>none
def slT (P:Program)(t:TypeId):Option TypeId:=match P.underlying t with
 | some (.slice e)=>some e
 | _=>none
def inT (P:Program)(t:TypeId):Option IntKind:=match P.underlying t with
 | some (.int k)=>some k
 | _=>none
def QC (S:TypeId->Nat->List d9->Prop):List TypeId->Nat->List d9->Prop
 | [],b,vs=>vs=[]∧1<=b
 | t::ts,b,vs=>∃a c b1 b2,vs=a++c∧S t b1 a∧QC S ts b2 c∧b1+b2<=b
theorem IQ {S:TypeId->Nat->List d9->Prop}:∀fs b vs,uZ S fs b vs->QC S (fs.map (·.type)) b vs
 | [],_,_,h=>h
 | _::fs,_,_,⟨a,c,b1,b2,h1,h2,h3,h4⟩=>⟨a,c,b1,b2,h1,h2,IQ fs b2 c h3,h4⟩
section
variable {P:Program}{m:Mem}{n:Nat}{t:TypeId}{b:Nat}{vs:List d9}
theorem Ch {ts:List TypeId}(h:fdT P t=some ts)(hs:je P m (n+1) t b vs):QC (je P m n) ts b vs:=by unfold je at hs;unfold fdT at h;split at h;rename_i c a;rw [a] at hs;cases h;exact IQ _ _ _ hs;cases h
theorem FE {k:IntKind}(h:inT P t=some k)(hs:je P m n t b vs):∃i,vs=[.int k i]:=by
 cases n with
 | zero=>exact hs.elim
 | succ n=>unfold je at hs;unfold inT at h;split at h;rename_i c a;rw [a] at hs;cases h;exact⟨_,hs.choose_spec.1⟩;cases h
theorem Om (h:(match P.underlying t with | some .string=>true | _=>false)=true)(hs:je P m n t b vs):∃s:List UInt8,vs=[.str s]∧s.length+1<=b:=by
 cases n with
 | zero=>exact hs.elim
 | succ n=>unfold je at hs;split at h;rename_i a;rw [a] at hs;exact hs;cases h
theorem IU {α:Type}{At:α->List d9->Prop}{Rw:List α->List (List d9)->Prop}{Bd:α->Nat->Prop}{Bds:List α->Nat->Prop}(hm:m.Ok)
  (s:Rw [] []) (G:∀e es r rs,At e r->Rw es rs->Rw (e::es) (r::rs)) (b0:Bds [] 0) (u:∀e es b c,Bd e b->Bds es c->Bds (e::es) (b+c))
  {e:TypeId} {rs:Nat} (h:slT P t=some e) (C:P.cellsOf e=rs) (F:∀b row,je P m n e b row->∃x,At x row∧Bd x b) (hs:je P m (n+1) t b vs):
  ∃v l rl c,vs=[v]∧jf m (λ_=>True) rs v rl∧Rw l rl∧Bds l c∧c<=b:=by
 unfold je at hs;unfold slT at h;split at h;rename_i H E;rw [E] at hs;cases h;subst C;rcases hs with rfl | ⟨id,len,cap,rfl,hl,⟨rfl,hd⟩ | ⟨rows,bs,h1,h2,h3,h4⟩⟩;exact⟨_,[],[],0,rfl,.inl ⟨rfl,rfl⟩,s,b0,ae1 _⟩;obtain rfl:len=0:=by omega
 exact⟨_,[],[],0,rfl,.inr ⟨id,0,trivial,.inl ⟨0,by simp,by simp⟩,Mem.H9 hm hd,.inl rfl⟩,s,b0,ae1 _⟩;have d:∀k j,j+k=len->∃(l:List α) (rl:List (List d9)),rl.length=k∧(∀r,r∈rl->r.length=P.cellsOf e)∧(∀i (h:i<rl.length),rows.get (j+i)=some rl[i])∧Rw l rl∧Bds l (TK bs j k):=by
  intro k;induction k with
  | zero=>exact λj _=>⟨[],[],rfl,(by intro r a;cases a),(λi h=>absurd h (ak5 _)),s,b0⟩
  | succ k ihk=>
   intro j I;obtain⟨l,rl,f,g,o,p,q⟩:=ihk (j+1) (by omega);obtain⟨row,w,y,z⟩:=h4 j (by omega);obtain⟨x,A,B⟩:=F _ _ (z (by omega));refine⟨x::l,row::rl,by simp [f],?_,?_,G _ _ _ _ A p,u _ _ _ _ B q⟩;intro r a;rcases Z4.1 a with rfl | a;exact y;exact g r a;intro i D;cases i with
   | zero=>exact w
   | succ i=>have:=o i (by simpa using D);rw [agJ,← this];congr 1;omega
 obtain⟨l,rl,f,g,o,p,q⟩:=d len 0 (by omega);refine⟨_,l,rl,_,rfl,.inr ⟨id,0,trivial,.inl ⟨cap,by rw [f,adE],by omega⟩,Mem.H9 hm h2,.inr ⟨cap,rows,h2,by omega,g,o⟩⟩,p,q,by omega⟩;cases h
end
end Go.AM
namespace Go.Proofs.YtfddpcckppibjaaGreatDoor.TT
open Go Go.AM
set_option linter.unusedVariables false
structure acO (P:Program)(tI tS tE tEs tT tTs:TypeId):Prop where
 i:inT P tI=some .i64
 s:(match P.underlying tS with | some .string=>true | _=>false)=true
 e:fdT P tE=some [tI,tI,tS,tEs]
 es:slT P tEs=some tE
 t:fdT P tT=some [tI,tS,tEs,tTs,tTs]
 ts:slT P tTs=some tT
 ce:P.cellsOf tE=4
 ct:P.cellsOf tT=5
theorem Si:∀l:List Ex,l.length<=R5 l
 | []=>J2 0
 | .mk _ _ _ a::l=>by rw [Y1,R5,iJ];have:=Si l;omega
section
variable {P:Program}{m:Mem}{tI tS tE tEs tT tTs:TypeId}(L:acO P tI tS tE tEs tT tTs)(hm:m.Ok)
include L hm
theorem Yy:∀n,(∀b row,je P m n tE b row->∃x,au m (λ_=>True) x row∧iJ x<=b)∧(∀b vs,je P m n tEs b vs->∃v l,vs=[v]∧jg m (λ_=>True) l v∧R5 l<=b)
 | 0=>⟨λ_ _ h=>h.elim,λ_ _ h=>h.elim⟩
 | n+1=>by obtain⟨i1,i2⟩:=Yy n;refine⟨λb row h=>?_,λb vs h=>?_⟩;obtain⟨a1,c1,x1,y1,rfl,s1,⟨a2,c2,x2,y2,rfl,s2,⟨a3,c3,x3,y3,rfl,s3,⟨a4,c4,x4,y4,rfl,s4,⟨rfl,h5⟩,h4⟩,h3⟩,h2⟩,h1⟩:=Ch L.e h;obtain⟨k,rfl⟩:=FE L.i s1;obtain⟨k2,rfl⟩:=FE L.i s2;obtain⟨s,rfl,hs⟩:=Om L.s s3;obtain⟨v,l,rfl,⟨rows,q1,q2⟩,q3⟩:=i2 _ _ s4;exact⟨.mk k k2 s l,⟨v,rows,rfl,q1,q2⟩,by rw [iJ];omega⟩;obtain⟨v,l,rl,c,rfl,q1,q2,q3,q4⟩:=IU (At:=λe r=>au m (λ_=>True) e r) (Rw:=λl r=>D9 m (λ_=>True) l r) (Bd:=λe b=>iJ e<=b) (Bds:=λl b=>R5 l<=b) hm rfl (λe es r rs h1 h2=>⟨r,rs,rfl,h1,h2⟩) (J2 0) (λe es b c h1 h2=>by rw [R5];omega) L.es L.ce i1 h;exact⟨v,l,rfl,⟨rl,q1,q2⟩,by omega⟩
theorem Yz:∀n,(∀b row,je P m n tT b row->∃x,mD m (λ_=>True) x row∧stP x<=b∧uW x<=1300*b)∧(∀b vs,je P m n tTs b vs->∃v l,vs=[v]∧U2 m (λ_=>True) l v∧Z0 l<=b∧tO l<=1300*b)
 | 0=>⟨λ_ _ h=>h.elim,λ_ _ h=>h.elim⟩
 | n+1=>by obtain⟨i1,i2⟩:=Yz n;refine⟨λb row h=>?_,λb vs h=>?_⟩;obtain⟨a1,c1,x1,y1,rfl,s1,⟨a2,c2,x2,y2,rfl,s2,⟨a3,c3,x3,y3,rfl,s3,⟨a4,c4,x4,y4,rfl,s4,⟨a5,c5,x5,y5,rfl,s5,⟨rfl,h6⟩,h5⟩,h4⟩,h3⟩,h2⟩,h1⟩:=Ch L.t h;obtain⟨k,rfl⟩:=FE L.i s1;obtain⟨s,rfl,hs⟩:=Om L.s s2;obtain⟨ve,le,rfl,⟨re,e1,e2⟩,e3⟩:=(Yy L hm n).2 _ _ s3;obtain⟨vt,lt,rfl,⟨rt,t1,t2⟩,t3,t4⟩:=i2 _ _ s4;obtain⟨vf,lf,rfl,⟨rf,f1,f2⟩,f3,f4⟩:=i2 _ _ s5;have hl:=Si le;exact⟨.mk k s le lt lf,⟨ve,vt,vf,re,rt,rf,rfl,e1,e2,t1,t2,f1,f2⟩,by rw [stP];omega,by rw [uW];omega⟩;obtain⟨v,l,rl,c,rfl,q1,q2,⟨q3,q5⟩,q4⟩:=IU (At:=λe r=>mD m (λ_=>True) e r) (Rw:=λl r=>H7 m (λ_=>True) l r) (Bd:=λe b=>stP e<=b∧uW e<=1300*b) (Bds:=λl b=>Z0 l<=b∧tO l<=1300*b) hm rfl (λe es r rs h1 h2=>⟨r,rs,rfl,h1,h2⟩) ⟨J2 0,J2 0⟩ (λe es b c h1 h2=>by rw [Z0,tO];omega) L.ts L.ct i1 h;exact⟨v,l,rfl,⟨rl,q1,q2⟩,by omega,by omega⟩
end
open Go Go.AM Go.RowKit
set_option maxRecDepth 100000
theorem FH {w:World}{b o:Nat}{v:Value}(h:w.cell? ⟨b,o,none⟩=some v):∃c e fz,w.heap[b]?=some (Obj.cells c e fz)∧c[o]?=some v:=by unfold World.cell? at h;split at h;rename_i c e fz a;exact⟨c,e,fz,a,by simpa using h⟩;cases h
theorem nM {P:Program}{ι:J5}{n:Nm}{w:World}{l:AM.Loc}{row:List d9}{N:Nat}(p:row.length=N)(h0:0<N)(u:l.cap=N)(f:aM n row)
  (h:∀j v,row[j]?=some v->w.cell? ⟨l.b,l.base+j,none⟩=some (l9 ι v)):dF P ι n w.heap l (.cells N 1 (T.ofList [row])):=by
 subst p;obtain⟨c,e,m,g,q⟩:=FH (h (row.length-1) row[row.length-1] (by simp));refine⟨c,e,m,g,?_,⟨by omega,1,J2 _,T.eB [_],xK λ_=>rfl⟩,λi t=>?_⟩;have:=(K9.1 q).1;omega;obtain rfl:i=0:=by omega
 refine⟨row,rfl,rfl,f,λj k=>?_⟩;obtain⟨r,s,o,a,d⟩:=FH (h j row[j] (by simp [k]));rw [g] at a;cases a;simpa [k] using d
theorem FI (n:Nm)(k:IntKind):∀l:List Int,aM n (l.map (d9.int k))
 | []=>trivial
 | _::l=>⟨trivial,FI n k l⟩
theorem IV {P:Program}{w:World}{n:String}{g:Nat}{cs:Array Value}(b:P.globalNamed n=some g)(h:w.var? P n=some cs):∃e fz,w.heap[g]?=some (Obj.cells cs e fz):=by unfold World.var? at h;rw [b] at h;simp only [acX] at h;split at h;rename_i c e fz a;cases h;exact⟨e,fz,a⟩;cases h
theorem IW {P:Program}{w:World}{n:String}{g:Nat}{k:IntKind}{ns:List Int}(d:P.globalNamed n=some g)(h:Lib.TabIs P w n k ns)(ι:J5):∀j v,(ns.map (d9.int k))[j]?=some v->w.cell? ⟨g,0+j,none⟩=some (l9 ι v):=by intro j v a;rw [aaj,abh] at a;obtain⟨z,b,rfl⟩:=a;have c:=(Hl.1 b).1;rw [aad,h.cell d j c];simp [l9,List.getD,b]
theorem gn0:Tryz.prog.globalNamed "strconv.ErrSyntax"=some 0:=by kernel_rfl
theorem gn1:Tryz.prog.globalNamed "strconv.ErrRange"=some 1:=by kernel_rfl
theorem gn3:Tryz.prog.globalNamed "strings.asciiSpace"=some 3:=by kernel_rfl
theorem gn4:Tryz.prog.globalNamed "internal/strconv.uint64pow10"=some 4:=by kernel_rfl
def YA (a2 a3:Addr):J5:=λi=>⟨if i=11 then a2.block else if i=12 then a3.block else i,if i=11 then a2.off else if i=12 then a3.off else 0,
 if i=0 then 1 else if i=1 then 1 else if i=3 then 256 else if i=4 then 20 else 0,if i=11 then a2.spot else if i=12 then a3.spot else none⟩
theorem abG {w:World}{M O:Addr}(R:Lib.TabIs Tryz.prog w "internal/strconv.uint64pow10" .u64 nsP)(Q:Lib.TabIs Tryz.prog w "strings.asciiSpace" .u8 nsA)
  (z:w.var? Tryz.prog "strconv.ErrSyntax"=some #[.iface 432 (.pointer (some M))]) (P:w.var? Tryz.prog "strconv.ErrRange"=some #[.iface 432 (.pointer (some O))]):∃ι,RM Tryz.prog base ι (U4 base []) w.heap:=by
 refine⟨YA M O,?_⟩;have s:base.nx=13:=rfl;have l:T.Ok base.t base.nx:=vZ.ok;have B:base.get 0=some (.cells 1 1 (T.ofList [[d9.iface 432 (.ptr 11 0)]])):=rfl;have C:base.get 1=some (.cells 1 1 (T.ofList [[d9.iface 432 (.ptr 12 0)]])):=rfl;have E:base.get 3=some (.cells nsA.length 1 (T.ofList [nsA.map (d9.int .u8)])):=rfl;have F:base.get 4=some (.cells nsP.length 1 (T.ofList [nsP.map (d9.int .u64)])):=rfl;have D:base.get 2=some .dead:=rfl;have G:base.get 5=some .dead:=rfl;have H:base.get 6=some .dead:=rfl;have I:base.get 7=some .dead:=rfl;have J:base.get 8=some .dead:=rfl;have K:base.get 9=some .dead:=rfl;have o:base.get 10=some .dead:=rfl;have p:base.get 11=some .dead:=rfl;have q:base.get 12=some .dead:=rfl;have A:∀i b,base.get i=some b->bV b=false->(U4 base []).has i:=λi b A r=>⟨b,A,r⟩;refine⟨l,λi b a=>?_,λi b f a=>?_,J2 _,J2 _,by rw [Ol,s];omega,λi f=>rfl,λi f=>?_,λi f=>?_,λi b a S=>?_,λi X k U f d=>?_⟩;have a:base.get i=some b:=a;have f:i<13:=Mem.H9 l a;match i,f with
 | 0,_=>
  rw [B] at a;cases a;refine nM (by rfl) (by decide) rfl ⟨A 11 _ p rfl,trivial⟩ λj v r=>?_;obtain rfl:j=0:=by have:=(Hl.1 r).1;simpa using this
  cases r;have:=World.var?_cell gn0 z 0;simpa [l9,J5.at,YA] using this
 | 1,_=>
  rw [C] at a;cases a;refine nM (by rfl) (by decide) rfl ⟨A 12 _ q rfl,trivial⟩ λj v r=>?_;obtain rfl:j=0:=by have:=(Hl.1 r).1;simpa using this
  cases r;have:=World.var?_cell gn1 P 0;simpa [l9,J5.at,YA] using this
 | 2,_=>rw [D] at a;cases a;trivial
 | 3,_=>rw [E] at a;cases a;exact nM (by simp) (by decide) rfl (FI _ _ _) (IW gn3 Q _)
 | 4,_=>rw [F] at a;cases a;exact nM (by simp) (by decide) rfl (FI _ _ _) (IW gn4 R _)
 | 5,_=>rw [G] at a;cases a;trivial
 | 6,_=>rw [H] at a;cases a;trivial
 | 7,_=>rw [I] at a;cases a;trivial
 | 8,_=>rw [J] at a;cases a;trivial
 | 9,_=>rw [K] at a;cases a;trivial
 | 10,_=>rw [o] at a;cases a;trivial
 | 11,_=>rw [p] at a;cases a;trivial
 | 12,_=>rw [q] at a;cases a;trivial
 have a:base.get i=some b:=a;have W:i<13:=Mem.H9 l a;have z:base.nx<=i:=f;rw [s] at z;omega;rw [Ol] at f;match i,f with
 | 0,_=>exact⟨_,B,rfl⟩
 | 1,_=>exact⟨_,C,rfl⟩
 | 2,_=>exact⟨_,D,rfl⟩
 | 3,_=>exact⟨_,E,rfl⟩
 | 4,_=>exact⟨_,F,rfl⟩
 | 5,_=>exact⟨_,G,rfl⟩
 | 6,_=>exact⟨_,H,rfl⟩
 | 7,_=>exact⟨_,I,rfl⟩
 | 8,_=>exact⟨_,J,rfl⟩
 | 9,_=>exact⟨_,K,rfl⟩
 | 10,_=>exact⟨_,o,rfl⟩
 rw [Ol] at f;match i,f with
 | 0,_ | 1,_ | 2,_ | 3,_ | 4,_ | 5,_ | 6,_ | 7,_ | 8,_ | 9,_ | 10,_=>exact⟨rfl,rfl,rfl⟩
 have a:base.get i=some b:=a;have f:i<13:=Mem.H9 l a;match i,f with
 | 0,_ | 1,_ | 2,_ | 3,_ | 4,_ | 5,_ | 6,_ | 7,_ | 8,_ | 9,_ | 10,_=>rfl
 | 11,_=>rw [p] at a;cases a;cases S
 | 12,_=>rw [q] at a;cases a;cases S
 rw [Ol] at f;have y:∀{n:String} {k:IntKind} {ns:List Int} {g N:Nat},Tryz.prog.globalNamed n=some g->ns.length=N->Lib.TabIs Tryz.prog w n k ns->∃c e m,w.heap[g]?=some (Obj.cells c e m)∧c.size=1*N:=λs V L=>by obtain⟨e,m,h⟩:=IV s L;exact⟨_,e,m,h,by simp [V]⟩
 have u:∀{n:String} {x:Value} {g:Nat},Tryz.prog.globalNamed n=some g->w.var? Tryz.prog n=some #[x]->∃c e m,w.heap[g]?=some (Obj.cells c e m)∧c.size=1*1:=λs L=>by obtain⟨e,m,h⟩:=IV s L;exact⟨_,e,m,h,rfl⟩
 match i,f with
 | 0,_=>rw [B] at d;cases d;exact u gn0 z
 | 1,_=>rw [C] at d;cases d;exact u gn1 P
 | 3,_=>rw [E] at d;cases d;exact y gn3 rfl Q
 | 4,_=>rw [F] at d;cases d;exact y gn4 rfl R
 | 2,_=>rw [D] at d;cases d
 | 5,_=>rw [G] at d;cases d
 | 6,_=>rw [H] at d;cases d
 | 7,_=>rw [I] at d;cases d
 | 8,_=>rw [J] at d;cases d
 | 9,_=>rw [K] at d;cases d
 | 10,_=>rw [o] at d;cases d
open Go Go.AM Go.ChangeShapes Go.WideShapes Go.ChangeAt Go.RowKit
theorem Oo {H:Type}{d:TypeId×Value->H}{P:Program}{f:Func}{s:ChangeSpec}{c o e n:Bool}{W W':World}{args:Array Value}{v:Value}{q u:List (DataW H)}{before pa pv:List MemPlace}
  (x:DataW.Whole d P f.params.toList s.vars c W args.toList q u before)
  (m:∀(b:Nat) (sp:Nat->Bool) (hd:Bool),DataW.TrodAll d P W' b sp hd f.resultTypes.toList (v.resultList f.resultTypes.size) (s.fn H (q++u)).results [])
  (g:∀sp:Nat->Bool,(∀p∈before,sp p.block=true)->DataW.TrodAll d P W' 0 sp true f.params.toList args.toList (s.fn H (q++u)).args pa)
  (h:∀sp:Nat->Bool,(∀p∈before,sp p.block=true)->DataW.TrodVars d P W' sp s.vars (s.fn H (q++u)).vars pv)
  (k:before=pa++pv) (D:W.keptBut W' (·∈before)) (y:∀a,a.block<W.heap.size->W'.frozen? a=W.frozen? a)
  (A:∀(j:Nat) (t:TypeId) (r:Value),f.resultTypes[j]?=some t->(v.resultList f.resultTypes.size)[j]?=some r->Value.okWide P W' .any 0 t r):
  s.post d P f c o e n W args v W':=by
 have l:∀p∈before,(λb=>decide (b<W.heap.size)) p.block=true:=λp i=>by simpa using x.lt p i
 have z:=x.lt;refine⟨q,u,before,[],pa,pv,x,m _ _ _,g _ l,h _ l,World.keptBut_mono (λp i=>⟨i,?_⟩) D,λ_=>?_⟩;rw [k,aae] at i;exact Or.inr i;obtain⟨_,_,_,_,_,F,E⟩:=x;refine⟨A,_,_,([]++pa)++pv,⟨[]++pa,pv,trodAll_append (g _ (λ_ _=>rfl)) (m _ _ _),h _ (λ_ _=>rfl),rfl,?_,?_⟩,?_⟩;intro b w i;have B:MemPlace.cell b w∈before:=by rw [k];simpa using i
 rw [y _ (z _ B)];exact F b w B;intro C;have:=E C;rw [k] at this;simpa using this;intro p i _;rw [k];simpa using i
theorem ak8:acO Tryz.prog 3 9 33 31 42 22:=⟨by kernel_rfl,by kernel_rfl,by kernel_rfl,by kernel_rfl,by kernel_rfl,by kernel_rfl,by kernel_rfl,by kernel_rfl⟩
theorem aft:Wz Tryz.prog [22,42,3,9,31,33]=true:=by kernel_rfl
theorem vJ {H:Type}:∀l:List (DataW H),Rows.uptoBulkAll l=(l.map Rows.uptoBulk).sum
 | []=>by rw [Rows.uptoBulkAll];rfl
 | d::l=>by rw [Rows.uptoBulkAll,vJ l];rfl
theorem afu {H:Type}{f:TypeId×Value->H}{d:Bool}{ι:J5}{m:Mem}{w:World}(z:RM Tryz.prog base ι m w.heap)(y:m.lim=m.nx){B:Nat}{c:List Value}{o:DataW H×List MemPlace}
  (h0:DataW.trod f Tryz.prog w 0 (λ_=>true) d B 22 c=some o) (hb:Rows.uptoBulk o.1<=1048576) (G:base.nx<=m.nx):
  ∃v0,c=[v0]∧Calls Tryz.prog 5 #[v0] w λe w'=>e=.returned (.bool true)∧w.heap.size<=w'.heap.size∧(∀b,b<w.heap.size->w'.heap[b]?=w.heap[b]?)∧w'.os=w.os∧w'.output=w.output∧w'.tape=w.tape:=by
 obtain⟨a,n,C,L0,q,A,S0⟩:=ahD (mu:=Rows.uptoBulk) (λe s=>by rw [Rows.uptoBulk,vJ,vJ];omega) (λp=>by rw [Rows.uptoBulk,vJ];exact J2 _) (λb=>by rw [Rows.uptoBulk];exact J2 _) aft _ _ _ _ h0 (by decide) ι m z y;have j:n.Ok:=L0.rm.ok;obtain⟨v,l,rfl,S1,D,F⟩:=(Yz ak8 j _).2 _ _ S0;have h:13<=n.nx:=aP (L0.rm.glim) (L0.rm.limn);obtain⟨I,g,E⟩:=ajM j (Nat.le_of_eq L0.lim) h S1 (by omega) (by omega) 330 20000 (J2 _) (J2 _);refine⟨l9 a v,by rw [← q];simp [o9],?_⟩;have k:=((AR ak6 20000 (330+1)).func g).2 L0.rm A;have t:(o9 a [v]).toArray=#[l9 a v]:=by simp [o9]
 rw [t] at k;refine callsIn_wide.1 (k.mono ?_);rintro e w' (⟨u,rfl,r,hr,ι9,hst,hlt,rfl⟩ | ⟨r,hr,x,ι9,hx,_⟩);obtain rfl:=aA.1 hr;refine⟨by simp [l9],hst.size,λb hb=>hst.frame b hb ?_,hst.os,hst.out,hst.tape⟩;rintro⟨i,x,hi,hx,_,_⟩;have:=Mem.H9 j hx;have:=L0.lim;omega;obtain rfl:=aA.1 hr;cases hx
end Go.Proofs.YtfddpcckppibjaaGreatDoor.TT
