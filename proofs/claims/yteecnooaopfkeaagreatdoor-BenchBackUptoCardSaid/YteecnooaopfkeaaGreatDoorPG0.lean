/- The row of BenchBack in the evaluator's words; conditions: the row's own. -/
import Derived.Test.YteecnooaopfkeaaGreatDoorPD7
import Derived.Test.YteecnooaopfkeaaGreatDoorPC7
import Derived.Test.YteecnooaopfkeaaGreatDoorPR2
import Derived.Lib.AppendIntMem
import Derived.OpenShut
import Derived.ProofKit
import Derived.LaidMore
import Derived.ChangeSame
import Derived.Carry
import Derived.Below
import Derived.Test.YteecnooaopfkeaaGreatDoorRows
set_option linter.all false
namespace Go.Proofs.YteecnooaopfkeaaGreatDoor.TT
open Go Go.AM Go.RowKit
set_option maxRecDepth 100000
section
variable {P:Program}{G:Mem}{ι:K7}{m:Mem}{w:World}
theorem agz {n:String}{g:Nat}{cs:Array Value}{e:TypeId}{a:Nat×Nat}(b:P.globalNamed n=some g)(h:w.heap[g]?=some (.cells cs e a)):w.var? P n=some cs:=by unfold World.var?;rw [b];simp [h]
theorem acX (b:RM P G ι m w.heap){i:Nat}{k:IntKind}{ns:List Int}(hi:i<P.globals.size)(g:G.get i=some (.cells ns.length 1 (T.ofList [ns.map (o7.int k)]))):
  ∃e fz,w.heap[i]?=some (.cells (ns.map (Value.int k)).toArray e fz):=by
 obtain⟨c,e,fz,l,x,_,r⟩:=b.blk i _ ((b.base i (J3 hi b.gle)).trans g);obtain⟨p,q,v⟩:=b.glob i hi;obtain⟨t,u,o,a,y⟩:=b.gsz i _ _ _ hi g;rw [p,a] at l;cases l;obtain⟨f,n,z,A,s⟩:=r 0 (by omega);have d:f=ns.map (o7.int k):=by rw [T.au] at n;simpa using n.symm
 subst d;suffices h:c=(ns.map (Value.int k)).toArray by rw [h] at a;exact⟨_,_,a⟩
 apply adO;intro j;by_cases hj:j<ns.length;have:=s j hj;rw [q,adR,Z9,Z9] at this;rw [this];simp [hj,u6];rw [ae3 (by omega),ae3 (by simp;omega)]
theorem agA (b:RM P G ι m w.heap){i:Nat}{n:String}{k:IntKind}{ns:List Int}(c:P.globalNamed n=some i)(hi:i<P.globals.size)(a:G.get i=some (.cells ns.length 1 (T.ofList [ns.map (o7.int k)]))):Lib.TabIs P w n k ns:=by obtain⟨e,d,h⟩:=acX b hi a;exact agz c h
theorem cell_of (l:RM P G ι m w.heap){i rs:Nat}{r:List o7}(h:m.get i=some (.cells rs 1 (T.ofList [r]))){j:Nat}{v:o7}(k:j<rs)(o:r[j]?=some v):w.cell? ⟨(ι i).b,(ι i).base+j,none⟩=some (u6 ι v):=by
 obtain⟨c,e,q,g,s,_,n⟩:=l.blk i _ h;obtain⟨d,f,t,u,p⟩:=n 0 (by omega);have a:d=r:=by rw [T.au] at f;simpa using f.symm
 subst a;have:=p j k;rw [adR,Z9] at this;simp [World.cell?,g,this,o]
theorem BI {v:o7}(n:Nat)(a:rJ n [v]=[])(b:∀r,lq r [v]=some [v])(m:Mem):yw n ⟨v,m⟩=some ⟨v,[]⟩:=by show ob (iG n [v] m) _=_;rw [zA m a b];rfl
end
section
variable {ι:K7}{w:World}
theorem Iq:Tryz.prog.globals.size=11:=by kernel_rfl
theorem aqm (a:RM Tryz.prog base ι (O4 base []) w.heap):∃ev,w.cell? ⟨0,0,none⟩=some ev∧(ev=.nilIface∨∃te pe,ev=.iface te pe):=by have g:(O4 base []).get 0=some (.cells 1 1 (T.ofList [[o7.iface 361 (.ptr 11 0)]])):=rfl;obtain⟨b,c,_⟩:=a.glob 0 (by rw [Iq];omega);have:=cell_of a g (j:=0) (by omega) rfl;rw [b,c] at this;exact⟨u6 ι (.iface 361 (.ptr 11 0)),by simpa using this,.inr ⟨_,_,rfl⟩⟩
theorem aqn (a:RM Tryz.prog base ι (O4 base []) w.heap):∃ev,w.cell? ⟨1,0,none⟩=some ev∧(ev=.nilIface∨∃te pe,ev=.iface te pe):=by have g:(O4 base []).get 1=some (.cells 1 1 (T.ofList [[o7.iface 361 (.ptr 12 0)]])):=rfl;obtain⟨b,c,_⟩:=a.glob 1 (by rw [Iq];omega);have:=cell_of a g (j:=0) (by omega) rfl;rw [b,c] at this;exact⟨u6 ι (.iface 361 (.ptr 12 0)),by simpa using this,.inr ⟨_,_,rfl⟩⟩
end
theorem gnP:Tryz.prog.globalNamed "internal/strconv.uint64pow10"=some 3:=by kernel_rfl
theorem aqo {ι:K7}{w:World}(a:RM Tryz.prog base ι (O4 base []) w.heap):Lib.TabIs Tryz.prog w "internal/strconv.uint64pow10" .u64 Lib.pow10Tab:=by have h:=agA (ns:=nsP) (k:=.u64) a gnP (by rw [Iq];omega) rfl;rw [show Lib.pow10Tab=nsP by decide +kernel];exact h
theorem aaf (n:Int)(h0:0<=n)(a:n<=9223372036854775807):jI Tryz.prog base 187 [.int .i64 n] [] ⟨.str (Lib.itoa n),[]⟩:=
 oF (BI _ rfl (λ_=>rfl) _) (λ_=>trivial) (λ_ _=>by simp [u6]) λι w b=>by refine ae2 (Tryz.strconv_Itoa n (by omega) a w (aqo b)) ?_;rintro e w' ⟨rfl,k,os,rfl⟩;exact⟨by simp [u6],Lib.below_grow _ w (aP _) k os⟩
theorem aag (s:List UInt8)(hs:s.length<1000000):jI Tryz.prog base 48 [.str s] [] (Bn s):=by
 unfold Bn;cases h:Lib.atoiAll s with
 | ok v=>refine oF (BI _ rfl (λ_=>rfl) _) (λ_=>⟨trivial,trivial,trivial⟩) (λ_ _=>by simp [u6,z8]) λι w b=>?_;refine ae2 (Any.strconv_Atoi_ok Tryz.wR ⟨s.toArray⟩ (by simp [ByteArray.size];omega) v (by simpa using h) w) ?_;rintro e w' ⟨rfl,hw⟩;refine⟨by simp [u6,z8],?_⟩;rcases hw with rfl | ⟨t,rfl⟩;exact Below.refl _ _;exact Lib.bytesWorld_below _ _ _
 | range=>refine TY (nb:=.dead) (PZ mJ.ok _ 249) λι w b=>?_;obtain⟨c,d,a⟩:=aqn b;refine ae2 (Any.strconv_Atoi_range Tryz.wR ⟨s.toArray⟩ (by simp [ByteArray.size];omega) (by simpa using h) c w d a) ?_;rintro e w' ⟨N,rfl,hN,hc,hb⟩;refine⟨⟨N,0,0,none⟩,?_,hb,hN,?_,trivial,λh=>by cases h⟩;simp [u6,z8,K7.at];rfl;refine⟨trivial,⟨.dead,?_,rfl⟩,trivial⟩;rw [Mem.K6 (m:=O4 base []) mJ.ok];exact if_pos rfl
 | _=>refine TY (nb:=.dead) (PZ mJ.ok 0 249) λι w b=>?_;obtain⟨c,d,a⟩:=aqm b;refine ae2 (Any.strconv_Atoi_syntax Tryz.wR ⟨s.toArray⟩ (by simp [ByteArray.size];omega) (by simpa using h) c w d a) ?_;rintro e w' ⟨N,rfl,hN,hc,hb⟩;refine⟨⟨N,0,0,none⟩,?_,hb,hN,?_,trivial,λh=>by cases h⟩;simp [u6,z8,K7.at];rfl;refine⟨trivial,⟨.dead,?_,rfl⟩,trivial⟩;rw [Mem.K6 (m:=O4 base []) mJ.ok];exact if_pos rfl
theorem acY {f:FuncId}{args:List o7}{d:List NB}{a:BX}(h:abR f args d=some a):jI Tryz.prog base f args d a:=by unfold abR at h;split at h;split at h;split at h;rename_i i;split at h;rename_i b;subst b;cases h;exact aag _ i;cases h;cases h;split at h;rename_i b;subst b;cases h;exact MP (λs c w=>Tryz.strings_Contains_one s c w) _ _;cases h;split at h;rename_i b;obtain⟨rfl,e,g⟩:=b;cases h;exact aaf _ e g;cases h;cases h;cases h
theorem acZ:∀f args bs a,KW.sum f args bs=some a->jI Tryz.prog base f args bs a:=by
 intro f args bs a h;have h:zH f args bs=some a:=h;unfold zH at h;split at h;have c:∀s∈[qS],jI Tryz.prog base s.f s.args s.bs s.a:=λs d=>by rcases aA.1 d with rfl;exact qoS
 exact zq [qS] c _ _ _ _ h;split at h;rename_i b;subst b;exact Uh (show Ze 114 args bs=some a from h);exact acY h
theorem akW:Yt Tryz.prog KW:=by
 refine⟨mixed,λf sf h=>?_,⟨ET,mJ⟩,acZ,λ{f args m outs} h=>?_⟩;have h:(fns f).map (λsf=>{sf with pure:=Uk f})=some sf:=h;cases hf:fns f with
 | none=>rw [hf] at h;cases h
 | some s0=>rw [hf] at h;cases h;exact KE (Sy f s0 hf) _
 exact Ug ⟨ET,mJ⟩ mixed (show abJ f args m=some outs from h)
end Go.Proofs.YteecnooaopfkeaaGreatDoor.TT
namespace Go.AM
open Go
set_option linter.unusedVariables false
def fdT (P:Program)(t:TypeId):Option (List TypeId):=match P.underlying t with
 | some (.struct fs)=>some (fs.toList.map (·.type))
 | _=>none
def slT (P:Program)(t:TypeId):Option TypeId:=match P.underlying t with
 | some (.slice e)=>some e
 | _=>none
def inT (P:Program)(t:TypeId):Option IntKind:=match P.underlying t with
 | some (.int k)=>some k
 | _=>none
def Te (S:TypeId->Nat->List o7->Prop):List TypeId->Nat->List o7->Prop
 | [],b,vs=>vs=[]∧1<=b
 | t::ts,b,vs=>∃a c b1 b2,vs=a++c∧S t b1 a∧Te S ts b2 c∧b1+b2<=b
theorem KP {S:TypeId->Nat->List o7->Prop}:∀fs b vs,wJ S fs b vs->Te S (fs.map (·.type)) b vs
 | [],_,_,h=>h
 | _::fs,_,_,⟨a,c,b1,b2,h1,h2,h3,h4⟩=>⟨a,c,b1,b2,h1,h2,KP fs b2 c h3,h4⟩
section
variable {P:Program}{m:Mem}{n:Nat}{t:TypeId}{b:Nat}{vs:List o7}
theorem Ee {ts:List TypeId}(h:fdT P t=some ts)(hs:jJ P m (n+1) t b vs):Te (jJ P m n) ts b vs:=by unfold jJ at hs;unfold fdT at h;split at h;rename_i c a;rw [a] at hs;cases h;exact KP _ _ _ hs;cases h
theorem Ir {k:IntKind}(h:inT P t=some k)(hs:jJ P m n t b vs):∃i,vs=[.int k i]:=by
 cases n with
 | zero=>exact hs.elim
 | succ n=>unfold jJ at hs;unfold inT at h;split at h;rename_i c a;rw [a] at hs;cases h;exact⟨_,hs.choose_spec.1⟩;cases h
theorem Iu (h:(match P.underlying t with | some .string=>true | _=>false)=true)(hs:jJ P m n t b vs):∃s:List UInt8,vs=[.str s]∧s.length+1<=b:=by
 cases n with
 | zero=>exact hs.elim
 | succ n=>unfold jJ at hs;split at h;rename_i a;rw [a] at hs;exact hs;cases h
theorem KQ {α:Type}{At:α->List o7->Prop}{Rw:List α->List (List o7)->Prop}{Bd:α->Nat->Prop}{Bds:List α->Nat->Prop}(hm:m.Ok)
  (s:Rw [] []) (rc:∀e es r rs,At e r->Rw es rs->Rw (e::es) (r::rs)) (b0:Bds [] 0) (u:∀e es b c,Bd e b->Bds es c->Bds (e::es) (b+c))
  {e:TypeId} {rs:Nat} (h:slT P t=some e) (C:P.cellsOf e=rs) (F:∀b row,jJ P m n e b row->∃x,At x row∧Bd x b) (hs:jJ P m (n+1) t b vs):
  ∃v l rl c,vs=[v]∧rD m (λ_=>True) rs v rl∧Rw l rl∧Bds l c∧c<=b:=by
 unfold jJ at hs;unfold slT at h;split at h;rename_i G E;rw [E] at hs;cases h;subst C;rcases hs with rfl | ⟨id,len,cap,rfl,hl,⟨rfl,hd⟩ | ⟨rows,bs,h1,h2,h3,h4⟩⟩;exact⟨_,[],[],0,rfl,.inl ⟨rfl,rfl⟩,s,b0,aft _⟩;obtain rfl:len=0:=by omega
 exact⟨_,[],[],0,rfl,.inr ⟨id,0,trivial,.inl ⟨0,by simp,by simp⟩,Mem.I8 hm hd,.inl rfl⟩,s,b0,aft _⟩;have d:∀k j,j+k=len->∃(l:List α) (rl:List (List o7)),rl.length=k∧(∀r,r∈rl->r.length=P.cellsOf e)∧(∀i (h:i<rl.length),rows.get (j+i)=some rl[i])∧Rw l rl∧Bds l (VP bs j k):=by
  intro k;induction k with
  | zero=>exact λj _=>⟨[],[],rfl,(by intro r a;cases a),(λi h=>absurd h (Nat.not_lt_zero _)),s,b0⟩
  | succ k ihk=>
   intro j H;obtain⟨l,rl,f,g,o,p,q⟩:=ihk (j+1) (by omega);obtain⟨row,w,y,z⟩:=h4 j (by omega);obtain⟨x,A,B⟩:=F _ _ (z (by omega));refine⟨x::l,row::rl,by simp [f],?_,?_,rc _ _ _ _ A p,u _ _ _ _ B q⟩;intro r a;rcases Y4.1 a with rfl | a;exact y;exact g r a;intro i D;cases i with
   | zero=>exact w
   | succ i=>have:=o i (by simpa using D);rw [agD,← this];congr 1;omega
 obtain⟨l,rl,f,g,o,p,q⟩:=d len 0 (by omega);refine⟨_,l,rl,_,rfl,.inr ⟨id,0,trivial,.inl ⟨cap,by rw [f,adR],by omega⟩,Mem.I8 hm h2,.inr ⟨cap,rows,h2,by omega,g,o⟩⟩,p,q,by omega⟩;cases h
end
end Go.AM
namespace Go.Proofs.YteecnooaopfkeaaGreatDoor.TT
open Go Go.AM
set_option linter.unusedVariables false
structure aen (P:Program)(tI tS tE tEs tT tTs:TypeId):Prop where
 i:inT P tI=some .i64
 s:(match P.underlying tS with | some .string=>true | _=>false)=true
 e:fdT P tE=some [tI,tI,tS,tEs]
 es:slT P tEs=some tE
 t:fdT P tT=some [tI,tS,tEs,tTs,tTs]
 ts:slT P tTs=some tT
 ce:P.cellsOf tE=4
 ct:P.cellsOf tT=5
theorem UG:∀l:List Ex,l.length<=U1 l
 | []=>aP 0
 | .mk _ _ _ a::l=>by rw [J6,U1,ng];have:=UG l;omega
section
variable {P:Program}{m:Mem}{tI tS tE tEs tT tTs:TypeId}(L:aen P tI tS tE tEs tT tTs)(hm:m.Ok)
include L hm
theorem aah:∀n,(∀b row,jJ P m n tE b row->∃x,aS m (λ_=>True) x row∧ng x<=b)∧(∀b vs,jJ P m n tEs b vs->∃v l,vs=[v]∧jK m (λ_=>True) l v∧U1 l<=b)
 | 0=>⟨λ_ _ h=>h.elim,λ_ _ h=>h.elim⟩
 | n+1=>by obtain⟨i1,i2⟩:=aah n;refine⟨λb row h=>?_,λb vs h=>?_⟩;obtain⟨a1,c1,x1,y1,rfl,s1,⟨a2,c2,x2,y2,rfl,s2,⟨a3,c3,x3,y3,rfl,s3,⟨a4,c4,x4,y4,rfl,s4,⟨rfl,h5⟩,h4⟩,h3⟩,h2⟩,h1⟩:=Ee L.e h;obtain⟨k,rfl⟩:=Ir L.i s1;obtain⟨k2,rfl⟩:=Ir L.i s2;obtain⟨s,rfl,hs⟩:=Iu L.s s3;obtain⟨v,l,rfl,⟨rows,q1,q2⟩,q3⟩:=i2 _ _ s4;exact⟨.mk k k2 s l,⟨v,rows,rfl,q1,q2⟩,by rw [ng];omega⟩;obtain⟨v,l,rl,c,rfl,q1,q2,q3,q4⟩:=KQ (At:=λe r=>aS m (λ_=>True) e r) (Rw:=λl r=>I7 m (λ_=>True) l r) (Bd:=λe b=>ng e<=b) (Bds:=λl b=>U1 l<=b) hm rfl (λe es r rs h1 h2=>⟨r,rs,rfl,h1,h2⟩) (aP 0) (λe es b c h1 h2=>by rw [U1];omega) L.es L.ce i1 h;exact⟨v,l,rfl,⟨rl,q1,q2⟩,by omega⟩
theorem aai:∀n,(∀b row,jJ P m n tT b row->∃x,nI m (λ_=>True) x row∧stP x<=b∧wF x<=1300*b)∧(∀b vs,jJ P m n tTs b vs->∃v l,vs=[v]∧aG m (λ_=>True) l v∧V6 l<=b∧uY l<=1300*b)
 | 0=>⟨λ_ _ h=>h.elim,λ_ _ h=>h.elim⟩
 | n+1=>by obtain⟨i1,i2⟩:=aai n;refine⟨λb row h=>?_,λb vs h=>?_⟩;obtain⟨a1,c1,x1,y1,rfl,s1,⟨a2,c2,x2,y2,rfl,s2,⟨a3,c3,x3,y3,rfl,s3,⟨a4,c4,x4,y4,rfl,s4,⟨a5,c5,x5,y5,rfl,s5,⟨rfl,h6⟩,h5⟩,h4⟩,h3⟩,h2⟩,h1⟩:=Ee L.t h;obtain⟨k,rfl⟩:=Ir L.i s1;obtain⟨s,rfl,hs⟩:=Iu L.s s2;obtain⟨ve,le,rfl,⟨re,e1,e2⟩,e3⟩:=(aah L hm n).2 _ _ s3;obtain⟨vt,lt,rfl,⟨rt,t1,t2⟩,t3,t4⟩:=i2 _ _ s4;obtain⟨vf,lf,rfl,⟨rf,f1,f2⟩,f3,f4⟩:=i2 _ _ s5;have hl:=UG le;exact⟨.mk k s le lt lf,⟨ve,vt,vf,re,rt,rf,rfl,e1,e2,t1,t2,f1,f2⟩,by rw [stP];omega,by rw [wF];omega⟩;obtain⟨v,l,rl,c,rfl,q1,q2,⟨q3,q5⟩,q4⟩:=KQ (At:=λe r=>nI m (λ_=>True) e r) (Rw:=λl r=>I4 m (λ_=>True) l r) (Bd:=λe b=>stP e<=b∧wF e<=1300*b) (Bds:=λl b=>V6 l<=b∧uY l<=1300*b) hm rfl (λe es r rs h1 h2=>⟨r,rs,rfl,h1,h2⟩) ⟨aP 0,aP 0⟩ (λe es b c h1 h2=>by rw [V6,uY];omega) L.ts L.ct i1 h;exact⟨v,l,rfl,⟨rl,q1,q2⟩,by omega,by omega⟩
end
open Go Go.AM Go.RowKit
set_option maxRecDepth 100000
theorem Iw {w:World}{b o:Nat}{v:Value}(h:w.cell? ⟨b,o,none⟩=some v):∃c e fz,w.heap[b]?=some (Obj.cells c e fz)∧c[o]?=some v:=by unfold World.cell? at h;split at h;rename_i c e fz a;exact⟨c,e,fz,a,by simpa using h⟩;cases h
theorem nZ {P:Program}{ι:K7}{n:Nm}{w:World}{l:AM.Loc}{row:List o7}{N:Nat}(p:row.length=N)(h0:0<N)(u:l.cap=N)(f:bB n row)
  (h:∀j v,row[j]?=some v->w.cell? ⟨l.b,l.base+j,none⟩=some (u6 ι v)):dN P ι n w.heap l (.cells N 1 (T.ofList [row])):=by
 subst p;obtain⟨c,e,m,g,q⟩:=Iw (h (row.length-1) row[row.length-1] (by simp));refine⟨c,e,m,g,?_,⟨by omega,1,aP _,T.fO [_],yU λ_=>rfl⟩,λi t=>?_⟩;have:=(J4.1 q).1;omega;obtain rfl:i=0:=by omega
 refine⟨row,rfl,rfl,f,λj k=>?_⟩;obtain⟨r,s,o,a,d⟩:=Iw (h j row[j] (by simp [k]));rw [g] at a;cases a;simpa [k] using d
theorem Iy (n:Nm)(k:IntKind):∀l:List Int,bB n (l.map (o7.int k))
 | []=>trivial
 | _::l=>⟨trivial,Iy n k l⟩
theorem KR {P:Program}{w:World}{n:String}{g:Nat}{cs:Array Value}(b:P.globalNamed n=some g)(h:w.var? P n=some cs):∃e fz,w.heap[g]?=some (Obj.cells cs e fz):=by unfold World.var? at h;rw [b] at h;simp only [adQ] at h;split at h;rename_i c e fz a;cases h;exact⟨e,fz,a⟩;cases h
theorem KS {P:Program}{w:World}{n:String}{g:Nat}{k:IntKind}{ns:List Int}(d:P.globalNamed n=some g)(h:Lib.TabIs P w n k ns)(ι:K7):∀j v,(ns.map (o7.int k))[j]?=some v->w.cell? ⟨g,0+j,none⟩=some (u6 ι v):=by intro j v a;rw [aaB,abr] at a;obtain⟨z,b,rfl⟩:=a;have c:=(y8.1 b).1;rw [Z9,h.cell d j c];simp [u6,List.getD,b]
theorem gn0:Tryz.prog.globalNamed "strconv.ErrSyntax"=some 0:=by kernel_rfl
theorem gn1:Tryz.prog.globalNamed "strconv.ErrRange"=some 1:=by kernel_rfl
theorem gn3:Tryz.prog.globalNamed "internal/strconv.uint64pow10"=some 3:=by kernel_rfl
theorem gn4:Tryz.prog.globalNamed "strings.asciiSpace"=some 4:=by kernel_rfl
def aaj (a2 a3:Addr):K7:=λi=>⟨if i=11 then a2.block else if i=12 then a3.block else i,if i=11 then a2.off else if i=12 then a3.off else 0,
 if i=0 then 1 else if i=1 then 1 else if i=3 then 20 else if i=4 then 256 else 0,if i=11 then a2.spot else if i=12 then a3.spot else none⟩
theorem ad6 {w:World}{M O:Addr}(Q:Lib.TabIs Tryz.prog w "strings.asciiSpace" .u8 nsA)(R:Lib.TabIs Tryz.prog w "internal/strconv.uint64pow10" .u64 nsP)
  (z:w.var? Tryz.prog "strconv.ErrSyntax"=some #[.iface 361 (.pointer (some M))]) (P:w.var? Tryz.prog "strconv.ErrRange"=some #[.iface 361 (.pointer (some O))]):∃ι,RM Tryz.prog base ι (O4 base []) w.heap:=by
 refine⟨aaj M O,?_⟩;have s:base.nx=13:=rfl;have l:T.Ok base.t base.nx:=mJ.ok;have B:base.get 0=some (.cells 1 1 (T.ofList [[o7.iface 361 (.ptr 11 0)]])):=rfl;have C:base.get 1=some (.cells 1 1 (T.ofList [[o7.iface 361 (.ptr 12 0)]])):=rfl;have E:base.get 3=some (.cells nsP.length 1 (T.ofList [nsP.map (o7.int .u64)])):=rfl;have F:base.get 4=some (.cells nsA.length 1 (T.ofList [nsA.map (o7.int .u8)])):=rfl;have D:base.get 2=some .dead:=rfl;have G:base.get 5=some .dead:=rfl;have H:base.get 6=some .dead:=rfl;have I:base.get 7=some .dead:=rfl;have J:base.get 8=some .dead:=rfl;have K:base.get 9=some .dead:=rfl;have o:base.get 10=some .dead:=rfl;have p:base.get 11=some .dead:=rfl;have q:base.get 12=some .dead:=rfl;have A:∀i b,base.get i=some b->dO b=false->(O4 base []).has i:=λi b A r=>⟨b,A,r⟩;refine⟨l,λi b a=>?_,λi b f a=>?_,aP _,aP _,by rw [Iq,s];omega,λi f=>rfl,λi f=>?_,λi f=>?_,λi b a S=>?_,λi X k U f d=>?_⟩;have a:base.get i=some b:=a;have f:i<13:=Mem.I8 l a;match i,f with
 | 0,_=>
  rw [B] at a;cases a;refine nZ (by rfl) (by decide) rfl ⟨A 11 _ p rfl,trivial⟩ λj v r=>?_;obtain rfl:j=0:=by have:=(y8.1 r).1;simpa using this
  cases r;have:=World.var?_cell gn0 z 0;simpa [u6,K7.at,aaj] using this
 | 1,_=>
  rw [C] at a;cases a;refine nZ (by rfl) (by decide) rfl ⟨A 12 _ q rfl,trivial⟩ λj v r=>?_;obtain rfl:j=0:=by have:=(y8.1 r).1;simpa using this
  cases r;have:=World.var?_cell gn1 P 0;simpa [u6,K7.at,aaj] using this
 | 2,_=>rw [D] at a;cases a;trivial
 | 3,_=>rw [E] at a;cases a;exact nZ (by simp) (by decide) rfl (Iy _ _ _) (KS gn3 R _)
 | 4,_=>rw [F] at a;cases a;exact nZ (by simp) (by decide) rfl (Iy _ _ _) (KS gn4 Q _)
 | 5,_=>rw [G] at a;cases a;trivial
 | 6,_=>rw [H] at a;cases a;trivial
 | 7,_=>rw [I] at a;cases a;trivial
 | 8,_=>rw [J] at a;cases a;trivial
 | 9,_=>rw [K] at a;cases a;trivial
 | 10,_=>rw [o] at a;cases a;trivial
 | 11,_=>rw [p] at a;cases a;trivial
 | 12,_=>rw [q] at a;cases a;trivial
 have a:base.get i=some b:=a;have W:i<13:=Mem.I8 l a;have z:base.nx<=i:=f;rw [s] at z;omega;rw [Iq] at f;match i,f with
 | 0,_=>exact⟨_,B,rfl⟩
 | 1,_=>exact⟨_,C,rfl⟩
 | 2,_=>exact⟨_,D,rfl⟩
 | 3,_=>exact⟨_,E,rfl⟩
 | 4,_=>exact⟨_,F,rfl⟩
 | 5,_=>exact⟨_,G,rfl⟩
 | 6,_=>exact⟨_,H,rfl⟩
 | 7,_=>exact⟨_,I,rfl⟩
 | 8,_=>exact⟨_,J,rfl⟩
 | 9,_=>exact⟨_,K,rfl⟩
 | 10,_=>exact⟨_,o,rfl⟩
 rw [Iq] at f;match i,f with
 | 0,_ | 1,_ | 2,_ | 3,_ | 4,_ | 5,_ | 6,_ | 7,_ | 8,_ | 9,_ | 10,_=>exact⟨rfl,rfl,rfl⟩
 have a:base.get i=some b:=a;have f:i<13:=Mem.I8 l a;match i,f with
 | 0,_ | 1,_ | 2,_ | 3,_ | 4,_ | 5,_ | 6,_ | 7,_ | 8,_ | 9,_ | 10,_=>rfl
 | 11,_=>rw [p] at a;cases a;cases S
 | 12,_=>rw [q] at a;cases a;cases S
 rw [Iq] at f;have y:∀{n:String} {k:IntKind} {ns:List Int} {g N:Nat},Tryz.prog.globalNamed n=some g->ns.length=N->Lib.TabIs Tryz.prog w n k ns->∃c e m,w.heap[g]?=some (Obj.cells c e m)∧c.size=1*N:=λs V L=>by obtain⟨e,m,h⟩:=KR s L;exact⟨_,e,m,h,by simp [V]⟩
 have u:∀{n:String} {x:Value} {g:Nat},Tryz.prog.globalNamed n=some g->w.var? Tryz.prog n=some #[x]->∃c e m,w.heap[g]?=some (Obj.cells c e m)∧c.size=1*1:=λs L=>by obtain⟨e,m,h⟩:=KR s L;exact⟨_,e,m,h,rfl⟩
 match i,f with
 | 0,_=>rw [B] at d;cases d;exact u gn0 z
 | 1,_=>rw [C] at d;cases d;exact u gn1 P
 | 3,_=>rw [E] at d;cases d;exact y gn3 rfl R
 | 4,_=>rw [F] at d;cases d;exact y gn4 rfl Q
 | 2,_=>rw [D] at d;cases d
 | 5,_=>rw [G] at d;cases d
 | 6,_=>rw [H] at d;cases d
 | 7,_=>rw [I] at d;cases d
 | 8,_=>rw [J] at d;cases d
 | 9,_=>rw [K] at d;cases d
 | 10,_=>rw [o] at d;cases d
open Go Go.AM Go.ChangeShapes Go.WideShapes Go.ChangeAt Go.RowKit
theorem QS {H:Type}{d:TypeId×Value->H}{P:Program}{f:Func}{s:ChangeSpec}{c o e n:Bool}{W W':World}{args:Array Value}{v:Value}{q u:List (DataW H)}{before pa pv:List MemPlace}
  (x:DataW.Whole d P f.params.toList s.vars c W args.toList q u before)
  (m:∀(b:Nat) (sp:Nat->Bool) (hd:Bool),DataW.TrodAll d P W' b sp hd f.resultTypes.toList (v.resultList f.resultTypes.size) (s.fn H (q++u)).results [])
  (g:∀sp:Nat->Bool,(∀p∈before,sp p.block=true)->DataW.TrodAll d P W' 0 sp true f.params.toList args.toList (s.fn H (q++u)).args pa)
  (h:∀sp:Nat->Bool,(∀p∈before,sp p.block=true)->DataW.TrodVars d P W' sp s.vars (s.fn H (q++u)).vars pv)
  (k:before=pa++pv) (D:W.keptBut W' (·∈before)) (y:∀a,a.block<W.heap.size->W'.frozen? a=W.frozen? a)
  (A:∀(j:Nat) (t:TypeId) (r:Value),f.resultTypes[j]?=some t->(v.resultList f.resultTypes.size)[j]?=some r->Value.okWide P W' .any 0 t r):
  s.post d P f c o e n W args v W':=by
 have l:∀p∈before,(λb=>decide (b<W.heap.size)) p.block=true:=λp i=>by simpa using x.lt p i
 have z:=x.lt;refine⟨q,u,before,[],pa,pv,x,m _ _ _,g _ l,h _ l,World.keptBut_mono (λp i=>⟨i,?_⟩) D,λ_=>?_⟩;rw [k,aau] at i;exact Or.inr i;obtain⟨_,_,_,_,_,F,E⟩:=x;refine⟨A,_,_,([]++pa)++pv,⟨[]++pa,pv,trodAll_append (g _ (λ_ _=>rfl)) (m _ _ _),h _ (λ_ _=>rfl),rfl,?_,?_⟩,?_⟩;intro b w i;have B:MemPlace.cell b w∈before:=by rw [k];simpa using i
 rw [y _ (z _ B)];exact F b w B;intro C;have:=E C;rw [k] at this;simpa using this;intro p i _;rw [k];simpa using i
theorem aeo:aen Tryz.prog 3 9 101 63 65 33:=⟨by kernel_rfl,by kernel_rfl,by kernel_rfl,by kernel_rfl,by kernel_rfl,by kernel_rfl,by kernel_rfl,by kernel_rfl⟩
theorem aak:YB Tryz.prog [33,65,3,9,63,101]=true:=by kernel_rfl
theorem ny {H:Type}:∀l:List (DataW H),Rows.uptoBulkAll l=(l.map Rows.uptoBulk).sum
 | []=>by rw [Rows.uptoBulkAll];rfl
 | d::l=>by rw [Rows.uptoBulkAll,ny l];rfl
theorem agB {H:Type}{k:TypeId×Value->H}{c:Bool}{ι:K7}{m:Mem}{w:World}(I:RM Tryz.prog base ι m w.heap)(G:m.lim=m.nx){M N:Nat}{h j:List Value}{A Q:DataW H×List MemPlace}
  (h0:DataW.trod k Tryz.prog w 0 (λ_=>true) c M 33 h=some A) (D:DataW.trod k Tryz.prog w 0 (λ_=>true) c N 9 j=some Q) (hb:Rows.uptoBulk A.1<=1048576) (T:base.nx<=m.nx):
  ∃v0 v1,h=[v0]∧j=[v1]∧Calls Tryz.prog 6 #[v0,v1] w λe w'=>e=.returned (.bool true)∧w.heap.size<=w'.heap.size∧(∀b,b<w.heap.size->w'.heap[b]?=w.heap[b]?)∧w'.os=w.os∧w'.output=w.output∧w'.tape=w.tape:=by
 obtain⟨y,K,P,L1,C,U,S1⟩:=adC (mu:=Rows.uptoBulk) (λe s=>by rw [Rows.uptoBulk,ny,ny];omega) (λp=>by rw [Rows.uptoBulk,ny];exact aP _) (λb=>by rw [Rows.uptoBulk];exact aP _) aak _ _ _ _ D (by decide) ι m I G;obtain⟨f,rfl,_⟩:=Iu aeo.s S1;obtain⟨a,o,O,L0,B,J,S0⟩:=adC (mu:=Rows.uptoBulk) (λe s=>by rw [Rows.uptoBulk,ny,ny];omega) (λp=>by rw [Rows.uptoBulk,ny];exact aP _) (λb=>by rw [Rows.uptoBulk];exact aP _) aak _ _ _ _ h0 (by decide) y K L1.rm L1.lim;have t:o.Ok:=L0.rm.ok;obtain⟨v,l,rfl,S1,R,S⟩:=(aai aeo t _).2 _ _ S0;have q:13<=o.nx:=gI (L0.rm.glim) (L0.rm.limn);obtain⟨L,g,E⟩:=akD t (Nat.le_of_eq L0.lim) q S1 (by omega) (by omega) f 90000 20000 (aP _) (aP _);obtain⟨V,g,n⟩:∃l,r9 KW 20000 (90000+1) (.func 6) [v,.str f] o=some l∧∀r∈l,r=⟨.bool true,L⟩:=by rcases g with g | g;exact⟨_,g,λr d=>aA.1 d⟩;exact⟨_,g,λr d=>by simpa using d⟩
 refine⟨u6 a v,u6 a (.str f),by rw [← B];simp [z8],by rw [← C];simp [z8,u6],?_⟩;have z:=((Cy akW 20000 (90000+1)).func g).2 L0.rm (show bB (o.nm a) [v,.str f] from⟨J.1,trivial,trivial⟩);have F:(z8 a [v,.str f]).toArray=#[u6 a v,u6 a (.str f)]:=by simp [z8,u6]
 rw [F] at z;refine callsIn_wide.1 (z.mono ?_);rintro e w' (⟨u,rfl,r,d,ι9,hst,hlt,rfl⟩ | ⟨r,d,x,ι9,hx,_⟩);obtain rfl:=n r d;refine⟨by simp [u6],hst.size,λb hb=>hst.frame b hb ?_,hst.os,hst.out,hst.tape⟩;rintro⟨i,x,hi,hx,_,_⟩;have:=Mem.I8 t hx;have:=L0.lim;omega;obtain rfl:=n r d;cases hx
end Go.Proofs.YteecnooaopfkeaaGreatDoor.TT
