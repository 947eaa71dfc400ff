/- The row of BenchEvals in the evaluator's words; conditions: the row's own. -/
import Derived.Test.YtcnimimffiiimaaGreatDoorPD7
import Derived.Test.YtcnimimffiiimaaGreatDoorPC7
import Derived.Test.YtcnimimffiiimaaGreatDoorPR2
import Derived.Lib.AppendIntMem
import Derived.OpenShut
import Derived.ProofKit
import Derived.LaidMore
import Derived.ChangeSame
import Derived.Carry
import Derived.Below
import Derived.Test.YtcnimimffiiimaaGreatDoorRows
set_option linter.all false
namespace Go.Proofs.YtcnimimffiiimaaGreatDoor.TT
open Go Go.AM Go.RowKit
set_option maxRecDepth 100000
section
variable {P:Program}{G:Mem}{Y:H6}{m:Mem}{w:World}
theorem adu {n:String}{g:Nat}{cs:Array Value}{e:TypeId}{a:Nat×Nat}(b:P.globalNamed n=some g)(h:w.heap[g]?=some (.cells cs e a)):w.var? P n=some cs:=by unfold World.var?;rw [b];simp [h]
theorem ZJ (b:RM P G Y m w.heap){i:Nat}{k:IntKind}{ns:List Int}(f:i<P.globals.size)(l:G.get i=some (.cells ns.length 1 (T.ofList [ns.map (d9.int k)]))):
  ∃e fz,w.heap[i]?=some (.cells (ns.map (Value.int k)).toArray e fz):=by
 obtain⟨c,e,fz,n,y,_,s⟩:=b.blk i _ ((b.base i (q9 f b.gle)).trans l);obtain⟨q,r,x⟩:=b.glob i f;obtain⟨u,v,p,a,z⟩:=b.gsz i _ _ _ f l;rw [q,a] at n;cases n;obtain⟨g,o,A,B,t⟩:=s 0 (by omega);have d:g=ns.map (d9.int k):=by rw [T.aG] at o;simpa using o.symm
 subst d;suffices h:c=(ns.map (Value.int k)).toArray by rw [h] at a;exact⟨_,_,a⟩
 apply ac2;intro j;by_cases hj:j<ns.length;have:=t j hj;rw [r,ac7,Z8,Z8] at this;rw [this];simp [hj,l7];rw [aeB (by omega),aeB (by simp;omega)]
theorem adv (c:RM P G Y m w.heap){i:Nat}{n:String}{k:IntKind}{ns:List Int}(d:P.globalNamed n=some i)(b:i<P.globals.size)(a:G.get i=some (.cells ns.length 1 (T.ofList [ns.map (d9.int k)]))):Lib.TabIs P w n k ns:=by obtain⟨e,f,h⟩:=ZJ c b a;exact adu d h
theorem Jr {v:d9}(n:Nat)(a:vR n [v]=[])(b:∀r,jD r [v]=some [v])(m:Mem):zV n ⟨v,m⟩=some ⟨v,[]⟩:=by show ob (jS n [v] m) _=_;rw [NW m a b];rfl
end
section
variable {Y:H6}{w:World}
theorem Mv:Tryz.prog.globals.size=11:=by kernel_rfl
end
theorem gnP:Tryz.prog.globalNamed "internal/strconv.uint64pow10"=some 4:=by kernel_rfl
theorem ap7 {Y:H6}{w:World}(a:RM Tryz.prog base Y (R5 base []) w.heap):Lib.TabIs Tryz.prog w "internal/strconv.uint64pow10" .u64 Lib.pow10Tab:=by have h:=adv (ns:=nsP) (k:=.u64) a gnP (by rw [Mv];omega) rfl;rw [show Lib.pow10Tab=nsP by decide +kernel];exact h
theorem Wx (n:Int)(h0:0<=n)(a:n<=9223372036854775807):jh Tryz.prog base 230 [.int .i64 n] [] ⟨.str (Lib.itoa n),[]⟩:=
 qc (Jr _ rfl (λ_=>rfl) _) (λ_=>trivial) (λ_ _=>by simp [l7]) λι w b=>by refine aeR (Tryz.strconv_Itoa n (by omega) a w (ap7 b)) ?_;rintro e w' ⟨rfl,k,os,rfl⟩;exact⟨by simp [l7],Lib.below_grow _ w (lM _) k os⟩
theorem ZK {f:FuncId}{args:List d9}{d:List NB}{a:AV}(h:aco f args d=some a):jh Tryz.prog base f args d a:=by unfold aco at h;split at h;split at h;split at h;rename_i b;subst b;cases h;exact IY (λs c w=>Tryz.strings_Contains_one s c w) _ _;cases h;split at h;rename_i b;obtain⟨rfl,e,g⟩:=b;cases h;exact Wx _ e g;cases h;cases h;cases h
theorem ZL:∀f args bs a,KW.sum f args bs=some a->jh Tryz.prog base f args bs a:=by
 intro f args bs a h;have h:Vn f args bs=some a:=h;unfold Vn at h;split at h;have c:∀s∈[qS],jh Tryz.prog base s.f s.args s.bs s.a:=λs d=>by rcases aA.1 d with rfl;exact qoS
 exact wF [qS] c _ _ _ _ h;split at h;rename_i b;subst b;exact Pz (show Vl 183 args bs=some a from h);exact ZK h
theorem aiA:Un Tryz.prog KW:=by
 refine⟨mixed,λf sf h=>?_,⟨BI,uG⟩,ZL,λ{f args m outs} h=>?_⟩;have h:(fns f).map (λsf=>{sf with pure:=PD f})=some sf:=h;cases hf:fns f with
 | none=>rw [hf] at h;cases h
 | some s0=>rw [hf] at h;cases h;exact Gs (Oe f s0 hf) _
 exact Py ⟨BI,uG⟩ mixed (show YB f args m=some outs from h)
end Go.Proofs.YtcnimimffiiimaaGreatDoor.TT
namespace Go.AM
open Go
set_option linter.unusedVariables false
def fdT (P:Program)(t:TypeId):Option (List TypeId):=match P.underlying t with
 | some (.struct fs)=>some (fs.toList.map (·.type))
 | _=>none
def slT (P:Program)(t:TypeId):Option TypeId:=match P.underlying t with
 | some (.slice e)=>some e
 | _=>none
def inT (P:Program)(t:TypeId):Option IntKind:=match P.underlying t with
 | some (.int k)=>some k
 | _=>none
def Ox (S:TypeId->Nat->List d9->Prop):List TypeId->Nat->List d9->Prop
 | [],b,vs=>vs=[]∧1<=b
 | t::ts,b,vs=>∃a c b1 b2,vs=a++c∧S t b1 a∧Ox S ts b2 c∧b1+b2<=b
theorem GD {S:TypeId->Nat->List d9->Prop}:∀fs b vs,tJ S fs b vs->Ox S (fs.map (·.type)) b vs
 | [],_,_,h=>h
 | _::fs,_,_,⟨a,c,b1,b2,h1,h2,h3,h4⟩=>⟨a,c,b1,b2,h1,h2,GD fs b2 c h3,h4⟩
section
variable {P:Program}{m:Mem}{n:Nat}{t:TypeId}{b:Nat}{vs:List d9}
theorem AO {ts:List TypeId}(h:fdT P t=some ts)(hs:gN P m (n+1) t b vs):Ox (gN P m n) ts b vs:=by unfold gN at hs;unfold fdT at h;split at h;rename_i c a;rw [a] at hs;cases h;exact GD _ _ _ hs;cases h
theorem Eh {k:IntKind}(h:inT P t=some k)(hs:gN P m n t b vs):∃i,vs=[.int k i]:=by
 cases n with
 | zero=>exact hs.elim
 | succ n=>unfold gN at hs;unfold inT at h;split at h;rename_i c a;rw [a] at hs;cases h;exact⟨_,hs.choose_spec.1⟩;cases h
theorem Mw (h:(match P.underlying t with | some .string=>true | _=>false)=true)(hs:gN P m n t b vs):∃s:List UInt8,vs=[.str s]∧s.length+1<=b:=by
 cases n with
 | zero=>exact hs.elim
 | succ n=>unfold gN at hs;split at h;rename_i a;rw [a] at hs;exact hs;cases h
theorem GH {α:Type}{At:α->List d9->Prop}{Rw:List α->List (List d9)->Prop}{Bd:α->Nat->Prop}{Bds:List α->Nat->Prop}(hm:m.Ok)
  (s:Rw [] []) (G:∀e es r rs,At e r->Rw es rs->Rw (e::es) (r::rs)) (b0:Bds [] 0) (u:∀e es b c,Bd e b->Bds es c->Bds (e::es) (b+c))
  {e:TypeId} {rs:Nat} (h:slT P t=some e) (C:P.cellsOf e=rs) (F:∀b row,gN P m n e b row->∃x,At x row∧Bd x b) (hs:gN P m (n+1) t b vs):
  ∃v l rl c,vs=[v]∧oW m (λ_=>True) rs v rl∧Rw l rl∧Bds l c∧c<=b:=by
 unfold gN at hs;unfold slT at h;split at h;rename_i H E;rw [E] at hs;cases h;subst C;rcases hs with rfl | ⟨id,len,cap,rfl,hl,⟨rfl,hd⟩ | ⟨rows,bs,h1,h2,h3,h4⟩⟩;exact⟨_,[],[],0,rfl,.inl ⟨rfl,rfl⟩,s,b0,aeN _⟩;obtain rfl:len=0:=by omega
 exact⟨_,[],[],0,rfl,.inr ⟨id,0,trivial,.inl ⟨0,by simp,by simp⟩,Mem.F9 hm hd,.inl rfl⟩,s,b0,aeN _⟩;have d:∀k j,j+k=len->∃(l:List α) (rl:List (List d9)),rl.length=k∧(∀r,r∈rl->r.length=P.cellsOf e)∧(∀i (h:i<rl.length),rows.get (j+i)=some rl[i])∧Rw l rl∧Bds l (Rv bs j k):=by
  intro k;induction k with
  | zero=>exact λj _=>⟨[],[],rfl,(by intro r a;cases a),(λi h=>absurd h (Nat.not_lt_zero _)),s,b0⟩
  | succ k ihk=>
   intro j I;obtain⟨l,rl,f,g,o,p,q⟩:=ihk (j+1) (by omega);obtain⟨row,w,y,z⟩:=h4 j (by omega);obtain⟨x,A,B⟩:=F _ _ (z (by omega));refine⟨x::l,row::rl,by simp [f],?_,?_,G _ _ _ _ A p,u _ _ _ _ B q⟩;intro r a;rcases X4.1 a with rfl | a;exact y;exact g r a;intro i D;cases i with
   | zero=>exact w
   | succ i=>have:=o i (by simpa using D);rw [aeM,← this];congr 1;omega
 obtain⟨l,rl,f,g,o,p,q⟩:=d len 0 (by omega);refine⟨_,l,rl,_,rfl,.inr ⟨id,0,trivial,.inl ⟨cap,by rw [f,ac7],by omega⟩,Mem.F9 hm h2,.inr ⟨cap,rows,h2,by omega,g,o⟩⟩,p,q,by omega⟩;cases h
end
end Go.AM
namespace Go.Proofs.YtcnimimffiiimaaGreatDoor.TT
open Go Go.AM
set_option linter.unusedVariables false
structure aaQ (P:Program)(tI tS tE tEs tT tTs:TypeId):Prop where
 i:inT P tI=some .i64
 s:(match P.underlying tS with | some .string=>true | _=>false)=true
 e:fdT P tE=some [tI,tI,tS,tEs]
 es:slT P tEs=some tE
 t:fdT P tT=some [tI,tS,tEs,tTs,tTs]
 ts:slT P tTs=some tT
 ce:P.cellsOf tE=4
 ct:P.cellsOf tT=5
section
variable {P:Program}{m:Mem}{tI tS tE tEs tT tTs:TypeId}(L:aaQ P tI tS tE tEs tT tTs)(hm:m.Ok)
include L hm
theorem Wy:∀n,(∀b row,gN P m n tE b row->∃x,bU m (λ_=>True) x row∧gQ x<=b)∧(∀b vs,gN P m n tEs b vs->∃v l,vs=[v]∧vF m (λ_=>True) l v∧Z0 l<=b)
 | 0=>⟨λ_ _ h=>h.elim,λ_ _ h=>h.elim⟩
 | n+1=>by obtain⟨i1,i2⟩:=Wy n;refine⟨λb row h=>?_,λb vs h=>?_⟩;obtain⟨a1,c1,x1,y1,rfl,s1,⟨a2,c2,x2,y2,rfl,s2,⟨a3,c3,x3,y3,rfl,s3,⟨a4,c4,x4,y4,rfl,s4,⟨rfl,h5⟩,h4⟩,h3⟩,h2⟩,h1⟩:=AO L.e h;obtain⟨k,rfl⟩:=Eh L.i s1;obtain⟨k2,rfl⟩:=Eh L.i s2;obtain⟨s,rfl,hs⟩:=Mw L.s s3;obtain⟨v,l,rfl,⟨rows,q1,q2⟩,q3⟩:=i2 _ _ s4;exact⟨.mk k k2 s l,⟨v,rows,rfl,q1,q2⟩,by rw [gQ];omega⟩;obtain⟨v,l,rl,c,rfl,q1,q2,q3,q4⟩:=GH (At:=λe r=>bU m (λ_=>True) e r) (Rw:=λl r=>G8 m (λ_=>True) l r) (Bd:=λe b=>gQ e<=b) (Bds:=λl b=>Z0 l<=b) hm rfl (λe es r rs h1 h2=>⟨r,rs,rfl,h1,h2⟩) (lM 0) (λe es b c h1 h2=>by rw [Z0];omega) L.es L.ce i1 h;exact⟨v,l,rfl,⟨rl,q1,q2⟩,by omega⟩
end
open Go Go.AM Go.RowKit
set_option maxRecDepth 100000
theorem Ei {w:World}{b o:Nat}{v:Value}(h:w.cell? ⟨b,o,none⟩=some v):∃c e fz,w.heap[b]?=some (Obj.cells c e fz)∧c[o]?=some v:=by unfold World.cell? at h;split at h;rename_i c e fz a;exact⟨c,e,fz,a,by simpa using h⟩;cases h
theorem lW {P:Program}{Y:H6}{n:Nm}{w:World}{l:AM.Loc}{row:List d9}{N:Nat}(p:row.length=N)(h0:0<N)(u:l.cap=N)(f:X0 n row)
  (h:∀j v,row[j]?=some v->w.cell? ⟨l.b,l.base+j,none⟩=some (l7 Y v)):bO P Y n w.heap l (.cells N 1 (T.ofList [row])):=by
 subst p;obtain⟨c,e,m,g,q⟩:=Ei (h (row.length-1) row[row.length-1] (by simp));refine⟨c,e,m,g,?_,⟨by omega,1,lM _,T.dZ [_],vV λ_=>rfl⟩,λi t=>?_⟩;have:=(q8.1 q).1;omega;obtain rfl:i=0:=by omega
 refine⟨row,rfl,rfl,f,λj k=>?_⟩;obtain⟨r,s,o,a,d⟩:=Ei (h j row[j] (by simp [k]));rw [g] at a;cases a;simpa [k] using d
theorem Ej (n:Nm)(k:IntKind):∀l:List Int,X0 n (l.map (d9.int k))
 | []=>trivial
 | _::l=>⟨trivial,Ej n k l⟩
theorem GI {P:Program}{w:World}{n:String}{g:Nat}{cs:Array Value}(b:P.globalNamed n=some g)(h:w.var? P n=some cs):∃e fz,w.heap[g]?=some (Obj.cells cs e fz):=by unfold World.var? at h;rw [b] at h;simp only [ac3] at h;split at h;rename_i c e fz a;cases h;exact⟨e,fz,a⟩;cases h
theorem GJ {P:Program}{w:World}{n:String}{g:Nat}{k:IntKind}{ns:List Int}(d:P.globalNamed n=some g)(h:Lib.TabIs P w n k ns)(Y:H6):∀j v,(ns.map (d9.int k))[j]?=some v->w.cell? ⟨g,0+j,none⟩=some (l7 Y v):=by intro j v a;rw [aas,aay] at a;obtain⟨z,b,rfl⟩:=a;have c:=(gq.1 b).1;rw [Z8,h.cell d j c];simp [l7,List.getD,b]
theorem gn0:Tryz.prog.globalNamed "strconv.ErrSyntax"=some 0:=by kernel_rfl
theorem gn1:Tryz.prog.globalNamed "strconv.ErrRange"=some 1:=by kernel_rfl
theorem gn3:Tryz.prog.globalNamed "strings.asciiSpace"=some 3:=by kernel_rfl
theorem gn4:Tryz.prog.globalNamed "internal/strconv.uint64pow10"=some 4:=by kernel_rfl
def Wz (a2 a3:Addr):H6:=λi=>⟨if i=11 then a2.block else if i=12 then a3.block else i,if i=11 then a2.off else if i=12 then a3.off else 0,
 if i=0 then 1 else if i=1 then 1 else if i=3 then 256 else if i=4 then 20 else 0,if i=11 then a2.spot else if i=12 then a3.spot else none⟩
theorem ZM {w:World}{M O:Addr}(R:Lib.TabIs Tryz.prog w "internal/strconv.uint64pow10" .u64 nsP)(Q:Lib.TabIs Tryz.prog w "strings.asciiSpace" .u8 nsA)
  (z:w.var? Tryz.prog "strconv.ErrSyntax"=some #[.iface 432 (.pointer (some M))]) (P:w.var? Tryz.prog "strconv.ErrRange"=some #[.iface 432 (.pointer (some O))]):∃Y,RM Tryz.prog base Y (R5 base []) w.heap:=by
 refine⟨Wz M O,?_⟩;have s:base.nx=13:=rfl;have l:T.Ok base.t base.nx:=uG.ok;have B:base.get 0=some (.cells 1 1 (T.ofList [[d9.iface 432 (.ptr 11 0)]])):=rfl;have C:base.get 1=some (.cells 1 1 (T.ofList [[d9.iface 432 (.ptr 12 0)]])):=rfl;have E:base.get 3=some (.cells nsA.length 1 (T.ofList [nsA.map (d9.int .u8)])):=rfl;have F:base.get 4=some (.cells nsP.length 1 (T.ofList [nsP.map (d9.int .u64)])):=rfl;have D:base.get 2=some .dead:=rfl;have G:base.get 5=some .dead:=rfl;have H:base.get 6=some .dead:=rfl;have I:base.get 7=some .dead:=rfl;have J:base.get 8=some .dead:=rfl;have K:base.get 9=some .dead:=rfl;have o:base.get 10=some .dead:=rfl;have p:base.get 11=some .dead:=rfl;have q:base.get 12=some .dead:=rfl;have A:∀i b,base.get i=some b->bF b=false->(R5 base []).has i:=λi b A r=>⟨b,A,r⟩;refine⟨l,λi b a=>?_,λi b f a=>?_,lM _,lM _,by rw [Mv,s];omega,λi f=>rfl,λi f=>?_,λi f=>?_,λi b a S=>?_,λi X k U f d=>?_⟩;have a:base.get i=some b:=a;have f:i<13:=Mem.F9 l a;match i,f with
 | 0,_=>
  rw [B] at a;cases a;refine lW (by rfl) (by decide) rfl ⟨A 11 _ p rfl,trivial⟩ λj v r=>?_;obtain rfl:j=0:=by have:=(gq.1 r).1;simpa using this
  cases r;have:=World.var?_cell gn0 z 0;simpa [l7,H6.at,Wz] using this
 | 1,_=>
  rw [C] at a;cases a;refine lW (by rfl) (by decide) rfl ⟨A 12 _ q rfl,trivial⟩ λj v r=>?_;obtain rfl:j=0:=by have:=(gq.1 r).1;simpa using this
  cases r;have:=World.var?_cell gn1 P 0;simpa [l7,H6.at,Wz] using this
 | 2,_=>rw [D] at a;cases a;trivial
 | 3,_=>rw [E] at a;cases a;exact lW (by simp) (by decide) rfl (Ej _ _ _) (GJ gn3 Q _)
 | 4,_=>rw [F] at a;cases a;exact lW (by simp) (by decide) rfl (Ej _ _ _) (GJ gn4 R _)
 | 5,_=>rw [G] at a;cases a;trivial
 | 6,_=>rw [H] at a;cases a;trivial
 | 7,_=>rw [I] at a;cases a;trivial
 | 8,_=>rw [J] at a;cases a;trivial
 | 9,_=>rw [K] at a;cases a;trivial
 | 10,_=>rw [o] at a;cases a;trivial
 | 11,_=>rw [p] at a;cases a;trivial
 | 12,_=>rw [q] at a;cases a;trivial
 have a:base.get i=some b:=a;have W:i<13:=Mem.F9 l a;have z:base.nx<=i:=f;rw [s] at z;omega;rw [Mv] at f;match i,f with
 | 0,_=>exact⟨_,B,rfl⟩
 | 1,_=>exact⟨_,C,rfl⟩
 | 2,_=>exact⟨_,D,rfl⟩
 | 3,_=>exact⟨_,E,rfl⟩
 | 4,_=>exact⟨_,F,rfl⟩
 | 5,_=>exact⟨_,G,rfl⟩
 | 6,_=>exact⟨_,H,rfl⟩
 | 7,_=>exact⟨_,I,rfl⟩
 | 8,_=>exact⟨_,J,rfl⟩
 | 9,_=>exact⟨_,K,rfl⟩
 | 10,_=>exact⟨_,o,rfl⟩
 rw [Mv] at f;match i,f with
 | 0,_ | 1,_ | 2,_ | 3,_ | 4,_ | 5,_ | 6,_ | 7,_ | 8,_ | 9,_ | 10,_=>exact⟨rfl,rfl,rfl⟩
 have a:base.get i=some b:=a;have f:i<13:=Mem.F9 l a;match i,f with
 | 0,_ | 1,_ | 2,_ | 3,_ | 4,_ | 5,_ | 6,_ | 7,_ | 8,_ | 9,_ | 10,_=>rfl
 | 11,_=>rw [p] at a;cases a;cases S
 | 12,_=>rw [q] at a;cases a;cases S
 rw [Mv] at f;have y:∀{n:String} {k:IntKind} {ns:List Int} {g N:Nat},Tryz.prog.globalNamed n=some g->ns.length=N->Lib.TabIs Tryz.prog w n k ns->∃c e m,w.heap[g]?=some (Obj.cells c e m)∧c.size=1*N:=λs V L=>by obtain⟨e,m,h⟩:=GI s L;exact⟨_,e,m,h,by simp [V]⟩
 have u:∀{n:String} {x:Value} {g:Nat},Tryz.prog.globalNamed n=some g->w.var? Tryz.prog n=some #[x]->∃c e m,w.heap[g]?=some (Obj.cells c e m)∧c.size=1*1:=λs L=>by obtain⟨e,m,h⟩:=GI s L;exact⟨_,e,m,h,rfl⟩
 match i,f with
 | 0,_=>rw [B] at d;cases d;exact u gn0 z
 | 1,_=>rw [C] at d;cases d;exact u gn1 P
 | 3,_=>rw [E] at d;cases d;exact y gn3 rfl Q
 | 4,_=>rw [F] at d;cases d;exact y gn4 rfl R
 | 2,_=>rw [D] at d;cases d
 | 5,_=>rw [G] at d;cases d
 | 6,_=>rw [H] at d;cases d
 | 7,_=>rw [I] at d;cases d
 | 8,_=>rw [J] at d;cases d
 | 9,_=>rw [K] at d;cases d
 | 10,_=>rw [o] at d;cases d
open Go Go.AM Go.ChangeShapes Go.WideShapes Go.ChangeAt Go.RowKit
theorem Mx {H:Type}{enc:TypeId×Value->H}{P:Program}{f:Func}{s:ChangeSpec}{c n d m:Bool}{W W':World}{args:Array Value}{v:Value}{o q:List (DataW H)}{before pa pv:List MemPlace}
  (w:DataW.Whole enc P f.params.toList s.vars c W args.toList o q before)
  (l:∀(b:Nat) (sp:Nat->Bool) (hd:Bool),DataW.TrodAll enc P W' b sp hd f.resultTypes.toList (v.resultList f.resultTypes.size) (s.fn H (o++q)).results [])
  (e:∀sp:Nat->Bool,(∀p∈before,sp p.block=true)->DataW.TrodAll enc P W' 0 sp true f.params.toList args.toList (s.fn H (o++q)).args pa)
  (g:∀sp:Nat->Bool,(∀p∈before,sp p.block=true)->DataW.TrodVars enc P W' sp s.vars (s.fn H (o++q)).vars pv)
  (i:before=pa++pv) (C:W.keptBut W' (·∈before)) (x:∀a,a.block<W.heap.size->W'.frozen? a=W.frozen? a)
  (z:∀(j:Nat) (t:TypeId) (r:Value),f.resultTypes[j]?=some t->(v.resultList f.resultTypes.size)[j]?=some r->Value.okWide P W' .any 0 t r):
  s.post enc P f c n d m W args v W':=by
 have k:∀p∈before,(λb=>decide (b<W.heap.size)) p.block=true:=λp h=>by simpa using w.lt p h
 have y:=w.lt;refine⟨o,q,before,[],pa,pv,w,l _ _ _,e _ k,g _ k,World.keptBut_mono (λp h=>⟨h,?_⟩) C,λ_=>?_⟩;rw [i,Z5] at h;exact Or.inr h;obtain⟨_,_,_,_,_,E,D⟩:=w;refine⟨z,_,_,([]++pa)++pv,⟨[]++pa,pv,trodAll_append (e _ (λ_ _=>rfl)) (l _ _ _),g _ (λ_ _=>rfl),rfl,?_,?_⟩,?_⟩;intro b u h;have A:MemPlace.cell b u∈before:=by rw [i];simpa using h
 rw [x _ (y _ A)];exact E b u A;intro B;have:=D B;rw [i] at this;simpa using this;intro p h _;rw [i];simpa using h
theorem Qn:aaQ Tryz.prog 3 9 33 31 42 22:=⟨by kernel_rfl,by kernel_rfl,by kernel_rfl,by kernel_rfl,by kernel_rfl,by kernel_rfl,by kernel_rfl,by kernel_rfl⟩
theorem WA:Uw Tryz.prog [33,34,62,3,9,31]=true:=by kernel_rfl
theorem apb:slT Tryz.prog 34=some 62:=by kernel_rfl
theorem apc:fdT Tryz.prog 62=some [9,3]:=by kernel_rfl
theorem apd:Tryz.prog.cellsOf 62=2:=by kernel_rfl
theorem adx {m:Mem}:∀n b row,gN Tryz.prog m n 62 b row->∃p:List UInt8×Int,row=[.str p.1,.int .i64 p.2]∧True
 | 0,_,_,h=>h.elim
 | n+1,b,row,h=>by obtain⟨a1,c1,x1,y1,rfl,s1,⟨a2,c2,x2,y2,rfl,s2,⟨rfl,h3⟩,h2⟩,h1⟩:=AO apc h;obtain⟨s,rfl,_⟩:=Mw Qn.s s1;obtain⟨k,rfl⟩:=Eh Qn.i s2;exact⟨(s,k),rfl,trivial⟩
theorem ZN {m:Mem}(hm:m.Ok):∀n b vs,gN Tryz.prog m n 34 b vs->∃v V,vs=[v]∧aR m 2 v (P7 V)
 | 0,_,_,h=>h.elim
 | n+1,b,vs,h=>by obtain⟨v,l,rl,c,rfl,q1,q2,_⟩:=GH (α:=List UInt8×Int) (At:=λp r=>r=[.str p.1,.int .i64 p.2]) (Rw:=λl r=>r=P7 l) (Bd:=λ_ _=>True) (Bds:=λ_ _=>True) hm rfl (λe es r rs h1 h2=>by rw [h1,h2];rfl) trivial (λ_ _ _ _ _ _=>trivial) apb apd (λb row h=>adx n b row h) h;subst q2;exact⟨v,l,rfl,q1.slice⟩
theorem nE {H:Type}:∀l:List (DataW H),Rows.uptoBulkAll l=(l.map Rows.uptoBulk).sum
 | []=>by rw [Rows.uptoBulkAll];rfl
 | d::l=>by rw [Rows.uptoBulkAll,nE l];rfl
theorem ady {H:Type}{enc:TypeId×Value->H}{c:Bool}{Y:H6}{m:Mem}{w:World}(F:RM Tryz.prog base Y m w.heap)(D:m.lim=m.nx){n0 J:Nat}{d f:List Value}{L M:DataW H×List MemPlace}
  (h0:DataW.trod enc Tryz.prog w 0 (λ_=>true) c n0 33 d=some L) (A:DataW.trod enc Tryz.prog w 0 (λ_=>true) c J 34 f=some M):
  ∃v1,f=[v1]∧Calls Tryz.prog 4 #[.agg d.toArray,v1] w λe w'=>e=.returned (.bool true)∧w.heap.size<=w'.heap.size∧(∀b,b<w.heap.size->w'.heap[b]?=w.heap[b]?)∧w'.os=w.os∧w'.output=w.output∧w'.tape=w.tape:=by
 obtain⟨n,I,K,L1,z,q,S1⟩:=aal (mu:=Rows.uptoBulk) (λe s=>by rw [Rows.uptoBulk,nE,nE];omega) (λp=>by rw [Rows.uptoBulk,nE];exact lM _) (λb=>by rw [Rows.uptoBulk];exact lM _) WA _ _ _ _ A (by decide) Y m F D;obtain⟨a,t,h,L0,y,G,S0⟩:=aal (mu:=Rows.uptoBulk) (λe s=>by rw [Rows.uptoBulk,nE,nE];omega) (λp=>by rw [Rows.uptoBulk,nE];exact lM _) (λb=>by rw [Rows.uptoBulk];exact lM _) WA _ _ _ _ h0 (by decide) n I L1.rm L1.lim;have j:t.Ok:=L0.rm.ok;obtain⟨x,S2,N⟩:=(Wy Qn j _).1 _ _ S0;obtain⟨v,V,rfl,S3⟩:=ZN j _ _ _ (uz L0.get _ _ _ _ S1);obtain⟨O,g,E⟩:=aie j (Nat.le_of_eq L0.lim) S3 S2 330 20000 (by omega) (lM _);have k:=(L0.l7 q).trans z;have l:=L0.lt q;refine⟨l7 a v,by rw [← k];simp [o9],?_⟩;have o:=((zB aiA 20000 (330+1)).func g).2 L0.rm (show X0 (t.nm a) [.agg h,v] from⟨G,l⟩);have C:(o9 a [.agg h,v]).toArray=#[.agg d.toArray,l7 a v]:=by rw [← y];simp [o9,l7]
 rw [C] at o;refine callsIn_wide.1 (o.mono ?_);rintro e w' (⟨u,rfl,r,hr,Y9,hst,hlt,rfl⟩ | ⟨r,hr,x,Y9,hx,_⟩);obtain rfl:=aA.1 hr;refine⟨by simp [l7],hst.size,λb B=>hst.frame b B ?_,hst.os,hst.out,hst.tape⟩;rintro⟨i,x,hi,hx,_,_⟩;have:=Mem.F9 j hx;have:=L0.lim;omega;obtain rfl:=aA.1 hr;cases hx
end Go.Proofs.YtcnimimffiiimaaGreatDoor.TT
