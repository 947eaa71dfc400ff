/- A part of an evaluator for the model, proved sound: what it answers holds of the model; it speaks of every program, no condition. -/
import Derived.Test.YtpmfjipaheolgaaGreatDoorPA2
import Derived.RangeFuncLeaves
import Derived.RangeFuncRecord
import Derived.RangeFuncNested
import Derived.LoopNIn
import Derived.OrdersIn
set_option linter.all false
namespace Go.AM
open Go
open Nat (beq ble blt)
noncomputable section
variable {w':cG}{z:cM}{b':Y9}{es k need sCap sLen:Nat}{zs:Bool}{α β:Type}{c:Array Value}
section
variable {P:cH}{G:cD}{ι:Q0}{m:cD}{w:cG}{a:Act}
def MH(need:Nat):∀(r c:Nat),Builtin.growBy need r c<=max c (need+(need+768) / 4)
 |0,c=>by simp only[Builtin.growBy];omega
 |r+1,c=>by simp only[Builtin.growBy];split;omega;have:=MH need r (c+(c+768) / 4);omega
def nextslicecap_le(need old:Nat)(h:old<need):Builtin.nextslicecap need old<=2*need+2048:=by unfold Builtin.nextslicecap;split;omega;split;omega;have:=MH need 4 old;omega
def OO:TypeDesc->Bool
 |.int _=>true
 |_=>false
def akr(P:cH)(w:cG)(zs:Bool)(by' n:Nat)(x:Value):Prop:=
 (zs=false∧(Builtin.lenOf x).run P w=.ok n w)∨(zs=true∧(∃k,x=.int k n)∧n<9223372036854775808∧n*by'<=281474976710656)
def qH(zs:Bool)(e:cI)(es sLen sCap:Nat)(base:Option Addr)(x:Value)(n:Nat):Sem Value:=do
 let appended:Sem (Array Value):=
  if !zs then Builtin.firstCells es n x
  else if n*es=0 then pure #[]
  else do pure (Builtin.zeroCells (← zeroValue e).cells n)
 let need:=sLen+n
 if need<=sCap then
  let new ← appended
  if let some a:=base then storeCells (a.add (sLen*es)) new.toList
  pure (.slice base need sCap)
 else
  if (need:Int)>IntKind.i64.max∧(zs∨(← typeInfo e).bytes=0) then runtimePanic (.error "growslice: len out of range")
  if Builtin.nextslicecap need sCap*(← typeInfo e).bytes>2^48 then (if zs then runtimePanic (.error "growslice: len out of range") else do
   if !(← Builtin.mayShare es sLen n base x)then mark .noRoom
   unsupported (.resourceLimit "append: a slice or a string whose bytes no memory bears"))
  let newCap ← choose (.appendCap need sCap e)
  askRoom (newCap*(← typeInfo e).bytes)
  let old ← Builtin.firstCells es sLen (.slice base sLen sCap)
  let new ← appended
  let rest:=Builtin.zeroCells (← zeroValue e).cells (newCap-need)
  pure (.slice (some (← newRow e (old++new++rest))) need newCap)
def Rp{t u e T:cI}{d:TypeDesc}{a n:Nat}{base:Option Addr}{x:Value}(o:P.underlying t=some (.slice e))(c:gV P e=some es)(m:P.underlying u=some d)
   (i:lG P e=some a) (hn:akr P w (OO d) a n x):
   (Builtin.append_ #[t,u] T #[.slice base sLen sCap,x]).run P w=(qH (OO d) e es sLen sCap base x n).run P w:=by
 let⟨g,j,l⟩:=Ak (w:=w) i;rcases hn with⟨hz,h1⟩|⟨hz,⟨k,rfl⟩,h2,h3⟩;cases d with
 |int=>cases hz
 |_=>simp only[Builtin.append_,aqv,awM,ajp,wu,cC o,nM,run_sizeOf c,cC m,aa2,agY,if_false,h1,qH,OO];rfl
 cases d with
 |int k'=>
  have p:IntKind.i64.wrap (n:Int)=n:=Dq _ ⟨Zs,Zs⟩;have b:¬ ((n:Int)*(g.bytes:Int)>2^48):=by
   rw[l];have:((n*a:Nat):Int)=(n:Int)*(a:Int):=ZZ
   rw[← this];have h:(2:Int)^48=281474976710656:=rfl;rw[h];omega
  have f:¬ ((n:Int)<0):=Zs
  simp only[Builtin.append_,aqv,awM,ajp,wu,cC o,nM,run_sizeOf c,cC m,aa2,if_true,asInt,asIntOf,p,f,if_false,j,b,axw,qH,OO];rfl
 |_=>cases hz
def qI{e:cI}{n:Nat}{base:Option Addr}{x:Value}{new:List Value}(b:sLen+n<=sCap)
   (c:(if(!zs)=true then Builtin.firstCells es n x else if n*es=0 then pure #[]else do pure (Builtin.zeroCells (← zeroValue e).cells n):Sem (Array Value)).run P w=.ok new.toArray w)
   (a:match base with|some ad=>(storeCells (ad.add (sLen*es)) new 0).run P w=.ok () w'|none=>w'=w):
   (qH zs e es sLen sCap base x n).run P w=.ok (.slice base (sLen+n) sCap) w':=by
 unfold qH;simp only[b,if_true];rw[wu,c,nM];cases base with
 |none=>subst a;simp
 |some ad=>simp only[]at a;simp[a]
def wJ{e:cI}{by' n:Nat}{base:Option Addr}{x:Value}{old new:List Value}(i:lG P e=some by')(G:uT P e=some z)
   (f:¬ sLen+n<=sCap) (A:(2*(sLen+n)+2048)*by'<=281474976710656) (j:1<=by')
   (m:∀w':cG,w'.heap=w.heap->(Builtin.firstCells es sLen (.slice base sLen sCap)).run P w'=.ok old.toArray w')
   (l:∀w':cG,w'.heap=w.heap->(if(!zs)=true then Builtin.firstCells es n x else if n*es=0 then pure #[]else do pure (Builtin.zeroCells (← zeroValue e).cells n):Sem (Array Value)).run P w'=.ok new.toArray w'):
   ∃(capN:Nat) (rest:List Value),sLen+n<=capN∧rest.length=(capN-(sLen+n))*z.length∧
    (qH zs e es sLen sCap base x n).run P w=.ok (.slice (some ⟨w.heap.size,0,none⟩) (sLen+n) capN)
     {w with heap:=w.heap.push (.cells (old++new++rest).toArray e),drawn:=w.drawn+1}:=by
 let⟨g,s,t⟩:=Ak (w:=w) i;have F:(2*(sLen+n)+2048)*1<=(2*(sLen+n)+2048)*by':=axh _ j;have h:=nextslicecap_le (sLen+n) sCap Zs;have B:Builtin.nextslicecap (sLen+n) sCap*by'<=(2*(sLen+n)+2048)*by':=U0 _ h;have C:¬ (((sLen+n:Nat):Int)>IntKind.i64.max):=by have:IntKind.i64.max=9223372036854775807:=rfl;rw[this];omega
 have D:¬ (Builtin.nextslicecap (sLen+n) sCap*g.bytes>2^48):=by rw[t];have o:(2:Nat)^48=281474976710656:=rfl;rw[o];omega
 let⟨H,u,v,_⟩:=iX (P:=P) (w:={w with drawn:=w.drawn+1}) G (λ_=>⟨0,0,0,none⟩);refine⟨sLen+n+w.tape w.drawn (.appendCap (sLen+n) sCap e)%(2^63-(sLen+n)),(Builtin.zeroCells H.cells (sLen+n+w.tape w.drawn (.appendCap (sLen+n) sCap e)%(2^63-(sLen+n))-(sLen+n))).toList,Zs,?_,?_⟩;simp[Builtin.zeroCells,v];unfold qH;simp only[f,if_false];have k:∀w',(typeInfo e).run P w'=.ok g w':=by
  intro w';let⟨I,y,_⟩:=Ak (w:=w') i;have E:∀c d:cG,∀a b,(typeInfo e).run P c=.ok a c->(typeInfo e).run P d=.ok b d->a=b:=by intro c d a b p q;unfold typeInfo at p q;simp only[wu,run_program,nM]at p q;split at p<;>split at q<;>simp_all
  rw[y,E w' w _ _ y s]
 have r:∀w':cG,(choose (.appendCap (sLen+n) sCap e)).run P w'=.ok (sLen+n+w'.tape w'.drawn (.appendCap (sLen+n) sCap e)%(2^63-(sLen+n))) {w' with drawn:=w'.drawn+1}:=by intro w';rw[run_choose];simp[Question.forced,Question.cut]
 simp only[wu,k,nM,C,D,false_and,if_false,aa2,r,run_askRoom,m {w with drawn:=w.drawn+1} rfl,l {w with drawn:=w.drawn+1} rfl,u,ko];simp only[aq8,← List.append_toArray,ahg]
def Jz(n:RM P G ι m w.heap){capN:Nat}{b:cM}(g:Fits P ι m es need b b'){e:cI}
   (q:aaj w w' (.cells c e)) (o:c.size=capN*es) (f:need<=capN) (i:∀(j:Nat) (v:j5),b[j]?=some v->c[j]?=some (u7 ι v)):
   Step P G ι m w (ι.upd m.nx ⟨w.heap.size,0,capN*es,none⟩) (m.new b') w':=by
 let⟨p,g⟩:=g;have a:=Laid.new n.ok n.limn b' p;have d:∀j,m.has j->(ι.upd m.nx ⟨w.heap.size,0,capN*es,none⟩) j=ι j:=λj l=>ι.upd_ne _ λh=>a.free (h▸l);refine Step.lay n a q rfl rfl ?_ ?_;refine g _ _ _ _ c e _ (cD.dL a.has d) d kM ?_ ?_ λj v l=>?_;show 0+capN*es<=c.size;omega;exact U0 _ f;rw[P7];exact i j v l;intro r s t h k u;cases h;simp
def Fits.kill(p:RM P G ι m w.heap){q:Nat}{a:cM}{h:Y9}(f:Fits P ι m es need a b')(r:m.lim<=q)(n:m.get q=some h):Fits P ι (m.set q .dead) es need a b':=by have g:=Step.kill p r n;refine⟨f.1,λd t l s j e k c b=>f.2 d t l s j e k (Nm.le_trans (cD.dL g.has λ_ _=>rfl) c) λi o=>b i (g.has i o)⟩
def Yr(g:RM P G ι m w.heap){capN q:Nat}{a:cM}{k:Y9}(l:Fits P ι m es need a b')(h:m.lim<=q)(f:m.get q=some k){e:cI}
   (n:aaj w w' (.cells c e)) (i:c.size=capN*es) (b:need<=capN) (d:∀(j:Nat) (v:j5),a[j]?=some v->c[j]?=some (u7 ι v)):
   Step P G ι m w (ι.upd m.nx ⟨w.heap.size,0,capN*es,none⟩) ((m.set q .dead).new b') w':=
 (Step.kill g h f).trans (Jz (Step.kill g h f).rm (Fits.kill g l h f) n i b d)
def adz(A:RM P G ι m w.heap){q rs:Nat}{cF:T cM}(K:m.lim<=q)(H:m.get q=some (.cells rs k cF)){e:cI}{f:Nat×Nat}(F:w.heap[(ι q).b]?=some (.cells c e f))
   {B C len n:Nat} {old new:cM}  (D:B+C<=c.size) (g:(len+n)*es<=C) (Q:old.length=len*es) (O:new.length=n*es) (s:H8 new=true)
   (r:∀(j:Nat) (v:j5),old[j]?=some v->c[B+j]?=some (u7 ι v)) (E:Fits P ι m es (len+n) (old++new) b'):
   ∃w',(storeCells ⟨(ι q).b,B+len*es,none⟩ (A9 ι new) 0).run P w=.ok () w'∧
    Step P G ι m w (ι.upd m.nx ⟨(ι q).b,B,C,none⟩) ((m.set q .dead).new b') w':=by
 have t:=A.own q _ K H rfl;have l:=t.free c e f F;have L:(len+n)*es=len*es+n*es:=ajx _ _ _;have x:=zf (P:=P) (A9 ι new) c (B+len*es) 0 w F ZD l (λv z=>by
  rw[fF]at z;obtain⟨u,R,rfl⟩:=adg.1 z;exact MF (ze s u R))
 refine⟨_,x,?_⟩;let⟨z,E⟩:=E;have I:=Step.kill A K H;have d:=Laid.new I.rm.ok I.rm.limn b' z;have a:∀j,m.has j->(ι.upd m.nx ⟨(ι q).b,B,C,none⟩) j=ι j:=λj ⟨y,hy,_⟩=>ι.upd_ne _ λh=>by have:=cD.Q9 A.ok hy;omega
 refine Step.akq (o:=.cells (over c (B+len*es+0) (A9 ι new)) e f) (w':={w with heap:=w.heap.setIfInBounds (ι q).b (.cells (over c (B+len*es+0) (A9 ι new)) e f)}) A K H rfl z ⟨rfl,rfl,rfl,rfl⟩ rfl rfl ?_ ?_;refine E _ _ _ _ _ e f (cD.dL (λi N=>d.has i (I.has i N)) a) a (oV F) ?_ g λj v p=>?_;simpa using D;show(over c (B+len*es+0) (A9 ι new))[B+j]?=some (u7 ι v);rw[Jr _ _ _ ZD];by_cases h1:j<old.length;rw[adl h1]at p;rw[cg Zs];exact r j v p;rw[ahf Zs]at p;have W:=(gB.1 p).1;rw[aE Zs,cg ZD,eU,show B+j-(B+len*es+0)=j-old.length from by omega,p];rfl;intro U V M h S J;cases h;exact l S (by simpa using J)
def Ao{l:Loc}{g:cD}(d:l.spot=none)(f:Step P G ι m w (ι.upd m.nx l) g w')(h:g.has m.nx)(c:1<=es)(e:need*es<=l.cap){cap:Nat}(a:cap=l.cap / es):
   jo P G ι m w [⟨.sliceU m.nx 0 need es,g⟩] (.slice (some ⟨l.b,l.base,none⟩) need cap) w':=by
 refine⟨_,lM.2 rfl,_,f,⟨h,c,?_⟩,?_⟩;show 0+need*es<=((ι.upd m.nx l) m.nx).cap;rw[Q0.aF];omega;simp[u7,Q0.at,a,d]
def OP(h:T.Ok m.t m.nx){b:Y9}(hb:jU b=false):(m.new b).has m.nx:=⟨b,by rw[cD.Q5 h,cg rfl],hb⟩
def JA{n bytes:Nat}(h:big n bytes es=true):(2*n+2048)*bytes<=281474976710656∧1<=es∧1<=bytes:=by
 unfold big at h;cases h1:ble (Nat.mul (Nat.add (Nat.mul 2 n) 2048) bytes) 281474976710656 with
 |false=>rw[h1]at h;cases h
 |true=>
  rw[h1]at h;cases h2:ble 1 es with
  |false=>rw[h2]at h;cases h
  |true=>rw[h2]at h;exact⟨D5 h1,D5 h2,D5 h⟩
def aas{b:Option Y9}{c:Nat->Nat->T cM->Option β}{k:Nat->Option β}{r:β}(h:uS b c k=some r):
   (∃rs n cF,b=some (.cells rs n cF)∧c rs n cF=some r)∨∃p,b=some (.tail p)∧k p=some r:=by
 unfold uS at h;split at h;exact .inl ⟨_,_,_,rfl,h⟩;exact .inr ⟨_,rfl,h⟩;cases h
def DT{n:Nat}{a:cM}{b:List VM}(h:grown m es n a=some b):∃rl,rowsOf es n a=some rl∧b=[⟨.sliceU m.nx 0 n es,m.new (.cells es n (T.ofList rl))⟩]:=by let⟨rl,c,h⟩:=D7 h;cases h;exact⟨rl,c,rfl⟩
def Rq{b:Bool}{x y:Option α}{r:α}(h:bi b x y=some r):(b=true∧x=some r)∨(b=false∧y=some r):=by
 cases b with
 |true=>exact .inl ⟨rfl,h⟩
 |false=>exact .inr ⟨rfl,h⟩
def MI{a b:Nat}(h:ble a b=false):¬ a<=b:=λc=>by rw[l7 c]at h;cases h
end
variable {j:Nat}{outs:List VM}
section
variable {P:cH}{G:cD}{ι:Q0}{m:cD}{w:cG}{cr:cR}{done:List (Option Nat)}{ls:cM}{env:T j5}{a:Act}
def WO(f:RM P G ι m w.heap){id rs:Nat}{cF:T cM}(d:m.get id=some (.cells rs k cF)):∃c e fz,w.heap[(ι id).b]?=some (.cells c e fz)∧(ι id).base+(ι id).cap<=c.size∧
   ∀j v,w.cell? (ι.at id j)=some v->c[(ι id).base+j]?=some v:=by
 let⟨c,e,fz,a,g,_⟩:=f.blk id _ d;refine⟨c,e,fz,a,g,λj v h=>?_⟩;simpa[World.cell?,Q0.at,a,f.spot id _ d rfl]using h
def Rs(r:RM P G ι m w.heap){e:cI}{F n:Nat}(hz:QK P e=some z)(ae:gV P e=some es)(V:lG P e=some F)
   {x:Value} {new:cM} (o:fD (m.nm ι) new) (a3:n=0->new=[])
   (g:∀w':cG,w'.heap=w.heap->(if(!zs)=true then Builtin.firstCells es n x else if n*es=0 then pure #[]else do pure (Builtin.zeroCells (← zeroValue e).cells n):Sem (Array Value)).run P w'=.ok (A9 ι new).toArray w')
   {sv:j5} (aa:sv.lt (m.nm ι))  (h:jS m es F n new sv=some outs):
   ∃base sLen sCap v w',u7 ι sv=.slice base sLen sCap∧(qH zs e es sLen sCap base x n).run P w=.ok v w'∧jo P G ι m w outs v w':=by
 let⟨a0,ab⟩:=Fq hz;obtain rfl:es=z.length:=by rw[ae]at ab;exact rW ab
 rcases yS h with⟨rfl,h⟩|⟨id,off,len,cap,rfl,h⟩|⟨id,off,len,es',rfl,h⟩
 ·
  refine⟨none,0,0,?_⟩;cases n with
  |zero=>have h:one .nilSlice m=some outs:=h;cases h;obtain rfl:=a3 rfl;exact⟨.slice none 0 0,w,rfl,qI (aA 0) (g w rfl) rfl,_,lM.2 rfl,ι,Step.refl r,trivial,rfl⟩
  |succ n=>
   have h:bi (big (n+1) F z.length) (grown m z.length (n+1) new) none=some outs:=h;let⟨M,h⟩:=K4 h;let⟨b1,E,b3⟩:=JA M;obtain⟨rl,J,rfl⟩:=DT h;let⟨capN,f,r1,r2,r3⟩:=wJ (P:=P) (w:=w) (zs:=zs) (e:=e) (es:=z.length) (sLen:=0) (sCap:=0) (base:=none) (x:=x) (n:=n+1) (old:=[]) V a0 Zs (by simpa using b1) b3
    (λw' _=>by simp[Builtin.firstCells]) g
   have d:=(kg _ _ _ _ J).1;have t:=Jz r (Am J o) (c:=([]++A9 ι new++f).toArray) (e:=e) (w':={w with heap:=w.heap.push (.cells ([]++A9 ι new++f).toArray e),drawn:=w.drawn+1}) ⟨rfl,rfl,rfl,rfl⟩ (capN:=capN)
    (by simp only[ato,aaf,aww,dN,d,r2,P7];rw[← ajx];congr 1;omega) Zs
    (λj v u=>by
     have A:=(gB.1 u).1;simp only[O9,aqv];rw[adl (by simpa using A),eU,u];rfl)
   refine⟨_,_,rfl,r3,?_⟩;have:=Ao rfl t (OP r.ok rfl) E (need:=n+1) (U0 _ Zs) (cap:=capN) (by show capN=capN*z.length / z.length;rw[awG _ E]);simpa using this
 ·
  refine⟨some (ι.at id off),len,cap,?_⟩;have h:bi (ble (len+n) cap) (gY m id (off+len*z.length) new λm'=>one (.slice id off (len+n) cap) m')
   (bi (big (len+n) F z.length) (ob (Z6 m id off (len*z.length)) λold=>grown m z.length (len+n) (dK old new)) none)=some outs:=h
  rcases Rq h with⟨i,h⟩|⟨i,h⟩;let⟨m',w',hk,a7,t⟩:=qz r h o;cases hk;exact⟨_,w',rfl,qI (D5 i) (g w rfl) (by simp only[Q0.rO];exact a7),_,lM.2 rfl,ι,t,t.has id aa,by simp[u7]⟩;let⟨M,h⟩:=K4 h;let⟨b1,E,b3⟩:=JA M;let⟨old,ho,h⟩:=D7 h;rw[V9]at h;obtain⟨rl,J,rfl⟩:=DT h;let⟨o1,o2,o3⟩:=nC r ho;let⟨capN,f,r1,r2,r3⟩:=wJ (P:=P) (w:=w) (zs:=zs) (e:=e) (es:=z.length) (sLen:=len) (sCap:=cap) (base:=some (ι.at id off)) (x:=x) (n:=n) (old:=A9 ι old) V a0 (MI i) b1 b3
   (λw' hw=>nD o1 (λj v u=>by have:=o3 j v u;simpa[World.cell?,hw]using this)) g
  have X:fD (m.nm ι) (old++new):=gK.2 λv hv=>(LA.1 hv).elim (aj o2) (aj o);have d:=(kg _ _ _ _ J).1;have t:=Jz r (Am J X) (c:=(A9 ι old++A9 ι new++f).toArray) (e:=e) (w':={w with heap:=w.heap.push (.cells (A9 ι old++A9 ι new++f).toArray e),drawn:=w.drawn+1}) ⟨rfl,rfl,rfl,rfl⟩ (capN:=capN)
   (by
    rw[aaf]at d;simp only[ato,aaf,dN,d,r2];rw[← ajx];congr 1;omega) Zs
   (λj v u=>by
    have A:=(gB.1 u).1;rw[aaf]at A;rw[aqv,adl (by simpa using A),fF,fF,← ajo,abP,u];rfl)
  refine⟨_,_,rfl,r3,?_⟩;exact Ao rfl t (OP r.ok rfl) E (need:=len+n) (U0 _ Zs) (cap:=capN) (by show capN=capN*z.length / z.length;rw[awG _ E])
 ·
  let⟨ah,a8,Z⟩:=aa;have Z:off+len*es'<=(ι id).cap:=Z;have N:len<=((ι id).cap-off) / es':=(atc a8).2 Zs;refine⟨some (ι.at id off),len,((ι id).cap-off) / es',?_⟩;cases n with
  |zero=>have h:one (.sliceU id off len es') m=some outs:=h;cases h;obtain rfl:=a3 rfl;refine⟨_,w,rfl,qI (w':=w) N (g w rfl) (by simp[A9,storeCells]),_,lM.2 rfl,ι,Step.refl r,⟨ah,a8,Z⟩,by simp[u7]⟩
  |succ n=>
   have h:bi (beq z.length es') (bi (big (len+(n+1)) F z.length) (bi (ble m.lim id) (bi (H8 new)
    (uS (m.get id)
     (λK k a=>
      bi (bi (beq K z.length) (bi (beq off 0) (bi (ble len k) (bi (beq (n+1) 1) (beq (len' new) z.length) false) false) false) false)
       (one (.sliceU m.nx 0 (Nat.succ len) z.length) ((m.set id .dead).new (.cells z.length (Nat.succ len) (a.put len new))))
       (ob (J7 K k a (len*z.length) off) λold=>grown (m.set id .dead) z.length (len+(n+1)) (dK old new)))
     (λp=>aY (m.get p) λ_ _ _=>bi (ble m.lim p) (bi (beq len 0) (grown (m.set p .dead) z.length (n+1) new) none) none)) none) none) none) none=some outs:=h
   let⟨q1,k1⟩:=K4 h;clear h;obtain rfl:=nA q1;let⟨q2,k2⟩:=K4 k1;let⟨b1,E,b3⟩:=JA q2;let⟨q3,k3⟩:=K4 k2;have R:m.lim<=id:=D5 q3;let⟨a6,h⟩:=K4 k3;clear k1 k2 k3;have H:∀(q K k:Nat) (a:T cM),m.lim<=q->m.get q=some (.cells K k a)->∀(B C:Nat) (old:cM) (b':Y9),C=(ι id).cap-off->
      ((ι id).b=(ι q).b∨C=0)->B=(ι id).base+off->(C≠0->B+C<=(ι q).base+(ι q).cap)->(C≠0->(ι id).spot=none)->old.length=len*z.length->new.length=(n+1)*z.length->fD (m.nm ι) old->rP ι w id off old->
      Fits P ι m z.length (len+(n+1)) (old++new) b'->outs=[⟨.sliceU m.nx 0 (len+(n+1)) z.length,(m.set q .dead).new b'⟩]->
      ∃v w',u7 ι (.sliceU id off len z.length)=.slice (some (ι.at id off)) len (((ι id).cap-off) / z.length)∧
       (qH zs e z.length len (((ι id).cap-off) / z.length) (some (ι.at id off)) x (n+1)).run P w=.ok v w'∧jo P G ι m w outs v w':=by
    intro q K k a hq y B C old b' hC M hB ad a9 Y O ai a4 hF s;subst s;have a5:=(Step.kill r hq y).rm;have Q:((m.set q .dead).new b').has m.nx:=OP (m:=m.set q .dead) a5.ok hF.1;by_cases hfit:len+(n+1)<=((ι id).cap-off) / z.length;have I:(len+(n+1))*z.length<=C:=(by rw[hC];exact(atc E).1 hfit);have S:C≠0:=by have:1*1<=(len+(n+1))*z.length:=axi Zs E;omega
    have M:=M.resolve_right S;have D:=a9 S;let⟨c,a1,fz,c1,c2,c3⟩:=WO r y;let⟨w',g1,g2⟩:=adz r hq y c1 (B:=B) (C:=C) (len:=len) (n:=n+1) (es:=z.length) (old:=old) (new:=new) (b':=b') (by have:=ad S;omega) I Y O a6
     (λj v u=>by
      have:=a4 j v u;simp only[World.cell?,Q0.at,M,c1,D]at this;rw[hB,aie];simpa using this) hF
    refine⟨_,w',by simp[u7],qI hfit (g w rfl) (by
     have:(ι.at id off).add (len*z.length)=⟨(ι q).b,B+len*z.length,none⟩:=(by simp[Q0.at,Addr.add,M,hB,D]);simp only[this];exact g1),?_⟩
    have:=Ao rfl g2 Q E (need:=len+(n+1)) I (cap:=((ι id).cap-off) / z.length) (by show _=C / z.length;rw[hC]);have U:ι.at id off=⟨(ι q).b,B,none⟩:=(by simp[Q0.at,M,hB,D]);rw[U];exact this;let⟨capN,f,r1,r2,r3⟩:=wJ (P:=P) (w:=w) (zs:=zs) (e:=e) (es:=z.length) (sLen:=len) (sCap:=((ι id).cap-off) / z.length) (base:=some (ι.at id off)) (x:=x) (n:=n+1) (old:=A9 ι old) V a0 hfit b1 b3
     (λw' hw=>nD Y (λj v u=>by have:=a4 j v u;simpa[World.cell?,hw]using this)) g
    have t:=Yr r hF hq y (c:=(A9 ι old++A9 ι new++f).toArray) (e:=e) (w':={w with heap:=w.heap.push (.cells (A9 ι old++A9 ι new++f).toArray e),drawn:=w.drawn+1}) ⟨rfl,rfl,rfl,rfl⟩ (capN:=capN)
     (by
      simp only[ato,aaf,dN,Y,O,r2];rw[← ajx,← ajx];congr 1;omega) Zs
     (λj v u=>by
      have A:=(gB.1 u).1;rw[aaf]at A;rw[aqv,adl (by simpa using A),fF,fF,← ajo,abP,u];rfl)
    refine⟨_,_,by simp[u7],r3,?_⟩;exact Ao rfl t Q E (need:=len+(n+1)) (U0 _ Zs) (cap:=capN) (by show capN=capN*z.length / z.length;rw[awG _ E])
   rcases aas h with⟨K,k,a,y,h⟩|⟨p,y,h⟩
   ·let⟨cc,a1,ac,c1,c2,c3⟩:=WO r y;rcases Rq h with⟨i,h9⟩|⟨_,h⟩
    ·
     clear h;have af:K=z.length∧off=0∧len<=k∧n=0∧new.length=z.length:=by
      cases p1:beq K z.length<;>rw[p1]at i<;>simp only[aC,bA]at i<;>try (cases i;done)
      cases p2:beq off 0<;>rw[p2]at i<;>simp only[aC,bA]at i<;>try (cases i;done)
      cases p3:ble len k<;>rw[p3]at i<;>simp only[aC,bA]at i<;>try (cases i;done)
      cases p4:beq (n+1) 1<;>rw[p4]at i<;>simp only[aC,bA]at i<;>try (cases i;done)
      have p4:=nA p4;have i:=nA i;rw[K7]at i;exact⟨nA p1,nA p2,D5 p3,Zs,i⟩
     obtain⟨rfl,rfl,hk,rfl,O⟩:=af;cases h9;let⟨l,l1,l2,l3,l4⟩:=Yq r y len hk;exact H id z.length k a R y _ _ l _ rfl (.inl rfl) rfl (λ_=>Zs) (λ_=>r.spot id _ y rfl) l1 Zs l2 l3 (aar r y hk l1 l4 O l2 o) rfl
    let⟨old,ho,h⟩:=D7 h;rw[V9]at h;let⟨rl,J,s⟩:=DT h;let⟨o1,o2,o3⟩:=yX r y _ _ _ ho;have X:fD (m.nm ι) (old++new):=gK.2 λv hv=>(LA.1 hv).elim (aj o2) (aj o);have d:=(kg _ _ _ _ J).1;rw[aaf,o1,ajx]at d;exact H id K k a R y _ _ old _ rfl (.inl rfl) rfl (λ_=>Zs) (λ_=>r.spot id _ y rfl) o1 Zs o2 o3 (Am J X) s
   let⟨K,k,a,a2,h⟩:=qY h;let⟨q4,h⟩:=K4 h;have W:=D5 q4;let⟨q5,h⟩:=K4 h;obtain rfl:=nA q5;let⟨rl,J,s⟩:=DT h;let⟨t1,L⟩:=r.blk id _ y;have d:=(kg _ _ _ _ J).1;refine H p K k a W a2 _ _ [] (.cells z.length (n+1) (T.ofList rl)) rfl ?_ rfl ?_ ?_ ZZ d trivial (λj v u=>by simp at u) ?_ ?_;rcases L with L|L;exact .inr Zs;exact .inl L.1;intro ag;rcases L with L|L;omega;omega;intro ag;rcases L with L|L;omega;exact L.2.2 (r.spot p _ a2 rfl);rw[O9,P7];exact Am J o;rw[s,P7];rfl
def ath(d:TypeDesc):Bool:=match d with|.int _=>true|_=>false
def adA(d:TypeDesc):ath d=OO d:=by cases d<;>rfl
def Yt(s:St P ι (m.nm ι) cr done ls env a.tmps)(O:RM P G ι m w.heap){c:Call}{t u e:cI}{d:TypeDesc}{x y:Operand}{U B:aS}(hc:c.callee=.builtin .append)
   (r:c.argTypes.toList=[t,u]) (p:c.args.toList=[x,y]) (hu:P.underlying t=some (.slice e)) (hd:P.underlying u=some d) (q:gV P e=some es) (W:QK P e=some z) (E:lG P e=some j)
   (hx:aD P cr done x=some U) (hy:aD P cr done y=some B) {cf:G6} {g:List VM} (f:xD (.app es (OO d) z j U B) cf ls env m=some g):
   ∀o:Oper,o.op=.call c->Does P a.eval o w (jo P G ι m w g):=by
 intro o ho;have r:c.argTypes=#[t,u]:=by rw[← r,ahg]
 have p:c.args=#[x,y]:=by rw[← p,ahg]
 let⟨e1,g1⟩:=D9 s hx;let⟨e2,g2⟩:=D9 s hy;let⟨J,I⟩:=Fq W;have F:es=z.length:=by rw[q]at I;exact rW I
 have C:∀(n:Nat) (b:cM),akr P w (OO d) j n (u7 ι (J6 B ls env))->fD (m.nm ι) b->(n=0->b=[])->
   (∀w':cG,w'.heap=w.heap->(if(!OO d)=true then Builtin.firstCells es n (u7 ι (J6 B ls env))else if n*es=0 then pure #[]else do pure (Builtin.zeroCells (← zeroValue e).cells n):Sem (Array Value)).run P w'=.ok (A9 ι b).toArray w')->
   jS m es j n b (J6 U ls env)=some g->Does P a.eval o w (jo P G ι m w g):=by
  intro n b hn N Q H h;let⟨V,Z,Y,v,w',q1,X,q3⟩:=Rs O W q E N Q H g1 h;refine bG (v:=v) (w':=w') ?_ q3;rw[← Rp (T:=o.type) hu q hd E hn]at X;simp[execOp,ho,resolve,hc,p,r,invoke,builtin,e1,e2,q1,X]
 cases hi:OO d with
 |true=>rw[hi]at f;let⟨k,n,D,f⟩:=jm f;let⟨l,f⟩:=K4 f;let⟨M,f⟩:=K4 f;have l:n*j<=281474976710656:=D5 l;have M:n<9223372036854775808:=Eq.mp O8 M;have D:J6 B ls env=.int k n:=D;refine C n (U4 z n) (.inr ⟨hi,⟨k,by rw[D];rfl⟩,M,l⟩) (by let⟨_,_,_,K⟩:=iX (P:=P) (w:=w) J ι;exact wH (K _) n) (λA=>by rw[A];rfl) (λw' _=>?_) f;let⟨zv,R,S,K⟩:=iX (P:=P) (w:=w') J ι;simp only[hi,axr,agY,if_false];split;rename_i A;have:U4 z n=[]:=U1.1 (by rw[jc,← F];exact A);simp[this,A9];simp[R,S,DR]
 |false=>
  rw[hi]at f;let⟨n,D,f⟩:=D7 f;let⟨b,l,f⟩:=D7 f;refine C n b (.inl ⟨hi,Gz D w⟩) (oZ O l).2 (λA=>?_) (λw' hw=>?_) f;subst A;have A:∀i L,Z6 m i L 0=some []:=λi L=>rfl;generalize J6 B ls env=v at l;cases v<;>simp only[Z8,reduceCtorEq]at l<;>simp_all[bytesOf]
  simp only[hi,Bool.not_false,if_true];exact(oZ (w:=w') (by rw[hw];exact O) l).1
end
variable {l:cM}
section
variable {P:cH}{G:cD}{ι:Q0}{m:cD}{w:cG}{cr:cR}{done:List (Option Nat)}{ls:cM}{env:T j5}{a:Act}
def adB (P:cH)(f:FuncId):Prop:=∃fn,P.funcs[f]?=some fn∧fn.body.isSome=true∧fn.name≠ "runtime.NumGoroutine"
def fG(P:cH)(G:cD)(ι:Q0)(m:cD)(w:cG)(outs:List VM)(e:Ending)(w':cG):Prop:=
 (∃v,e=.returned v∧jo P G ι m w outs v w')∨
  ∃r∈outs,∃x ι',r.v=.aL x∧Step P G ι m w ι' r.m w'∧x.lt (r.m.nm ι')∧e=.panicked [{v:=u7 ι' x,recovered:=false}]
def nZ(P:cH)(ρ:Operand->Value)(o:Oper)(w:cG)(R:Ending->cG->Prop):Prop:=
 match (execOp ρ o).run P w with
 |.ok (.value v) w'=>R (.returned v) w'
 |.ok .skip w'=>R (.returned undef) w'
 |.ok (.enter f args) w'=>CallsIn Fence.wide 0 P f args w' R
 |.ok (.round l f tmps assign body) w'=>RoundIn Fence.wide 0 P l f tmps assign body w' R
 |.halt (.panic v) w'=>R (.panicked [{v,recovered:=false}]) w'
 |_=>False
def fO{d:Operand->Value}{o:Oper}{a:List VM}(h:Does P d o w (jo P G ι m w a)):nZ P d o w (fG P G ι m w a):=by
 unfold Does at h;unfold nZ;generalize (execOp d o).run P w=res at h;cases res with
 |halt=>exact h.elim
 |ok x w'=>
  cases x with
  |value v=>exact .inl ⟨_,rfl,h⟩
  |skip=>exact .inl ⟨_,rfl,h⟩
  |enter f args=>exact CallsIn.mono h λe c b=>.inl b
  |round l f tmps assign body=>exact RoundIn.mono h λe c b=>.inl b
  |_=>exact h.elim
def Ur{a:Operand->Value}{o:Oper}{R:Value->cG->Prop}(h:Does P a o w R):nZ P a o w (λe w'=>∃v,e=.returned v∧R v w'):=by
 unfold Does at h;unfold nZ;generalize (execOp a o).run P w=res at h;cases res with
 |halt=>exact h.elim
 |ok x w'=>
  cases x with
  |value v=>exact⟨_,rfl,h⟩
  |skip=>exact⟨_,rfl,h⟩
  |enter f args=>exact h
  |round l f tmps assign body=>exact h
  |_=>exact h.elim
structure uD(P:cH)(G:cD)(cf:G6):Prop where
 func:∀{f:FuncId} {args:cM} {m:cD} {outs:List VM},cf (.func f) args m=some outs->adB P f∧∀{ι:Q0} {w:cG},RM P G ι m w.heap->fD (m.nm ι) args->
  CallsIn Fence.wide 0 P f (A9 ι args).toArray w (fG P G ι m w outs)
 yield:∀{l:Nat} {args:cM} {m:cD} {outs:List VM},cf (.yield l) args m=some outs->∀{ι:Q0} {w:cG},RM P G ι m w.heap->fD (m.nm ι) args->
  ∃L:Loop,w.heap[(ι l).b]?=some (.loop L)∧args.length=L.params.size∧
   RoundIn Fence.wide 0 P (ι l).b L.fn ((L.params.zip (A9 ι args).toArray).foldl (λt (p,v)=>t.setIfInBounds p v) L.tmps) L.assign L.body w (fG P G ι m w outs)
 other:∀{fn:Fn} {args:cM} {m:cD} {outs:List VM},cf fn args m=some outs->(∃f,fn=.func f)∨∃l,fn=.yield l
def qJ{f:FuncId}(h:adB P f)(args:Array Value)(w:cG):(callFunc f args).run P w=.ok (.enter f args) w:=by
 let⟨b,d,a,e⟩:=h;cases hb:b.body with
 |none=>rw[hb]at a;cases a
 |some c=>simp[callFunc,d,e,hb]
def nE(ι:Q0)(l r:cM):A9 ι (l++r)=A9 ι l++A9 ι r:=by simp[fF]
def lW{n:Nm}{r:cM}(h:fD n l)(h':fD n r):fD n (l++r):=gK.2 λv a=>(LA.1 a).elim (aj h) (aj h')
def OQ(s:St P ι (m.nm ι) cr done ls env a.tmps){b:Array Operand}{os:List aS}(h:mF P cr done b.toList=some os):
   b.map a.eval=(A9 ι (evs (jD os) ls env)).toArray∧fD (m.nm ι) (evs (jD os) ls env):=by
 let⟨c,d⟩:=oG s h;refine⟨?_,d⟩;rw[← c,← axC,ahg]
def Us{cf:G6}(h:uD P G cf)(s:St P ι (m.nm ι) cr done ls env a.tmps)(p:RM P G ι m w.heap){c:Call}{f:FuncId}{e:List aS}(l:c.callee=.value (.func f))
   (g:mF P cr done c.args.toList=some e)  (i:xD (.call f e) cf ls env m=some outs):
   ∀o:Oper,o.op=.call c->nZ P a.eval o w (fG P G ι m w outs):=by
 intro o q;let⟨j,k⟩:=OQ s g;have i:cf (.func f) (evs (jD e) ls env) m=some outs:=i;let⟨n,b⟩:=h.func i;have d:(execOp a.eval o).run P w=.ok (.enter f (A9 ι (evs (jD e) ls env)).toArray) w:=by simp[execOp,q,resolve,l,Act.eval,Deferred.ofValue,invoke,j,qJ n]
 unfold nZ;rw[d];exact b p k
def Rt{cf:G6}(j:uD P G cf)(s:St P ι (m.nm ι) cr done ls env a.tmps)(F:RM P G ι m w.heap){c:Call}{f:Operand}{q:aS}{e:List aS}(E:c.callee=.value f)
   (z:aD P cr done f=some q) (u:mF P cr done c.args.toList=some e)  (O:xD (.callv q e) cf ls env m=some outs):
   ∀o:Oper,o.op=.call c->nZ P a.eval o w (fG P G ι m w outs):=by
 intro o H;let⟨A,B⟩:=OQ s u;let⟨n,C⟩:=D9 s z;let⟨D,x,y,r,h⟩:=Ox O;have r:J6 q ls env=.func D x y:=r;rw[r]at n C;let⟨_,I,k⟩:=C;cases D with
 |func g=>
  have h:cf (.func g) (dK x (dK (evs (jD e) ls env) y)) m=some outs:=h;rw[V9,V9]at h;let⟨N,i⟩:=j.func h;have d:(execOp a.eval o).run P w=.ok (.enter g (A9 ι (x++(evs (jD e) ls env++y))).toArray) w:=by simp[execOp,H,resolve,E,n,u7,lV,Deferred.ofValue,invoke,A,qJ N,nE]
  unfold nZ;rw[d];exact i F (lW I (lW B k))
 |yield l=>
  have h:cf (.yield l) (dK x (evs (jD e) ls env)) m=some outs:=h;rw[V9]at h;let⟨L,J,K,M⟩:=j.yield h F (lW I B);have d:(execOp a.eval o).run P w=.ok (.round (ι l).b L.fn ((L.params.zip (A9 ι (x++evs (jD e) ls env)).toArray).foldl (λt (p,v)=>t.setIfInBounds p v) L.tmps) L.assign L.body) w:=by have k:=run_yield (P:=P) (args:=(A9 ι (x++evs (jD e) ls env)).toArray) J (by simpa using K);rw[nE,← List.append_toArray]at k ⊢;simp only[execOp,H,resolve,E,n,u7,lV,Deferred.ofValue,invoke,A,wu,aa2,nM,k]
  unfold nZ;rw[d];exact M
 |method=>cases h
 |methodOf=>cases h
 |via=>cases h
def Ru(s:St P ι (m.nm ι) cr done ls env a.tmps)(g:RM P G ι m w.heap){x:Operand}{d:aS}(i:aD P cr done x=some d){cf:G6}(b:xD (.panic d) cf ls env m=some outs):
   ∀o:Oper,o.op=.panic x->nZ P a.eval o w (fG P G ι m w outs):=by
 intro o h;let⟨e,f⟩:=D9 s i;have b:adq (J6 d ls env) m=some outs:=b;generalize J6 d ls env=v at *;cases v with
 |iface t y=>
  have b:some [(⟨.aL (.iface t y),m⟩:VM)]=some outs:=b;cases b;have c:(execOp a.eval o).run P w=.halt (.panic (u7 ι (.iface t y))) w:=by simp[execOp,h,e,u7,Instr.panic,goPanic]
  unfold nZ;rw[c];exact .inr ⟨_,lM.2 rfl,_,ι,rfl,Step.refl g,f,rfl⟩
 |_=>cases b
def Fv{cf:G6}(g:uD P G cf)(s:St P ι (m.nm ι) cr done ls env a.tmps)(d:RM P G ι m w.heap){j:Op}{i:ZR}(h:jT P cr done j=some (.e i)){f:List VM}(c:xD i cf ls env m=some f):
   ∀o:Oper,o.op=j->nZ P a.eval o w (fG P G ι m w f):=by
 cases Dy h with
 |store h1 h2 h3=>exact λo b=>fO (Rk s d h1 h2 h3 c o b)
 |mapUpdate h1 h2 h3 h4 h5=>exact λo b=>fO (DN s d h1 h2 h3 h4 h5 c o (.inl b))
 |insert h1 h2 h3 h4 h5=>exact λo b=>fO (DN s d h1 h2 h3 h4 h5 c o (.inr b))
 |range h1 h2=>exact λo b=>fO (Rn s d h1 h2 c o b)
 |next h1=>exact λo b=>fO (Uo s d h1 c o b)
 |app h1 h2 h3 h4 h5 h6 h7 h8 h9 h10=>exact λo b=>fO (Yt s d h2 h3 h4 h5 h1 h6 h7 h8 h9 h10 (by rw[← adA];exact c) o b)
 |copy h1 h2 h3 h4 h5 h6 h7=>exact λo b=>fO (Uq s d h1 h2 h3 h4 h5 h6 h7 c o b)
 |clear h1 h2 h3 h4 h5 h6=>exact λo b=>fO (Ro s d h1 h2 h3 h4 h5 h6 c o b)
 |call h1 h2 h3 h4 h5=>exact Us g s d h1 h5 c
 |callv h1 h2 h3=>exact Rt g s d h1 h2 h3 c
 |panic h1=>exact Ru s d h1 c
 |defer=>cases c
 |recover=>cases c
end
section
variable {f:aS->aS}{ls ls':cM}{env env':T j5}
def Sm(f:aS->aS)(ls:cM)(env:T j5)(ls':cM)(env':T j5)(x:aS):Prop:=J6 (f x) ls' env'=J6 x ls env
def vD{l:List aS}(h:∀x∈l,Sm f ls env ls' env' x):evs (jD (l.map f)) ls' env'=evs (jD l) ls env:=by rw[evs_eq',evs_eq'];rw[axH];exact awg h
where
 evs_eq' {l:List aS} {ls:cM} {env:T j5}:evs (jD l) ls env=l.map λx=>J6 x ls env:=by
  induction l with
  |nil=>rfl
  |cons x l ih=>show J6 x ls env::evs (jD l) ls env=_;rw[ih];rfl
def MJ{ps:List (Nat×Nat×aS)}(h:∀x∈ps.map (·.2.2),Sm f ls env ls' env' x)(cs:cM):
   lay (ES (ps.map λp=>(p.1,p.2.1,f p.2.2))) ls' env' cs=lay (ES ps) ls env cs:=by
 induction ps generalizing cs with
 |nil=>rfl
 |cons p ps ih=>
  have a:J6 (f p.2.2) ls' env'=J6 p.2.2 ls env:=h _ ZZ;show bi (beq (len' (J6 (f p.2.2) ls' env').cells) p.2.1) (bi (ble (Nat.add p.1 p.2.1) (len' cs)) (lay (ES (ps.map λp=>(p.1,p.2.1,f p.2.2))) ls' env' (pK p.1 (J6 (f p.2.2) ls' env').cells cs)) none) none =
   bi (beq (len' (J6 p.2.2 ls env).cells) p.2.1) (bi (ble (Nat.add p.1 p.2.1) (len' cs)) (lay (ES ps) ls env (pK p.1 (J6 p.2.2 ls env).cells cs)) none) none
  rw[a,ih (λx b=>h x (aa1 _ b))]
def kN{o:Option aS}(h:∀x∈o.toList,Sm f ls env ls' env' x)(d:Nat)(k:Nat->Option β):jk (om (o.map f)) d ls' env' k=jk (om o) d ls env k:=by
 cases o with
 |none=>rfl
 |some x=>have a:J6 (f x) ls' env'=J6 x ls env:=h x ZZ;show jC (J6 (f x) ls' env') k=jC (J6 x ls env) k;rw[a]
def MK{o:POp}(h:∀x∈jY o,Sm f ls env ls' env' x):qW (oz f o) ls' env'=qW o ls env:=by
 have e:∀x∈jY o,J6 (f x) ls' env'=J6 x ls env:=h;cases o with
 |build z ps=>show ob (lay (ES (ps.map λp=>(p.1,p.2.1,f p.2.2))) ls' env' z) _=ob (lay (ES ps) ls env z) _;rw[MJ h]
 |mkFunc fn a b=>show some (j5.func fn (evs (jD (a.map f)) ls' env') (evs (jD (b.map f)) ls' env'))=some (j5.func fn (evs (jD a) ls env) (evs (jD b) ls env));rw[vD λx l=>h x (aqx _ l),vD λx l=>h x (atd _ l)]
 |slStr x lo hi=>have d:=e x (by simp[jY]);have g:∀y∈lo.toList,Sm f ls env ls' env' y:=λy j=>h y (aa1 _ (aqx _ j));have m:∀y∈hi.toList,Sm f ls env ls' env' y:=λy j=>h y (aa1 _ (atd _ j));simp only[oz,qW,vX,d,kN g,kN m]
 |slArr es n x lo hi=>have d:=e x (by simp[jY]);have g:∀y∈lo.toList,Sm f ls env ls' env' y:=λy j=>h y (aa1 _ (aqx _ j));have m:∀y∈hi.toList,Sm f ls env ls' env' y:=λy j=>h y (aa1 _ (atd _ j));simp only[oz,qW,EP,d,kN g,kN m]
 |mm mx x xs=>show QE mx (evs (jD (xs.map f)) ls' env') (J6 (f x) ls' env')=QE mx (evs (jD xs) ls env) (J6 x ls env);rw[vD λx l=>h x (aa1 _ l),e x (by simp[jY])]
 |ib op x y=>have d:=e x (by simp[jY]);have g:=e y (by simp[jY]);cases op<;>simp only[oz,qW,Hz,Yh,TR,d,g]
 |eq neg k x y=>have d:=e x (by simp[jY]);have g:=e y (by simp[jY]);cases neg<;>simp only[oz,qW,IU,pNe,d,g]
 |fld off size x=>have d:=e x (by simp[jY]);cases size<;>simp only[oz,qW,IW,Mf,d]
 |iArr es n size x i=>have d:=e x (by simp[jY]);have g:=e i (by simp[jY]);cases size<;>simp only[oz,qW,aa4,ER,d,g]
 |pick a b c=>simp only[oz,qW,dw,e a (by simp[jY]),e b (by simp[jY]),e c (by simp[jY])]
 |iAddr es x i=>simp only[oz,qW,ow,e x (by simp[jY]),e i (by simp[jY])]
 |iAddrArr es n x i=>simp only[oz,qW,qV,e x (by simp[jY]),e i (by simp[jY])]
 |iStr x i=>simp only[oz,qW,Dc,e x (by simp[jY]),e i (by simp[jY])]
 |mov x=>simp only[oz,qW,fI,e x (by simp[jY])]
 |nilCheck x=>simp only[oz,qW,ou,e x (by simp[jY])]
 |not x=>simp only[oz,qW,Oi,e x (by simp[jY])]
 |neg x=>simp only[oz,qW,TS,e x (by simp[jY])]
 |conv k x=>simp only[oz,qW,IV,e x (by simp[jY])]
 |mkIface t x=>simp only[oz,qW,BI,e x (by simp[jY])]
 |fAddr o x=>simp only[oz,qW,H9,e x (by simp[jY])]
 |ext x i=>simp only[oz,qW,pExt,e x (by simp[jY])]
 |len x=>simp only[oz,qW,QD,e x (by simp[jY])]
 |lenS x=>simp only[oz,qW,IX,e x (by simp[jY])]
 |cap x=>simp only[oz,qW,Yi,e x (by simp[jY])]
 |assert t z ok x=>simp only[oz,qW,oQ,e x (by simp[jY])]
def ML{o:TN}(h:∀x∈IE o,Sm f ls env ls' env' x)(m:cD):xX (LB f o) ls' env' m=xX o ls env m:=by
 have e:∀x∈IE o,J6 (f x) ls' env'=J6 x ls env:=h;cases o with
 |load size x=>cases size<;>simp only[LB,xX,U6,ak,e x (by simp[IE])]
 |look k z ok x y=>simp only[LB,xX,nX,e x (by simp[IE]),e y (by simp[IE])]
 |lenM x=>simp only[LB,xX,agC,e x (by simp[IE])]
 |bytesStr x=>simp only[LB,xX,dH,e x (by simp[IE])]
 |entry x=>simp only[LB,xX,ET,e x (by simp[IE])]
def MN{o:Yf}(h:∀x∈opsL o,Sm f ls env ls' env' x)(nid:Nat):Gr (QG f o) ls' env' nid=Gr o ls env nid:=by
 have e:∀x∈opsL o,J6 (f x) ls' env'=J6 x ls env:=h;cases o with
 |alloc z=>rfl
 |mkMap=>rfl
 |box x=>simp only[QG,Gr,uR,e x (by simp[opsL])]
 |buildSlice es len z ps=>show ob (lay (ES (ps.map λp=>(p.1,p.2.1,f p.2.2))) ls' env' (U4 z len)) _=ob (lay (ES ps) ls env (U4 z len)) _;rw[MJ h]
 |mkSlice es b z l c=>simp only[QG,Gr,mY,e l (by simp[opsL]),e c (by simp[opsL])]
 |strBytes x=>simp only[QG,Gr,qX,e x (by simp[opsL])]
 |sl es x lo hi=>
  have a:=e x (by simp[opsL]);have d:∀y∈lo.toList,Sm f ls env ls' env' y:=λy i=>h y (aa1 _ (aqx _ i));cases hi with
  |none=>show jk (om (lo.map f)) 0 ls' env' (λl=>K6 nid es (J6 (f x) ls' env') l none)=jk (om lo) 0 ls env (λl=>K6 nid es (J6 x ls env) l none);rw[kN d,a]
  |some y=>have g:=e y (by simp[opsL]);show jk (om (lo.map f)) 0 ls' env' (λl=>jC (J6 (f y) ls' env') λh=>K6 nid es (J6 (f x) ls' env') l (some h))=jk (om lo) 0 ls env (λl=>jC (J6 y ls env) λh=>K6 nid es (J6 x ls env) l (some h));rw[kN d,a,g]
def MO{o:ZR}(h:∀x∈opsE o,Sm f ls env ls' env' x)(cf:G6)(m:cD):xD (EX f o) cf ls' env' m=xD o cf ls env m:=by
 have e:∀x∈opsE o,J6 (f x) ls' env'=J6 x ls env:=h;cases o with
 |store s a x=>simp only[EX,xD,kZ,e a (by simp[opsE]),e x (by simp[opsE])]
 |mapSet k a b c=>simp only[EX,xD,vY,e a (by simp[opsE]),e b (by simp[opsE]),e c (by simp[opsE])]
 |range x=>simp only[EX,xD,EW,e x (by simp[opsE])]
 |next x=>simp only[EX,xD,Mg,e x (by simp[opsE])]
 |app es zs z b s x=>cases zs<;>simp only[EX,xD,lu,Mh,e s (by simp[opsE]),e x (by simp[opsE])]
 |copy es d s=>simp only[EX,xD,IZ,e d (by simp[opsE]),e s (by simp[opsE])]
 |clear z x=>simp only[EX,xD,BJ,e x (by simp[opsE])]
 |call g as=>show cf (.func g) (evs (jD (as.map f)) ls' env') m=cf (.func g) (evs (jD as) ls env) m;rw[vD (l:=as) h]
 |callv g as=>simp only[EX,xD,BK,e g (by simp[opsE]),vD λx i=>h x (aa1 _ i)]
 |bad=>rfl
 |defer f as=>rfl
 |recover=>rfl
 |panic x=>simp only[EX,xD,vZ,e x (by simp[opsE])]
end
variable {v:j5}{ι':Q0}{i:Nat}{r:Option Nat}{tmps:Array Value}{g:Option (aS×Bool)}{Q:Exit->Act->cG->Prop}
section
variable {P:cH}{G:cD}{ι:Q0}{n:Nm}{m:cD}{w:cG}{cr:cR}{done:List (Option Nat)}{ls:cM}{env:T j5}{a:Act}
def FR(r:Option Nat):Fence:={Fence.wide with round:=r}
def oJ:u7 ι .undef=undef:=by simp only[u7];rfl
def JB(f:α->Option (List β))(a:α)(l:List α):Mi f (a::l)=ob (f a) λx=>ob (Mi f l) λy=>some (x++y):=rfl
def JC{α β:Type}{f:α->Option (List β)}:∀{l:List α} {outs:List β},Mi f l=some outs->∀r∈l,∃os,f r=some os∧∀o∈os,o∈outs
 |[],_,_,r,hr=>by cases hr
 |a::l,outs,h,r,hr=>by rw[JB]at h;let⟨x,hx,h⟩:=D7 h;let⟨y,hy,h⟩:=D7 h;cases h;rcases O4.1 hr with rfl|hr;exact⟨x,hx,λo ho=>aqx _ ho⟩;let⟨os,h1,h2⟩:=JC hy r hr;exact⟨os,h1,λo ho=>atd _ (h2 o ho)⟩
def fH{x:Option (List α)}{f:α->Option (List β)}{outs:List β}(h:bnd x f=some outs):∃l,x=some l∧∀r∈l,∃os,f r=some os∧∀o∈os,o∈outs:=by
 cases x with
 |none=>cases h
 |some l=>
  refine⟨l,rfl,?_⟩;match l,h with
  |[],_=>intro r c;cases c
  |[a],h=>intro r c;obtain rfl:=lM.1 c;exact⟨outs,h,λo d=>d⟩
  |a::b::t,h=>exact JC (l:=a::b::t) h
def ZW(cf:G6)(o:Db)(ls:cM)(env:T j5)(m:cD):pQ:=match o with
 |.p o=>ob (qW o ls env) λv=>one v m
 |.r o=>ob (xX o ls env m) λv=>one v m
 |.a o=>ob (Gr o ls env m.nx) λr=>one r.1 (Lx m r.2)
 |.e o=>xD o cf ls env m
def evG(cf:G6)(g:Option (aS×Bool))(o:Db)(ls:cM)(env:T j5)(m:cD):pQ:=match g with
 |none=>ZW cf o ls env m
 |some (x,w)=>bi (sJ w (J6 x ls env)) (ZW cf o ls env m) (one .undef m)
def Fw{b:Type}(o:Option α)(g:α->β)(f:β->Option (List b)):bnd (ob o λa=>some [g a]) f=ob o λa=>f (g a):=by cases o<;>rfl
def Ut{a:Type}(b:Bool)(x y:Option (List β))(f:β->Option (List a)):bnd (bi b x y) f=bi b (bnd x f) (bnd y f):=by cases b<;>rfl
def aat(b:Bool)(x y:Option α)(f:α->Option β):ob (bi b x y) f=bi b (ob x f) (ob y f):=by cases b<;>rfl
def Bw:Db->Bool
 |.e _=>true
 |_=>false
def Rv(e:Bool)(d:Option Nat)(k:RC)(cf:G6)(ls:cM)(env:T j5)(r:VM):Option (List EM):=
 bi e (iK r.v (λx=>some [⟨env,r.m,some x,[]⟩]) (k cf (r.v::ls) (fA d r.v env) r.m)) (k cf (r.v::ls) (fA d r.v env) r.m)
def aau(o:Db)(d:Option Nat)(g:Option (aS×Bool))(k:RC)(cf:G6)(ls:cM)(env:T j5)(m:cD):
   ZU o d g k cf ls env m=bnd (evG cf g o ls env m) (Rv (Bw o) d k cf ls env):=by
 cases o with
 |p o=>
  have h:ZU (.p o) d g k cf ls env m=ob (HV g (qW o) ls env) (λv=>k cf (v::ls) (fA d v env) m):=by cases d<;>rfl
  rw[h];cases g with
  |none=>exact(Fw (qW o ls env) (λv=>(⟨v,m⟩:VM)) (λr=>k cf (r.v::ls) (fA d r.v env) r.m)).symm
  |some p=>let⟨x,b⟩:=p;show ob (bi (sJ b (J6 x ls env)) (qW o ls env) (some .undef)) _=bnd (bi (sJ b (J6 x ls env)) (ob (qW o ls env) λv=>some [⟨v,m⟩]) (one .undef m)) _;rw[Ut,aat,Fw];rfl
 |r o=>
  have h:ZU (.r o) d g k cf ls env m=ob (Dg g (xX o) ls env m) (λv=>k cf (v::ls) (fA d v env) m):=by cases d<;>rfl
  rw[h];cases g with
  |none=>exact(Fw (xX o ls env m) (λv=>(⟨v,m⟩:VM)) (λr=>k cf (r.v::ls) (fA d r.v env) r.m)).symm
  |some p=>let⟨x,b⟩:=p;show ob (bi (sJ b (J6 x ls env)) (xX o ls env m) (some .undef)) _=bnd (bi (sJ b (J6 x ls env)) (ob (xX o ls env m) λv=>some [⟨v,m⟩]) (one .undef m)) _;rw[Ut,aat,Fw];rfl
 |a o=>
  have h:ZU (.a o) d g k cf ls env m=ob (TY g (Gr o) ls env m.nx) (λr=>k cf (r.1::ls) (fA d r.1 env) (Lx m r.2)):=by cases d<;>rfl
  rw[h];cases g with
  |none=>exact(Fw (Gr o ls env m.nx) (λr=>(⟨r.1,Lx m r.2⟩:VM)) (λr=>k cf (r.v::ls) (fA d r.v env) r.m)).symm
  |some p=>let⟨x,b⟩:=p;show ob (bi (sJ b (J6 x ls env)) (Gr o ls env m.nx) (some (.undef,none))) _=bnd (bi (sJ b (J6 x ls env)) (ob (Gr o ls env m.nx) λr=>some [⟨r.1,Lx m r.2⟩]) (one .undef m)) _;rw[Ut,aat,Fw];rfl
 |e o=>
  have h:ZU (.e o) d g k cf ls env m=bnd (Om g (xD o) cf ls env m) (Rv true d k cf ls env):=by cases d<;>rfl
  rw[h];cases g with
  |none=>rfl
  |some p=>rfl
def aav{o:Db}{d:Option Nat}{k:RC}{cf:G6}{outs:List EM}(h:ZU o d g k cf ls env m=some outs):
   ∃l,evG cf g o ls env m=some l∧∀r∈l,∃os,Rv (Bw o) d k cf ls env r=some os∧∀o∈os,o∈outs:=by
 rw[aau]at h;exact fH h
def WQ{p:j5->β}{q:β}(h:v.lt n):iK v p q=q:=by cases v<;>first|rfl|exact h.elim
def adC{e:Bool}{d:Option Nat}{k:RC}{cf:G6}{r:VM}(h:r.v.lt n):Rv e d k cf ls env r=k cf (r.v::ls) (fA d r.v env) r.m:=by
 cases e with
 |false=>rfl
 |true=>exact WQ h
def Cb{e:Op}{o:Oper}(f:o.op=e)(d:RM P G ι m w.heap)(c:(execOp a.eval o).run P w=.ok (.value (u7 ι v)) w)(b:v.lt (m.nm ι)):
   Does P a.eval o w (jo P G ι m w [⟨v,m⟩]):=bG c ⟨_,lM.2 rfl,ι,Step.refl d,b,rfl⟩
def aaw{cf:G6}(A:uD P G cf)(s:St P ι (m.nm ι) cr done ls env a.tmps)(f:RM P G ι m w.heap){C:Op}{u:Db}(h:jT P cr done C=some u){k:List VM}(t:ZW cf u ls env m=some k):
   ∀o:Oper,o.op=C->nZ P a.eval o w (fG P G ι m w k):=by
 intro o i;cases u with
 |p po=>let⟨v,n,q⟩:=D7 t;cases q;let⟨x,y⟩:=wE s h n;exact fO (Cb i f (y o i w) x)
 |r ro=>let⟨v,n,q⟩:=D7 t;cases q;let⟨x,y⟩:=wF s f (yY h) n;exact fO (Cb i f (y o i) x)
 |a lo=>
  let⟨r,n,q⟩:=D7 t;cases q;have D:¬ (m.nm ι) m.nx:=λ⟨_,h3,_⟩=>avw _ (cD.Q9 f.ok h3);have E:=wI s (λ_ _=>rfl) D (Dx h) n w;cases E with
  |none g hg=>exact fO (Cb i f (hg o i w) g)
  |made l obj w' hmk=>rename_i v b;have c:=Laid.new f.ok f.limn b hmk.live;have d:∀j,m.has j->(ι.upd m.nx l) j=ι j:=λj B=>ι.upd_ne _ λh=>c.free (h▸B);let⟨z,g⟩:=hmk.blk ((m.new b).nm (ι.upd m.nx l)) (cD.dL c.has d) c.self (by show((ι.upd m.nx l) m.nx).cap=l.cap;rw[Q0.aF]);exact fO (bG (hmk.run o i) ⟨_,lM.2 rfl,_,Step.lay f c hmk.grew hmk.loc hmk.spot z hmk.free,g,rfl⟩)
  |tail l hp z hg g=>rename_i v p;have c:=Laid.new f.ok f.limn (.tail p) rfl;have d:∀j,m.has j->(ι.upd m.nx l) j=ι j:=λj B=>ι.upd_ne _ λh=>c.free (h▸B);refine fO (bG (hg o i w) ⟨_,lM.2 rfl,_,Step.name f c rfl ⟨c.has p hp,?_⟩,g _ (cD.dL c.has d) c.self (by show((ι.upd m.nx l) m.nx).cap=l.cap;rw[Q0.aF]),rfl⟩);rw[d p hp];exact z
 |e eo=>exact Fv A s f h t o i
def St.mono{b:Nm}(s:St P ι n cr done ls env tmps)(hi:∀i,n i->ι' i=ι i)(hn:n.le b):St P ι' b cr done ls env tmps where
 ls t k hk:=by let⟨v,c,a,d⟩:=s.ls t k hk;exact⟨v,c,j5.aU hn v a,by rw[d,aZ hi v a]⟩
 env:=s.env.mono hi hn
 glob i hg:=by rw[hi i (s.gn i hg)];exact s.glob i hg
 gn g hg:=(hn g (s.gn g hg)).1
def qK(t:Nat):∀(l:List (Option Nat)) (i j:Nat),lC t l (i+j)=(lC t l i).map (· + j)
 |[],i,j=>rfl
 |some x::l,i,j=>by
  simp only[lC];cases beq x t with
  |true=>simp
  |false=>simp only[cond_false];rw[show i+j+1=(i+1)+j from by omega];exact qK t l (i+1) j
 |none::l,i,j=>by simp only[lC];rw[show i+j+1=(i+1)+j from by omega];exact qK t l (i+1) j
def aks(d:Option Tmp)(v:Value)(tmps:Array Value):Array Value:=match d with
 |some t=>tmps.setIfInBounds t v
 |none=>tmps
def St.put(s:St P ι n cr done ls env tmps)(d:Option Tmp)(h:∀t,d=some t->t<tmps.size)(i:v.lt n):
   St P ι n cr (d::done) (v::ls) (fA (QL cr d) v env) (aks d (u7 ι v) tmps) where
 ls t k hk:=by
  cases d with
  |none=>simp only[lC]at hk;rw[qK t done 0 1]at hk;obtain⟨g,a,rfl⟩:=akj.1 hk;let⟨u,b,c,f⟩:=s.ls t g a;exact⟨u,by simpa using b,c,f⟩
  |some t0=>
   simp only[lC]at hk;cases hb:beq t0 t with
   |true=>rw[hb]at hk;cases hk;obtain rfl:=nA hb;exact⟨v,rfl,i,by show(tmps.setIfInBounds t0 (u7 ι v)).getD t0 undef=_;rw[dY _ _ _ _ (h t0 rfl),cg rfl]⟩
   |false=>rw[hb,cond_false,qK t done 0 1]at hk;obtain⟨g,a,rfl⟩:=akj.1 hk;let⟨u,b,c,f⟩:=s.ls t g a;refine⟨u,by simpa using b,c,?_⟩;show(tmps.setIfInBounds t0 (u7 ι v)).getD t undef=_;rw[dY _ _ _ _ (h t0 rfl),aE (λe=>by rw[e]at hb;simp[ah6]at hb)];exact f
 env:=s.env.put d i
 glob:=s.glob
 gn:=s.gn
def qL(a:Act)(d:Option Tmp)(v:Value):(a.put d v).tmps=aks d v a.tmps∧(a.put d v).defers=a.defers:=by cases d<;>exact⟨rfl,rfl⟩
def kP(a:Act)(d:Option Tmp)(v:Value):(a.put d v).tmps.size=a.tmps.size:=by cases d<;>simp[Act.put]
def qM(cz:Array Oper)(done:List (Option Nat)):Option (Nat×Bool)->Option (aS×Bool)->Prop
 |none,g=>g=none
 |some (j,wt),g=>∃og d k,cz[j]?=some og∧og.dst=some d∧lC d done 0=some k∧g=some (.loc k,wt)
def xP(g:Option (aS×Bool))(ls:cM)(env:T j5):Bool:=match g with
 |none=>true
 |some (x,wt)=>sJ wt (J6 x ls env)
def bOf:Option Value->Option Bool
 |some (.bool b)=>some b
 |_=>none
def Uu(cz:Array Oper)(tmps:Array Value)(j:Nat):yielded cz tmps j=bOf (((cz[j]?).bind (·.dst)).bind (tmps[·]?)):=by
 unfold yielded;generalize ((cz[j]?).bind (·.dst)).bind (tmps[·]?)=z;cases z with
 |none=>rfl
 |some v=>cases v<;>rfl
def aax(a:Bool)(v:j5):(bOf (some (u7 ι v))==some a)=sJ a v:=by
 cases v with
 |bool b=>simp only[u7,bOf,sJ,Fa];cases b<;>cases a<;>rfl
 |_=>simp[u7,sJ,bOf]
def qZ{cz:Array Oper}{o:Oper}(s:St P ι n cr done ls env tmps)(b:qM cz done o.guard g):
   Region.wanted o (yielded cz tmps)=xP g ls env:=by
 unfold Region.wanted;cases hgd:o.guard with
 |none=>rw[hgd]at b;obtain rfl:g=none:=b;rfl
 |some p=>
  let⟨j,c⟩:=p;rw[hgd]at b;obtain⟨q,d,k,e,f,h,rfl⟩:=b;let⟨v,i,m,a⟩:=s.ls d k h;have l:J6 (.loc k) ls env=v:=by rw[Ji,i];rfl
  show(yielded cz tmps j==some c)=sJ c (J6 (.loc k) ls env);rw[l,Uu,e,agU,f,agU,← aax (ι:=ι)];rw[O6]at a;cases ht:tmps[d]? with
  |none=>rw[ht]at a;have a:undef=u7 ι v:=a;rw[← a];rfl
  |some x=>rw[ht]at a;have a:x=u7 ι v:=a;rw[a]
def qN{o:Oper}{a:Act}{w:cG}{b:Act->cG->Prop}(i:∀c,o.op≠.defer c){R:Ending->cG->Prop}(h:nZ P a.eval o w R)
   (hn:∀v w',R (.returned v) w'->b (a.put o.dst v) w') (hp:∀c w',R (.panicked c) w'->Q (.panic c) a w') (k:∀w',¬ R .outgrown w'):o.wpIn (FR r) 0 P a w b Q:=by
 refine⟨λ_ _=>trivial,?_⟩;rw[Oper.semAt_eq _ _ _ i];unfold nZ at h;generalize (execOp a.eval o).run P w=res at h;cases res with
 |halt x w'=>
  cases x with
  |panic v=>exact hp _ _ h
  |_=>exact h.elim
 |ok x w'=>
  cases x with
  |value v=>exact hn _ _ h
  |skip=>exact hn _ _ h
  |enter f args=>
   refine⟨(λg=>by cases g),CallsIn.mono (F:=FR r) h ?_⟩;intro e j d;cases e with
   |returned v=>exact hn _ _ d
   |panicked c=>exact hp _ _ d
   |outgrown=>exact cj d (k _)
  |round l f tmps assign body=>
   refine⟨(λg=>by cases g),RoundIn.mono (F:=FR r) h ?_⟩;intro e j d;cases e with
   |returned v=>exact hn _ _ d
   |panicked c=>exact hp _ _ d
   |outgrown=>exact cj d (k _)
  |_=>exact h.elim
def lH{o:Oper}{a:Act}{w:cG}{b:Act->cG->Prop}(d:∀c,o.op≠.defer c){R:Value->cG->Prop}(h:Does P a.eval o w R)
   (hn:∀v w',R v w'->b (a.put o.dst v) w'):o.wpIn (FR r) 0 P a w b Q:=by
 refine qN d (Ur h) (λv w' h=>?_) (λc w' h=>?_) (λw' h=>?_);let⟨u,e,h⟩:=h;cases e;exact hn _ _ h;let⟨u,e,_⟩:=h;cases e;let⟨u,e,_⟩:=h;cases e
def vE{d:Op}{b:Db}(h:jT P cr done d=some b)(a:∀f as,b≠.e (.defer f as)):∀c,d≠.defer c:=by rintro c rfl;simp only[jT]at h;split at h;let⟨_,_,h⟩:=cq h;let⟨_,_,h⟩:=cq h;cases h;exact a _ _ rfl;cases h
def uE{a:List VM}:¬ fG P G ι m w a .outgrown w':=by rintro (⟨v,h,_⟩|⟨r,_,x,ι',_,_,_,h⟩)<;>cases h
def JD{d:Op}{b:Db}{cf:G6}{a:List VM}(h:jT P cr done d=some b)(e:ZW cf b ls env m=some a):∀c,d≠.defer c:=by rintro c rfl;simp only[jT]at h;split at h;let⟨_,_,h⟩:=cq h;let⟨_,_,h⟩:=cq h;cases h;cases e;cases h
def Ap{cz:Array Oper}{x:Inst}{d:Option Nat}(h:QM P cr done cz i=some (x,d)):
   ∃o,cz[i]?=some o∧d=o.dst∧x.op=rJ P cr done o.op∧x.dst=QL cr o.dst∧qM cz done o.guard x.guard:=by
 let⟨o,a,h⟩:=cq h;dsimp only at h;cases hg:o.guard with
 |none=>rw[hg]at h;dsimp only at h;cases h;exact⟨o,a,rfl,rfl,rfl,by rw[hg];rfl⟩
 |some p=>let⟨j,l⟩:=p;rw[hg]at h;dsimp only at h;let⟨g,c,h⟩:=cq h;let⟨b,e,h⟩:=cq h;let⟨k,f,h⟩:=cq h;cases h;exact⟨o,a,rfl,rfl,rfl,by rw[hg];exact⟨g,b,k,c,e,f,rfl⟩⟩
def adD{cf:G6}(i:uD P G cf)(s:St P ι (m.nm ι) cr done ls env a.tmps)(l:RM P G ι m w.heap){cz:Array Oper}{o:Oper}(q:qM cz done o.guard g)
   (b:evG cf g (rJ P cr done o.op) ls env m=some outs) {K:Act->cG->Prop} 
   (k:∀v∈outs,∀ι' w',Step P G ι m w ι' v.m w'->v.v.lt (v.m.nm ι')->K (a.put o.dst (u7 ι' v.v)) w')
   (n:∀v∈outs,∀x ι' w',v.v=.aL x->Step P G ι m w ι' v.m w'->x.lt (v.m.nm ι')->Q (.panic [{v:=u7 ι' x,recovered:=false}]) a w'):
   if Region.wanted o (yielded cz a.tmps)then o.wpIn (FR r) 0 P a w K Q else(∀f,o.about P w a.eval=some f->(FR r).fn f)∧K (a.put o.dst undef) w:=by
 rw[qZ s q];have d:ZW cf (rJ P cr done o.op) ls env m=some outs->o.wpIn (FR r) 0 P a w K Q:=by
  intro b;cases hc:jT P cr done o.op with
  |none=>simp only[rJ,hc]at b;cases b
  |some ao=>simp only[rJ,hc]at b;refine qN (JD hc b) (aaw i s l hc b o rfl) ?_ ?_ λ_=>uE;rintro v w' (⟨u,hu,x,hx,ι',h1,h2,rfl⟩|⟨_,_,_,_,_,_,_,h⟩);cases hu;exact k x hx ι' w' h1 h2;cases h;rintro c w' (⟨u,hu,_⟩|⟨x,hx,y,ι',h1,h2,h3,h4⟩);cases hu;cases h4;exact n x hx y ι' w' h1 h2 h3
 cases g with
 |none=>exact d b
 |some p=>
  let⟨x,e⟩:=p;have b:bi (sJ e (J6 x ls env)) (ZW cf (rJ P cr done o.op) ls env m) (one .undef m)=some outs:=b;have j:xP (some (x,e)) ls env=sJ e (J6 x ls env):=rfl;rw[j];cases hb:sJ e (J6 x ls env)with
  |true=>rw[hb]at b;simp only[if_true];exact d b
  |false=>rw[hb]at b;cases b;simp only[agY,if_false];refine⟨λ_ _=>trivial,?_⟩;have:=k ⟨.undef,m⟩ (lM.2 rfl) ι w (Step.refl l) trivial;rw[oJ]at this;exact this
def tC{cz:Array Oper}{rest:cR}{a:List Inst}(h:nk P cr cz done (i::rest)=some a):
   ∃x d l,QM P cr done cz i=some (x,d)∧nk P cr cz (d::done) rest=some l∧a=x::l:=by
 simp only[nk]at h;split at h;split at h;cases h;exact⟨_,_,_,by assumption,by assumption,rfl⟩;cases h;cases h
def xI(ι:Q0):Mk->Deferred
 |.c id=>{target:=.collected (ι id).b,args:=#[]}
 |.d (.func fn a b) args=>{target:=.fn (lV ι fn) (A9 ι b).toArray,args:=(A9 ι a).toArray++(A9 ι args).toArray}
 |.d _ _=>{target:=.nil,args:=#[]}
def Yu(ι:Q0)(m:cD):Mk->Prop
 |.c id=>m.has id∧m.lim<=id
 |.d v args=>(∃fn a b,v=.func fn a b)∧v.lt (m.nm ι)∧fD (m.nm ι) args
def jW(ι:Q0)(m:cD)(k:List Mk)(ds:List Deferred):Prop:=ds=k.map (xI ι)∧∀x∈k,Yu ι m x
def Yu.step{ι':Q0}{k:cD}{w':cG}{x:Mk}(h:Yu ι m x)(f:Step P G ι m w ι' k w'):Yu ι' k x∧xI ι' x=xI ι x:=by
 cases x with
 |c id=>exact⟨⟨f.has id h.1,by rw[f.lim];exact h.2⟩,by simp only[xI,f.ext id h.1]⟩
 |d v args=>obtain⟨⟨r,a,b,rfl⟩,i,j⟩:=h;have e:=f.u7 i;have g:=cD.dL f.has f.ext;refine⟨⟨⟨r,a,b,rfl⟩,j5.aU g _ i,iW g _ j⟩,?_⟩;have l:=jg (n:=m.nm ι) f.ext args j;simp only[u7,Value.func.injEq]at e;let⟨o,p,q⟩:=e;simp only[xI,l,o,p,q]
def jW.step{ι':Q0}{c:cD}{w':cG}{k:List Mk}{ds:List Deferred}(h:jW ι m k ds)(a:Step P G ι m w ι' c w'):jW ι' c k ds:=by refine⟨?_,λx b=>((h.2 x b).step a).1⟩;rw[h.1];exact awg λx b=>((h.2 x b).step a).2.symm
def aay(ι:Q0)(e:EM):Exit:=match e.px with
 |none=>.normal
 |some x=>.panic [{v:=u7 ι x,recovered:=false}]
def Cc{i:Inst}{l:List Inst}(h:l≠[]∨sQ i=none):jE (i::l)=ZU i.op i.dst i.guard (jE l):=by
 cases l with
 |cons=>rfl
 |nil=>rcases h with h|h;exact cj rfl h;show Ja i=ZU i.op i.dst i.guard dz;unfold Ja;rw[h]
def ahp(L:r=none)(s:St P ι (m.nm ι) cr done ls env a.tmps)(K:RM P G ι m w.heap){cz:Array Oper}{o:Oper}{x:Inst}(h:x.op=rJ P cr done o.op)(u:x.dst=QL cr o.dst)(A:qM cz done o.guard x.guard)
   {f:aS} {i:List aS} (n:sQ x=some (f,i)) {b:List EM} {cf:G6} (C:Df (J6 f) (jD i) cf ls env m=some b) 
   (J:∀e∈b,∀ι' w' a',Step P G ι m w ι' e.m w'->dI ι' (e.m.nm ι') cr e.env a'.tmps->a'.defers=e.mks.map (xI ι')++a.defers->(∀y∈e.mks,Yu ι' e.m y)->a'.tmps.size=a.tmps.size->(∀y,e.px=some y->y.lt (e.m.nm ι'))->Q (aay ι' e) a' w'):
   if Region.wanted o (yielded cz a.tmps)then o.wpIn (FR r) 0 P a w (Q .normal) Q else(∀f,o.about P w a.eval=some f->(FR r).fn f)∧Q .normal (a.put o.dst undef) w:=by
 subst L;let⟨op,dst,guard⟩:=x;have h:op=rJ P cr done o.op:=h;have u:dst=QL cr o.dst:=u;have A:qM cz done o.guard guard:=A;have g:op=.e (.defer f i)∧guard=none∧dst=none:=by unfold sQ at n;split at n;rename_i p q t;cases n;exact⟨p,q,t⟩;cases n
 obtain⟨rfl,rfl,rfl⟩:=g;have M:Region.wanted o (yielded cz a.tmps)=true:=by rw[qZ s A];rfl
 rw[M,cg rfl];have l:jT P cr done o.op=some (.e (.defer f i)):=by unfold rJ at h;split at h;rename_i R B;rw[B,← h];cases h
 cases hop:o.op with
 |defer c=>
  rw[hop]at l;cases Dy l with
  |defer p q t=>
   let⟨D,E⟩:=D9 s q;let⟨F,H⟩:=OQ s t;let⟨fn,x,y,I,C⟩:=Ox C;cases C;rw[I]at D E;refine⟨λ_ _=>trivial,?_⟩;have k:(Oper.semAt none a.eval o).run P w=.ok (.defer (xI ι (.d (.func fn x y) (evs (jD i) ls env)))) w:=by rw[Oper.semAt_none];simp[execOp,hop,resolve,p,D,F,u7,Deferred.ofValue,xI]
   show o.uponIn (FR none) 0 P a (Q .normal) Q ((Oper.semAt none a.eval o).run P w);rw[k];have j:=s.env.put o.dst (v:=.undef) trivial;rw[← u,oJ]at j;refine J _ (lM.2 rfl) ι w _ (Step.refl K) ?_ ?_ ?_ ?_ (λy N=>by cases N);rw[(qL _ o.dst undef).1];exact j;rw[(qL _ o.dst undef).2];rfl;intro z O;obtain rfl:=lM.1 O;exact⟨⟨_,_,_,rfl⟩,E,H⟩;rw[kP]
 |_=>rw[hop]at l;cases Dy l
def Yv{cf:G6}(J:uD P G cf){cz:Array Oper}{nt:Nat}(a3:∀(i:Nat)(o:Oper)(t:Tmp),cz[i]?=some o->o.dst=some t->t<nt):
   ∀(l:cR) (done:List (Option Nat)) (insts:List Inst),nk P cr cz done l=some insts->(lU insts=true->r=none)->∀(ls:cM) (env:T j5) (m:cD) (ι:Q0) (w:cG) (a:Act) (outs:List EM),
    RM P G ι m w.heap->nt<=a.tmps.size->St P ι (m.nm ι) cr done ls env a.tmps->jE insts cf ls env m=some outs->
    (∀e∈outs,∀ι' w' a',Step P G ι m w ι' e.m w'->dI ι' (e.m.nm ι') cr e.env a'.tmps->a'.defers=e.mks.map (xI ι')++a.defers->(∀y∈e.mks,Yu ι' e.m y)->a'.tmps.size=a.tmps.size->(∀y,e.px=some y->y.lt (e.m.nm ι'))->Q (aay ι' e) a' w')->
    wpOpsIn (FR r) 0 P cz Q l a w:=by
 intro l;induction l with
 |nil=>intro done insts E K ls env m ι w a outs F M s B S;simp only[nk,iE]at E;subst E;have B:some [EM.mk env m none []]=some outs:=B;cases B;exact S _ (lM.2 rfl) ι w a (Step.refl F) s.env rfl (λy W=>by cases W) rfl (λy W=>by cases W)
 |cons i rest ih=>
  intro done insts E K ls env m ι w a outs F M s B S;obtain⟨x,d,l,hx,hl,rfl⟩:=tC E;obtain⟨o,h1,rfl,I,Z,h4⟩:=Ap hx;simp only[wpOpsIn,h1];by_cases hdd:l≠[]∨sQ x=none;rw[Cc hdd]at B;let⟨vs,c,hk⟩:=aav B;rw[I]at c;refine adD J s F h4 c ?_ ?_;intro v g ι' w' A k;let⟨os,C,D⟩:=hk v g;rw[adC k,Z]at C;have s':=(St.mono (n:=m.nm ι) s A.ext (cD.dL A.has A.ext)).put o.dst (λt ht=>aP (a3 i o t h1 ht) M) k;refine ih _ _ hl (λh=>K (by simp[lU,h])) _ _ _ ι' w' (a.put o.dst (u7 ι' v.v)) os A.rm (by rw[kP];exact M) (by rw[(qL a o.dst (u7 ι' v.v)).1];exact s') C ?_;intro e he Y a7 a0 V a2 U L a5 a4;exact S e (D e he) Y a7 a0 (A.trans V) a2 (by rw[U,(qL a o.dst _).2]) L (a5.trans (kP a o.dst _)) a4;intro v g y ι' w' b A k;let⟨os,C,D⟩:=hk v g;have hE:Bw x.op=true:=by
   cases hb:Bw x.op with
   |true=>rfl
   |false=>exfalso;exact not_pan J s F h4 I hb c g b
  have C:some [(⟨env,v.m,some y,[]⟩:EM)]=some os:=by
   have:Rv (Bw x.op) x.dst (jE l) cf ls env v=some [⟨env,v.m,some y,[]⟩]:=by unfold Rv;rw[hE,b];rfl
   rw[← C,this]
  cases C;exact S _ (D _ (lM.2 rfl)) ι' w' a A (A.env s.env) rfl (λy W=>by cases W) rfl (λz hz=>by cases hz;exact k);simp only[not_or,Decidable.not_not]at hdd;obtain⟨rfl,a1⟩:=hdd;cases hdo:sQ x with
  |none=>exact cj hdo a1
  |some p=>
   let⟨f,as⟩:=p;have hr:r=none:=K (by simp[lU,hdo]);have B:Df (J6 f) (jD as) cf ls env m=some outs:=by have:jE [x]=Df (J6 f) (jD as):=(by show Ja x=_;unfold Ja;rw[hdo]);rw[← this];exact B
   have N:rest=[]:=by
    cases rest with
    |nil=>rfl
    |cons j rest=>let⟨_,_,_,_,_,h⟩:=tC hl;cases h
   subst N;exact ahp hr s F I Z h4 hdo B S
where
 not_pan {P:cH} {G:cD} {ι:Q0} {m:cD} {w:cG} {cr:cR} {done:List (Option Nat)} {ls:cM} {env:T j5} {a:Act} {cf:G6} (J:uD P G cf) (s:St P ι (m.nm ι) cr done ls env a.tmps) (F:RM P G ι m w.heap) {cz:Array Oper} {o:Oper} {x:Inst}
   (h4:qM cz done o.guard x.guard) (I:x.op=rJ P cr done o.op) (hb:Bw x.op=false) {vs:List VM} (c:evG cf x.guard (rJ P cr done o.op) ls env m=some vs) {v:VM} (g:v∈vs) {y:j5} (b:v.v=.aL y):False:=by
  rw[← I]at c;have X:ZW cf x.op ls env m=some vs->False:=by
   intro B;cases E:jT P cr done o.op with
   |none=>rw[I]at hb;simp[rJ,E,Bw]at hb
   |some ao=>
    have a6:x.op=ao:=(by rw[I];simp[rJ,E]);rw[a6]at B hb;cases ao with
    |p po=>let⟨u,O,R⟩:=D7 B;cases R;obtain rfl:=lM.1 g;have:=(wE s E O).1;have b:u=.aL y:=b;rw[b]at this;exact this
    |r ro=>let⟨u,O,R⟩:=D7 B;cases R;obtain rfl:=lM.1 g;have:=(wF s F (yY E) O).1;have b:u=.aL y:=b;rw[b]at this;exact this
    |a lo=>
     let⟨u,O,R⟩:=D7 B;cases R;obtain rfl:=lM.1 g;have H:u.1=.aL y:=b;clear g c B b;have b:=H;clear H;have hn:¬ (m.nm ι) m.nx:=λ⟨_,Z,_⟩=>avw _ (cD.Q9 F.ok Z);have hs:=wI s (λ_ _=>rfl) hn (Dx E) O w;cases hs with
     |none k hg=>dsimp only at b;subst b;exact k
     |made l obj w' L=>have:=(L.blk ⟨λ_=>True,λi=>if i=m.nx then l.cap else(ι i).cap⟩ (λi hi=>⟨trivial,by show(if i=m.nx then l.cap else(ι i).cap)=(ι i).cap;rw[aE];rintro rfl;exact hn hi⟩) trivial (cg rfl)).2;dsimp only at b;subst b;exact this
     |tail l hp hbb hg k=>have:=k ⟨λ_=>True,λi=>if i=m.nx then l.cap else(ι i).cap⟩ (λi hi=>⟨trivial,by show(if i=m.nx then l.cap else(ι i).cap)=(ι i).cap;rw[aE];rintro rfl;exact hn hi⟩) trivial (cg rfl);dsimp only at b;subst b;exact this
    |e eo=>simp[Bw]at hb
  cases hg:x.guard with
  |none=>rw[hg]at c;exact X c
  |some z=>
   let⟨q,wt⟩:=z;rw[hg]at c;have c:bi (sJ wt (J6 q ls env)) (ZW cf x.op ls env m) (one .undef m)=some vs:=c;cases hB:sJ wt (J6 q ls env)with
   |true=>rw[hB]at c;exact X c
   |false=>rw[hB]at c;cases c;obtain rfl:=lM.1 g;cases b
end
def aaz(v:j5):∀(n i j:Nat) (t:T j5),i≠j->way n j (fM n i v t)=way n j t:=by
 intro n;induction n with
 |zero=>intro i j t h;rfl
 |succ n ih=>
  intro i j t h;cases t with
  |e=>
   cases i with
   |zero=>rfl
   |succ i=>rcases adp i with h0|h0<;>simp only[fM,h0]<;>rfl
  |nd l x r=>
   cases i with
   |zero=>
    cases j with
    |zero=>exact cj rfl h
    |succ j=>rcases adp j with h0|h0<;>simp only[way,fM,h0]<;>rfl
   |succ i=>
    cases j with
    |zero=>rcases adp i with h0|h0<;>simp only[way,fM,h0]<;>rfl
    |succ j=>
     rcases adp i with h0|h0<;>rcases adp j with h1|h1<;>simp only[way,fM,h0,h1]
     exact ih (i / 2) (j / 2) l Zs;rfl;rfl;exact ih (i / 2) (j / 2) r Zs
def JE{d:Option Nat}(h:d≠some j)(v:j5)(ls ls':cM)(env:T j5):J6 (.slot j) ls' (fA d v env)=J6 (.slot j) ls env:=by
 cases d with
 |none=>rfl
 |some i=>exact aaz v 64 i j env (λe=>h (by rw[e]))
def aaA{d:Option Nat}{y:aS}(h:∀j,y=.slot j->d≠some j)(v:j5)(ls:cM)(env:T j5):J6 (bump y) (v::ls) (fA d v env)=J6 y ls env:=by
 cases y with
 |loc k=>rw[Ji];show J6 (.loc (k+1)) (v::ls) (fA d v env)=_;rw[Ji];simp
 |slot j=>exact JE (h j rfl) v ls (v::ls) env
 |con c=>rfl
section
variable {f:aS->aS}{ls ls':cM}{env env':T j5}
def MP{o:Db}(h:∀x∈IG o,Sm f ls env ls' env' x)(cf:G6)(m:cD):ZW cf (mapA f o) ls' env' m=ZW cf o ls env m:=by
 cases o with
 |p o=>show ob (qW (oz f o) ls' env') _=ob (qW o ls env) _;rw[MK h]
 |r o=>show ob (xX (LB f o) ls' env' m) _=ob (xX o ls env m) _;rw[ML h]
 |a o=>show ob (Gr (QG f o) ls' env' m.nx) _=ob (Gr o ls env m.nx) _;rw[MN h]
 |e o=>exact MO h cf m
def Yw{o:Db}(h:∀x∈IG o,Sm f ls env ls' env' x)(c:∀p,g=some p->Sm f ls env ls' env' p.1)(cf:G6)(m:cD):
   evG cf (g.map λp=>(f p.1,p.2)) (mapA f o) ls' env' m=evG cf g o ls env m:=by
 cases g with
 |none=>exact MP h cf m
 |some p=>let⟨x,a⟩:=p;have b:J6 (f x) ls' env'=J6 x ls env:=c _ rfl;show bi (sJ a (J6 (f x) ls' env')) (ZW cf (mapA f o) ls' env' m) (one .undef m)=bi (sJ a (J6 x ls env)) (ZW cf o ls env m) (one .undef m);rw[b,MP h]
end
def aaB{x:Option (List α)}{f g:α->Option (List β)}(h:∀a os,f a=some os->g a=some os){outs:List β}(c:bnd x f=some outs):bnd x g=some outs:=by
 have e:∀(l:List α) (outs:List β),Mi f l=some outs->Mi g l=some outs:=by
  intro l;induction l with
  |nil=>intro outs h;exact h
  |cons a l ih=>intro outs d;rw[JB]at d ⊢;let⟨x,i,d⟩:=D7 d;let⟨y,j,d⟩:=D7 d;rw[h _ _ i,ih _ j];exact d
 cases x with
 |none=>cases c
 |some l=>
  match l,c with
  |[],c=>exact c
  |[a],c=>exact h a _ c
  |a::b::t,c=>exact e (a::b::t) _ c
def Yx(f:aS->aS)(o:Db):Bw (mapA f o)=Bw o:=by cases o<;>rfl
def WR{p:j5->β}{q:β}(h:¬ ∃x,v=.aL x):iK v p q=q:=by cases v<;>first|rfl|exact cj ⟨_,rfl⟩ h
def Yy{e:Bool}{d:Option Nat}{k c:RC}{cf:G6}{ls ls':cM}{env:T j5}{r:VM}{os:List EM}(h:∀os,k cf (r.v::ls') (fA d r.v env) r.m=some os->c cf (r.v::ls) (fA d r.v env) r.m=some os)
   (a:Rv e d k cf ls' env r=some os):Rv e d c cf ls env r=some os:=by
 cases e with
 |false=>exact h os a
 |true=>have a:iK r.v (λx=>some [⟨env,r.m,some x,[]⟩]) (k cf (r.v::ls') (fA d r.v env) r.m)=some os:=a;show iK r.v (λx=>some [⟨env,r.m,some x,[]⟩]) (c cf (r.v::ls) (fA d r.v env) r.m)=some os;by_cases b:∃x,r.v=.aL x;obtain⟨v,f⟩:=r;obtain⟨x,b⟩:=b;have b:v=.aL x:=b;subst b;exact a;rw[WR b]at a ⊢;exact h os a
def Yz{f:aS->aS}{i:Inst}(h:sQ i=none)(a:g.isNone=i.guard.isNone):sQ ⟨mapA f i.op,i.dst,g⟩=none:=by
 let⟨op,dst,guard⟩:=i;cases guard with
 |some p=>
  cases g with
  |none=>cases a
  |some q=>simp[sQ]
 |none=>
  cases g with
  |some q=>cases a
  |none=>
   cases dst with
   |some d=>simp[sQ]
   |none=>
    cases op with
    |e o=>cases o<;>first|rfl|cases h
    |_=>rfl
def Rl(r:List aS)(ls ls':cM)(env:T j5):Prop:=∀k,J6 (r.getD k (.con .undef)) ls' env=(ls[k]?).getD .undef
def Rl.rn{r:List aS}{ls ls':cM}{env:T j5}(h:Rl r ls ls' env)(x:aS):Sm (rn r) ls env ls' env x:=by
 cases x with
 |loc k=>show J6 (r.getD k (.con .undef)) ls' env=J6 (.loc k) ls env;rw[h k,Ji]
 |slot j=>rfl
 |con c=>rfl
def GA{i:Inst}{l:List Inst}(h:lU (i::l)=false):jE (i::l)=ZU i.op i.dst i.guard (jE l):=by
 refine Cc (.inr ?_);simp only[lU,axd]at h;cases hd:sQ i with
 |none=>rfl
 |some p=>rw[hd]at h;cases h.1
def OT(cf:G6):∀(l:List Inst) (r:List aS) (ls ls':cM) (env:T j5) (m:cD) (outs:List EM),lU l=false->Rl r ls ls' env->(∀j,.slot j∈r->BL j l=false)->
   jE (qw r l) cf ls' env m=some outs->jE l cf ls env m=some outs:=by
 intro l;induction l with
 |nil=>intro r ls ls' env m outs _ _ _ h;exact h
 |cons i l ih=>
  intro r ls ls' env m outs b q E h;have e:lU l=false:=by simp only[lU,axd]at b;exact b.2
  have g:∀j,.slot j∈r->i.dst≠some j∧BL j l=false:=λj a=>by have:=E j a;simpa[BL]using this
  have f:jE (⟨mapA (rn r) i.op,i.dst,i.guard.map λp=>(rn r p.1,p.2)⟩::qw (.loc 0::r.map bump) l) cf ls' env m=some outs->jE (i::l) cf ls env m=some outs:=by
   intro h;have w:sQ i=none:=by
    simp only[lU,axd]at b;cases w:sQ i with
    |none=>rfl
    |some p=>rw[w]at b;cases b.1
   rw[Cc (.inr (Yz w (by cases i.guard<;>rfl)))]at h
   rw[GA b];have h:ZU (mapA (rn r) i.op) i.dst (i.guard.map λp=>(rn r p.1,p.2)) (jE (qw (.loc 0::r.map bump) l)) cf ls' env m=some outs:=h;rw[aau]at h ⊢;rw[Yw (λx _=>q.rn x) (λp _=>q.rn p.1),Yx]at h;refine aaB (λv G A=>Yy (λG A=>?_) A) h;refine ih _ _ _ _ _ _ e ?_ ?_ A;intro k;cases k with
   |zero=>rfl
   |succ k=>
    have C:(aS.loc 0::r.map bump).getD (k+1) (.con .undef)=bump (r.getD k (.con .undef)):=by rw[O0,O0,ajp,abP];cases r[k]? <;>rfl
    rw[C,aaA,q k];simp;intro j a;have:aS.slot j∈r:=by
     rw[O0]at a;cases hk:r[k]? with
     |none=>rw[hk]at a;cases a
     |some y=>rw[hk]at a;obtain rfl:y=.slot j:=a;exact O5 hk
    exact(g j this).1
   intro j a;rcases O4.1 a with a|a;cases a;let⟨y,F,n⟩:=adg.1 a;cases y with
   |slot B=>obtain rfl:B=j:=by simpa[bump]using n
            exact(g _ F).2
   |loc k=>simp[bump]at n
   |con c=>simp[bump]at n
  have d:∀x,i.op=.p (.mov x)->i.dst=none->i.guard=none->(∀j,rn r x=.slot j->BL j l=false)->jE (qw (rn r x::r) l) cf ls' env m=some outs->jE (i::l) cf ls env m=some outs:=by
   intro x s t u D h;rw[GA b,s,t,u];show jE l cf (J6 x ls env::ls) env m=some outs;refine ih _ _ _ _ _ _ e ?_ ?_ h;intro k;cases k with
   |zero=>exact q.rn x
   |succ k=>simpa using q k
   intro j a;rcases O4.1 a with a|a;exact D j a.symm;exact(g j a).2
  simp only[qw]at h;split at h;rename_i x s t u;split at h;rename_i j a;cases hw:BL j l with
  |true=>rw[hw]at h;exact f h
  |false=>rw[hw]at h;refine d x s t u (λB o=>?_) (by rw[a];exact h);rw[a]at o;cases o;exact hw
  rename_i z;exact d x s t u (λj a=>cj a (z j)) h;exact f h
section
variable {P:cH}{G:cD}{ι:Q0}{n:Nm}{m:cD}{w:cG}{cr:cR}{done:List (Option Nat)}{ls:cM}{env:T j5}{a:Act}
def aaC:bQ->Exit
 |.normal=>.normal
 |.exit id=>.exit id
 |.ret=>.ret
def WT(ι:Q0)(o:Out):Exit:=match o.pv with
 |none=>aaC o.x
 |some x=>.panic [{v:=u7 ι x,recovered:=false}]
def YA(ι:Q0)(o:Out):Prop:=∀x,o.pv=some x->o.x=.ret∧x.lt (o.m.nm ι)
def fT{ι:Q0}{o:Out}(h:o.pv=none):YA ι o:=λx a=>by rw[h]at a;cases a
def pz{ι:Q0}{o:Out}(h:YA ι o)(a:o.x≠.ret):o.pv=none:=by
 cases hp:o.pv with
 |none=>rfl
 |some x=>exact cj (h x hp).1 a
def YB(ι:Q0)(m:cD)(ir r:Option Nat):Prop:=r=ir.map (λl=>(ι l).b)∧∀l,ir=some l->m.has l
def YB.step{ι':Q0}{c:cD}{w':cG}{b r:Option Nat}{G:cD}(h:YB ι m b r)(a:Step P G ι m w ι' c w'):YB ι' c b r:=by
 refine⟨?_,λl d=>a.has l (h.2 l d)⟩;rw[h.1];cases b with
 |none=>rfl
 |some l=>simp[a.ext l (h.2 l rfl)]
def St.start(a:RM P G ι m w.heap)(h:dI ι (m.nm ι) cr env tmps):St P ι (m.nm ι) cr [] [] env tmps:=
 ⟨λt k b=>by simp[lC]at b,h,a.glob,a.ghas⟩
def zn{b:Option Y9}{f:LoopState->Option bQ->T j5->List (Option Nat)->bM->bM->Option β}{r:β}(h:sS b f=some r):
   ∃st pend env params assign body,b=some (.loop st pend env params assign body)∧f st pend env params assign body=some r:=by
 unfold sS at h;split at h;exact⟨_,_,_,_,_,_,rfl,h⟩;cases h
def Rw{cf:G6}(e:uD P G cf)(p:RM P G ι m w.heap){g:Operand}{l:Nat}{fv:j5}(n:a.eval g=u7 ι fv)(i:fv.lt (m.nm ι))(o:m.has l)
   (h:aa9 cf m [.func (.yield l) [] []] fv=some outs):
   ∃d f args,(resolve a.eval (rangeCall g (ι l).b) 0).run P w=.ok d w∧(invoke d.target d.args).run P w=.ok (.enter f args) w∧CallsIn Fence.wide 0 P f args w (fG P G ι m w outs):=by
 obtain⟨j,x,y,rfl,h⟩:=Ox h;let⟨_,q,r⟩:=i;cases j with
 |func gf=>have h:cf (.func gf) (dK x (dK [.func (.yield l) [] []] y)) m=some outs:=h;rw[V9,V9]at h;let⟨k,c⟩:=e.func h;refine⟨{target:=.fn (.func gf) (A9 ι y).toArray,args:=(A9 ι x).toArray++#[.func (.yield (ι l).b) #[] #[]]},gf,_,?_,?_,c p (lW q ⟨⟨o,trivial,trivial⟩,r⟩)⟩;show(Deferred.ofValue (a.eval g) (#[Operand.const (.func (.yield (ι l).b) #[] #[])].map a.eval)).run P w=_;rw[n];simp[u7,lV,Deferred.ofValue,Act.eval];simp[invoke,qJ k,nE,A9,u7,lV]
 |_=>cases h
def LY{F:Fence}{b:Nat}{x:bQ}(h:Q (aaC x) a w):(exitCode x).wpIn F b P Q a w:=by
 cases x with
 |normal=>exact wpIn_skip h
 |exit id=>exact wpIn_exit h
 |ret=>exact wpIn_ret h
def Rx{cf:G6}(a6:uD P G cf){nt:Nat}{g:Operand}{ps:Array Tmp}{assign body:Code}{z:aS}{x y:bM}(hz:aD P cr [] g=some z)(hx:aT P cr assign=some x)(hy:aT P cr body=some y)
   (ha:tmpsIn nt assign=true) (hb:tmpsIn nt body=true) {u:cG} {p:cD} {q:Q0} {k:List Mk} {mark:List Deferred} {D:Nat} (hm:RM P G ι m w.heap) (s:Step P G ι m w q p u)
   (Z:dI ι (m.nm ι) cr env a.tmps) (a7:nt<=a.tmps.size)
   (I:∀fn,(Instr.enterLoop fn a.tmps ps assign body r).run P w=.ok (u.heap.size,mark) (u.alloc (.loop {state:=.ready,pending:=none,fn,tmps:=a.tmps,params:=ps,assign,body,defers:=D})))
   (J:jW q p k (mark++a.defers)) {outs:List Out} (hv:Ud cf (J6 z [] env) (ps.toList.map λt=>idxOf t cr 0) x y env p k=some outs) 
   (hQ:∀o∈outs,∀ι' w' a',Step P G ι m w ι' o.m w'->dI ι' (o.m.nm ι') cr o.env a'.tmps->a'.tmps.size=a.tmps.size->jW ι' o.m o.marks a'.defers->YA ι' o->Q (WT ι' o) a' w'):
   (Code.rangeFunc g ps assign body).wpIn (FR r) 0 P Q a w:=by
 refine wpIn_rangeFunc λfn _=>?_;let⟨e1,e2⟩:=D9 (St.start hm Z) hz;have A:=Laid.new s.rm.ok s.rm.limn (.loop .ready none env (ps.toList.map λt=>idxOf t cr 0) x y) rfl;generalize hrec:({state:=.ready,pending:=none,fn,tmps:=a.tmps,params:=ps,assign,body,defers:=D}:Loop)=rec at *;have N:∀j,p.has j->(q.upd p.nx ⟨u.heap.size,0,0,none⟩) j=q j:=λj hj=>q.upd_ne _ λh=>A.free (h▸hj);have H:Step P G q p u (q.upd p.nx ⟨u.heap.size,0,0,none⟩) (p.new (.loop .ready none env (ps.toList.map λt=>idxOf t cr 0) x y)) (u.alloc (.loop rec)):=by refine Step.lay (w':=u.alloc (.loop rec)) s.rm A (o:=.loop rec) (l:=⟨u.heap.size,0,0,none⟩) ⟨rfl,rfl,rfl,rfl⟩ rfl rfl ?_ (by intro _ _ _ h;cases h);refine⟨rec,kM,by rw[← hrec],by rw[← hrec];rfl,cr,?_,by rw[← hrec],by rw[← hrec];exact hx,by rw[← hrec];exact hy,nt,by rw[← hrec];exact a7,by rw[← hrec];exact ha,by rw[← hrec];exact hb⟩;have:=(s.env Z).mono (n:=p.nm q) N (cD.dL A.has N);rw[← hrec];exact this
 have E:=s.trans H;have S:((q.upd p.nx ⟨u.heap.size,0,0,none⟩) p.nx).b=u.heap.size:=by rw[Q0.aF]
 generalize hι2:q.upd p.nx ⟨u.heap.size,0,0,none⟩=ι2 at *;generalize hm2:p.new (.loop .ready none env (ps.toList.map λt=>idxOf t cr 0) x y)=m2 at *;have R:m2.has p.nx:=A.self;have hv:bnd (aa9 cf m2 [.func (.yield p.nx) [] []] (J6 z [] env)) (λr=>iK r.v (λ_=>none) <| sS (r.m.get p.nx) λst B _ _ _ _=>match st with
   |.busy=>none
   |_=>match B with
    |none=>uo .normal env (r.m.set p.nx .dead) k
    |some x=>uo x env (r.m.set p.nx .dead) k)=some outs:=by rw[← hm2];exact hv
 obtain⟨vs,a8,hk⟩:=fH hv;obtain⟨d,f,a0,T,a2,Y⟩:=Rw (a:=a) a6 E.rm (by rw[e1];exact(E.u7 e2).symm) (j5.aU (cD.dL E.has E.ext) _ e2) R a8;rw[S]at T;refine⟨u.heap.size,mark,u.alloc (.loop rec),d,u.alloc (.loop rec),f,a0,u.alloc (.loop rec),(by rw[← hrec];exact I fn),T,λ_ _=>trivial,a2,(λhc=>by cases hc),CallsIn.mono (F:=FR r) Y ?_⟩;rintro e w3 (⟨v,rfl,r0,hr0,ι3,hst3,hlt3,_⟩|⟨r0,hr0,x0,ι3,hx0,_⟩)
 case inr=>let⟨os,i,_⟩:=hk r0 hr0;rw[hx0]at i;cases i
 let⟨os,i,V⟩:=hk r0 hr0;rw[WQ hlt3]at i;let⟨st,B,aa,a5,ab,ac,O,i⟩:=zn i;let⟨L,hL,K⟩:=hst3.rm.blk p.nx _ O;have W:(ι3 p.nx).b=u.heap.size:=by rw[hst3.ext _ R];exact S
 rw[W]at hL;have a3:r0.m.lim<=p.nx:=by rw[hst3.lim,H.lim];exact s.rm.limn
 have X:L.state≠.busy:=by rw[K.state];intro e;subst e;cases i
 have a1:=run_endLoop (P:=P) hL X;have U:Step P G ι3 r0.m w3 ι3 (r0.m.set p.nx .dead) (w3.putObj u.heap.size (.loop {L with state:=.exhausted})):=by refine Step.set hst3.rm a3 O rfl rfl (o:=.loop {L with state:=.exhausted}) ⟨by rw[W];rfl,rfl,rfl,rfl⟩ trivial (by intro _ _ _ h;cases h)
 have C:=(E.trans hst3).trans U;have a4:jW ι3 (r0.m.set p.nx .dead) k (mark++a.defers):=J.step ((H.trans hst3).trans U);have M:dI ι3 ((r0.m.set p.nx .dead).nm ι3) cr env a.tmps:=C.env Z;refine⟨L.pending,_,a1,?_⟩;have a9:∀j:Option Code,j=B.map exitCode->(match j with
   |none=>Q .normal {a with defers:=mark++a.defers} (w3.putObj u.heap.size (.loop {L with state:=.exhausted}))
   |some c=>c.wpIn (FR r) 0 P Q {a with defers:=mark++a.defers} (w3.putObj u.heap.size (.loop {L with state:=.exhausted}))):=by
  rintro j rfl;cases B with
  |none=>
   have i:uo .normal env (r0.m.set p.nx .dead) k=some os:=by cases st<;>first|exact i|cases i
   cases i;exact hQ _ (V _ (lM.2 rfl)) ι3 _ {a with defers:=mark++a.defers} C M rfl a4 (fT rfl)
  |some x'=>
   have i:uo x' env (r0.m.set p.nx .dead) k=some os:=by cases st<;>first|exact i|cases i
   cases i;exact LY (hQ _ (V _ (lM.2 rfl)) ι3 _ {a with defers:=mark++a.defers} C M rfl a4 (fT rfl))
 exact a9 _ K.pending
end
section
variable {P:cH}{G:cD}
def YC(P:cH)(G:cD)(cr:cR)(nt:Nat)(cf:G6)(fuel:Nat)(r:Option Nat)(c:Code)(ac:bM):Prop:=
 ∀(Q:Exit->Act->cG->Prop) (ir:Option Nat) (env:T j5) (m:cD) (k:List Mk) (ι:Q0) (w:cG) (a:Act) (outs:List Out),
  RM P G ι m w.heap->dI ι (m.nm ι) cr env a.tmps->nt<=a.tmps.size->jW ι m k a.defers->YB ι m ir r->yJ ac cf fuel ir env m k=some outs->
  (∀o∈outs,∀ι' w' a',Step P G ι m w ι' o.m w'->dI ι' (o.m.nm ι') cr o.env a'.tmps->a'.tmps.size=a.tmps.size->jW ι' o.m o.marks a'.defers->YA ι' o->Q (WT ι' o) a' w')->
  c.wpIn (FR r) 0 P Q a w
def oK(P:cH)(G:cD)(cr:cR)(nt:Nat)(cf:G6)(r:Option Nat):Prop:=
 ∀(id:Nat) (cz:Array Oper) (n:Nat) (l:List (Nat×Inst)),Gu P cr cz=some (.dreg n l)->(∀(i:Nat) (o:Oper) (t:Tmp),cz[i]?=some o->o.dst=some t->t<nt)->
  ∀(Q:Exit->Act->cG->Prop) (env:T j5) (m:cD) (ι:Q0) (w:cG) (a:Act) (outs:List EM),
  RM P G ι m w.heap->dI ι (m.nm ι) cr env a.tmps->nt<=a.tmps.size->EY l cf m.nx [] env (reserve n m) [reserve n m]=some outs->
  (∀e∈outs,e.px=none->e.mks=[]->∀ι' w' a',Step P G ι m w ι' e.m w'->dI ι' (e.m.nm ι') cr e.env a'.tmps->a'.defers=a.defers->a'.tmps.size=a.tmps.size->Q .normal a' w')->
  (∀e∈outs,∀y,e.px=some y->e.mks=[]->∀ι' w' a',Step P G ι m w ι' e.m w'->y.lt (e.m.nm ι')->dI ι' (e.m.nm ι') cr e.env a'.tmps->a'.defers=a.defers->a'.tmps.size=a.tmps.size->Q (.panic [{v:=u7 ι' y,recovered:=false}]) a' w')->
  (Code.region id cz true).wpIn (FR r) 0 P Q a w
def uF{nt id:Nat}{cz:Array Oper}{d:Bool}(h:tmpsIn nt (.region id cz d)=true)(i:Nat)(o:Oper)(t:Tmp)(a:cz[i]?=some o)(b:o.dst=some t):t<nt:=by simp only[tmpsIn,agT]at h;have:=h o (by simpa using Array.mem_of_getElem? a);rw[b]at this;exact Eq.mp O8 this
def wK{x:bQ}{p:Option β}{q:Nat->Option β}{s:Option β}{r:β}(h:(bQ.rec p q s x:Option β)=some r):
   (x=.normal∧p=some r)∨(∃id,x=.exit id∧q id=some r)∨(x=.ret∧s=some r):=by
 cases x with
 |normal=>exact .inl ⟨rfl,h⟩
 |exit id=>exact .inr (.inl ⟨id,rfl,h⟩)
 |ret=>exact .inr (.inr ⟨rfl,h⟩)
def wL{V:cR}{nt:Nat}{cf:G6}(an:uD P G cf)(M:Nat)(ao:oK P G V nt cf r):
   ∀(c:Code) (ac:bM),aT P V c=some ac->tmpsIn nt c=true->YC P G V nt cf M r c ac:=by
 intro c;induction c with
 |skip=>intro ac u _ Q Z f m k W w a outs X C J B N i S;simp only[aT,iE]at u;subst u;have i:uo .normal f m k=some outs:=i;cases i;exact wpIn_skip (S _ (lM.2 rfl) W w a (Step.refl X) C rfl B (fT rfl))
 |exit id=>intro ac u _ Q Z f m k W w a outs X C J B N i S;simp only[aT,iE]at u;subst u;have i:uo (.exit id) f m k=some outs:=i;cases i;exact wpIn_exit (S _ (lM.2 rfl) W w a (Step.refl X) C rfl B (fT rfl))
 |ret=>intro ac u _ Q Z f m k W w a outs X C J B N i S;simp only[aT,iE]at u;subst u;have i:uo .ret f m k=some outs:=i;cases i;exact wpIn_ret (S _ (lM.2 rfl) W w a (Step.refl X) C rfl B (fT rfl))
 |region id cz d=>
  intro ac u I Q Z f m k W w a outs X C J B N i S;cases d with
  |false=>
   simp only[aT]at u;split at u;rename_i l hl;cases u;have am:∃es,jE l cf [] f m=some es∧(lU l=true->r=none)∧∀e∈es,∃os,oC k e=some os∧∀o∈os,o∈outs:=by
    cases hd:lU l with
    |true=>
     have i:(bif lU l then yH (jE l)else dB (jE (qw [] l))) cf M Z f m k=some outs:=i;rw[hd,cond_true]at i;cases Z with
     |some l'=>cases i
     |none=>have i:bnd (jE l cf [] f m) (oC k)=some outs:=i;let⟨es,a7,hk⟩:=fH i;exact⟨es,a7,λ_=>N.1,hk⟩
    |false=>have i:(bif lU l then yH (jE l)else dB (jE (qw [] l))) cf M Z f m k=some outs:=i;rw[hd,cond_false]at i;have i:bnd (jE (qw [] l) cf [] f m) (oC k)=some outs:=i;let⟨es,a7,hk⟩:=fH i;exact⟨es,OT cf l [] [] [] f m es hd (λk=>by simp[J6,bO]) (λj hj=>by cases hj) a7,λh=>(by cases h),hk⟩
   let⟨es,a7,az,hk⟩:=am;refine wpIn_region (Yv an (uF I) _ _ _ hl az [] f m W w a es X J (St.start X C) a7 ?_);intro e he A w' Y v p a4 aq K af;let⟨os,H,q⟩:=hk e he;let⟨R,a2,a3,U⟩:=e;have E:jW A a2 (U++k) Y.defers:=by refine⟨by rw[a4,(B.step v).1,ajo],λx hx=>?_⟩;rcases LA.1 hx with hx|hx;exact aq x hx;exact(B.step v).2 x hx
   cases a3 with
   |none=>have H:uo .normal R a2 (dK U k)=some os:=H;rw[V9]at H;cases H;exact S _ (q _ (lM.2 rfl)) A w' Y v p K E (fT rfl)
   |some x=>have H:some [(⟨.ret,R,a2,dK U k,some x⟩:Out)]=some os:=H;rw[V9]at H;cases H;exact S _ (q _ (lM.2 rfl)) A w' Y v p K E (λy hy=>by cases hy;exact⟨rfl,af _ rfl⟩)
   cases u
  |true=>
   simp only[aT]at u;have ap:∃n l,ac=.dreg n l:=by unfold Gu at u;split at u;cases u;split at u;cases u;exact⟨_,_,rfl⟩;cases u
   obtain⟨n,l,rfl⟩:=ap;have i:bnd (EY l cf m.nx [] f (reserve n m) [reserve n m]) (oC k)=some outs:=i;let⟨es,a7,hk⟩:=fH i;refine ao id cz n l u (uF I) Q f m W w a es X C J a7 ?_ ?_;intro e he af ad A w' Y v p a4 K;let⟨os,H,q⟩:=hk e he;let⟨R,a2,a3,U⟩:=e;obtain rfl:a3=none:=af;obtain rfl:U=[]:=ad;have H:uo .normal R a2 k=some os:=H;cases H;exact S _ (q _ (lM.2 rfl)) A w' Y v p K (by rw[a4];exact B.step v) (fT rfl);intro e he y af ad A w' Y v ax p a4 K;let⟨os,H,q⟩:=hk e he;let⟨R,a2,a3,U⟩:=e;obtain rfl:a3=some y:=af;obtain rfl:U=[]:=ad;have H:some [(⟨.ret,R,a2,k,some y⟩:Out)]=some os:=H;cases H;exact S _ (q _ (lM.2 rfl)) A w' Y v p K (by rw[a4];exact B.step v) (λz hz=>by cases hz;exact⟨rfl,ax⟩)
 |seq x y ihx ihy=>
  intro ac u I Q Z f m k W w a outs X C J B N i S;simp only[tmpsIn,oo]at I;simp only[aT]at u;split at u;rename_i cx cy hx hy;cases u;have i:bnd (yJ cx cf M Z f m k) (λo=>bQ.rec (yJ cy cf M Z o.env o.m o.marks) (λ_=>some [o]) (some [o]) o.x)=some outs:=i;let⟨os,H,hk⟩:=fH i;refine wpIn_seq (ihx cx hx I.1 _ Z f m k W w a os X C J B N H ?_);intro o ho A w' Y v p K E a1;let⟨ak,a5,q⟩:=hk o ho;let⟨O,a0,aa,a9,F⟩:=o;rcases wK a5 with⟨h1,h2⟩|⟨id,h1,h2⟩|⟨h1,h2⟩;obtain rfl:O=.normal:=h1;obtain rfl:F=none:=pz a1 (by intro e;cases e);refine ihy cy hy I.2 Q Z a0 aa a9 A w' Y ak v.rm p (by rw[K];exact J) E (N.step v) h2 ?_;intro o2 ar aj au al ag a6 ai a8 ae;exact S o2 (q _ ar) aj au al (v.trans ag) a6 (ai.trans K) a8 ae;obtain rfl:O=.exit id:=h1;obtain rfl:F=none:=pz a1 (by intro e;cases e);cases h2;exact S _ (q _ (lM.2 rfl)) A w' Y v p K E (fT rfl);obtain rfl:O=.ret:=h1;cases h2;have:=S _ (q _ (lM.2 rfl)) A w' Y v p K E a1;cases F<;>exact this
  cases u
 |cond c x y ihx ihy=>
  intro ac u I Q Z f m k W w a outs X C J B N i S;simp only[tmpsIn,oo]at I;simp only[aT]at u;split at u;rename_i z cx cy hz hx hy;cases u;let⟨t,h1,i⟩:=uY i;let⟨e1,_⟩:=D9 (St.start X C) hz;have h1:J6 z [] f=.bool t:=h1;refine wpIn_cond (t:=t) (by rw[e1,h1];rfl) ?_;cases t with
  |true=>exact ihx cx hx I.1 Q Z f m k W w a outs X C J B N i S
  |false=>exact ihy cy hy I.2 Q Z f m k W w a outs X C J B N i S
  cases u
 |block id x ihx=>
  intro ac u I Q Z f m k W w a outs X C J B N i S;simp only[tmpsIn]at I;simp only[aT]at u;split at u;rename_i cx hx;cases u;have i:bnd (yJ cx cf M Z f m k) (λo=>bQ.rec (some [o]) (λid'=>bi (beq id id') (uo .normal o.env o.m o.marks) (some [o])) (some [o]) o.x)=some outs:=i;let⟨os,H,hk⟩:=fH i;refine wpIn_block (ihx cx hx I _ Z f m k W w a os X C J B N H ?_);intro o ho A w' Y v p K E a1;let⟨ak,a5,q⟩:=hk o ho;let⟨O,a0,aa,a9,F⟩:=o;rcases wK a5 with⟨h1,h2⟩|⟨id',h1,h2⟩|⟨h1,h2⟩;obtain rfl:O=.normal:=h1;obtain rfl:F=none:=pz a1 (by intro e;cases e);cases h2;exact S _ (q _ (lM.2 rfl)) A w' Y v p K E (fT rfl);obtain rfl:O=.exit id':=h1;obtain rfl:F=none:=pz a1 (by intro e;cases e);show Exit.inBlock id Q (.exit id') Y w';simp only[Exit.inBlock];rw[yV]at h2;split at h2;rename_i he;subst he;cases h2;rw[cg rfl];exact S _ (q _ (lM.2 rfl)) A w' Y v p K E (fT rfl);rename_i he;cases h2;rw[aE (λe=>he e.symm)];exact S _ (q _ (lM.2 rfl)) A w' Y v p K E (fT rfl);obtain rfl:O=.ret:=h1;cases h2;have:=S _ (q _ (lM.2 rfl)) A w' Y v p K E a1;cases F<;>exact this
  cases u
 |loop x ihx=>
  intro ac u I Q Z f m k W w a outs X C J B N i S;simp only[tmpsIn]at I;simp only[aT]at u;split at u;rename_i cx hx;cases u;have i:I9 (λf m k=>yJ cx cf M Z f m k) M f m k=some outs:=i;have b0:∀(j:Nat) (f:T j5) (m:cD) (k:List Mk) (W:Q0) (w:cG) (a:Act) (outs:List Out),RM P G W m w.heap->dI W (m.nm W) V f a.tmps->nt<=a.tmps.size->jW W m k a.defers->YB W m Z r->
    I9 (λf m k=>yJ cx cf M Z f m k) j f m k=some outs->
    (∀o∈outs,∀A w' Y,Step P G W m w A o.m w'->dI A (o.m.nm A) V o.env Y.tmps->Y.tmps.size=a.tmps.size->jW A o.m o.marks Y.defers->YA A o->Q (WT A o) Y w')->
    Code.roundsIn (FR r) 0 P x Q j a w:=by
   intro j;induction j with
   |zero=>intro f m k W w a outs _ _ _ _ _ i;cases i
   |succ j ih=>intro f m k W w a outs X C J B N i S;have i:bnd (yJ cx cf M Z f m k) (λo=>bQ.rec (I9 (λf m k=>yJ cx cf M Z f m k) j o.env o.m o.marks) (λ_=>some [o]) (some [o]) o.x)=some outs:=i;let⟨os,H,hk⟩:=fH i;rw[roundsIn_succ];refine ihx cx hx I _ Z f m k W w a os X C J B N H ?_;intro o ho A w' Y v p K E a1;let⟨ak,a5,q⟩:=hk o ho;let⟨O,a0,aa,a9,F⟩:=o;rcases wK a5 with⟨h1,h2⟩|⟨id',h1,h2⟩|⟨h1,h2⟩;obtain rfl:O=.normal:=h1;obtain rfl:F=none:=pz a1 (by intro e;cases e);refine ih a0 aa a9 A w' Y ak v.rm p (by rw[K];exact J) E (N.step v) h2 ?_;intro o2 ar aj au al ag a6 ai a8 ae;exact S o2 (q _ ar) aj au al (v.trans ag) a6 (ai.trans K) a8 ae;obtain rfl:O=.exit id':=h1;obtain rfl:F=none:=pz a1 (by intro e;cases e);cases h2;exact S _ (q _ (lM.2 rfl)) A w' Y v p K E (fT rfl);obtain rfl:O=.ret:=h1;cases h2;have:=S _ (q _ (lM.2 rfl)) A w' Y v p K E a1;cases F<;>exact this
  exact wpIn_loop_rounds M (b0 M f m k W w a outs X C J B N i S);cases u
 |rangeFunc g ps x y ihx ihy=>
  intro ac u I Q Z f m k W w a outs X C J B N i S;simp only[tmpsIn,oo]at I;simp only[aT]at u;split at u;rename_i z cx cy hz hx hy;cases u;cases Z with
  |none=>
   obtain rfl:r=none:=N.1;have i:Ud cf (J6 z [] f) (ps.toList.map λt=>idxOf t V 0) cx cy f (m.new .deferred) (.c m.nx::k)=some outs:=i;have ab:=Laid.new X.ok X.limn .deferred rfl;have ah:Step P G W m w (W.upd m.nx ⟨w.heap.size,0,0,none⟩) (m.new .deferred) (w.alloc (.deferred (some []))):=
    Step.lay (w':=w.alloc (.deferred (some []))) (l:=⟨w.heap.size,0,0,none⟩) X ab (o:=.deferred (some [])) ⟨rfl,rfl,rfl,rfl⟩ rfl rfl (by show(w.heap.push _)[w.heap.size]?=_;exact kM) (by intro _ _ _ h;cases h)
   have aw:(w.alloc (.deferred (some []))).heap.size=w.heap.size+1:=by show(w.heap.push _).size=_;simp
   refine Rx an hz hx hy I.1 I.2 (mark:=[{target:=.collected w.heap.size,args:=#[]}]) (D:=w.heap.size) X ah C J (λfn=>?_) ⟨?_,?_⟩ i S;rw[run_enterLoop_outer,aw];rw[(B.step ah).1];simp[xI];intro x hx;rcases O4.1 hx with rfl|hx;exact⟨ab.self,X.limn⟩;exact(B.step ah).2 x hx
  |some l=>obtain rfl:r=some (W l).b:=N.1;have i:sS (m.get l) (λ_ _ _ _ _ _=>Ud cf (J6 z [] f) (ps.toList.map λt=>idxOf t V 0) cx cy f m k)=some outs:=i;let⟨st,b2,b1,ay,b3,b4,av,i⟩:=zn i;let⟨L,hL,_⟩:=X.blk l _ av;refine Rx an hz hx hy I.1 I.2 (mark:=[]) (D:=L.defers) X (Step.refl X) C J (λfn=>?_) (by simpa using B) i S;exact run_enterLoop_inner hL fn a.tmps ps x y
  cases u
 |scope x ihx=>intro ac u;simp only[aT]at u;cases u
 |label l=>intro ac u;simp only[aT]at u;cases u
 |goto l=>intro ac u;simp only[aT]at u;cases u
 |refuse s=>intro ac u;simp only[aT]at u;cases u
end
section
variable {P:cH}{G:cD}{ι:Q0}{n:Nm}{m:cD}{w:cG}{cr:cR}
def LZ(vs:cM)(env:T j5):gZ [] vs env=match vs with|[]=>some env|_ :: _=>none:=by cases vs<;>rfl
def JF(j:Option Nat)(a:List (Option Nat))(vs:cM)(env:T j5):
   gZ (j::a) vs env=match vs with|[]=>none|v::vs=>gZ a vs (fA j v env):=by cases vs<;>rfl
def xJ:∀(ps:cR) (vs:cM) (env env1:T j5) (tmps:Array Value),dI ι n cr env tmps->fD n vs->gZ (ps.map λt=>idxOf t cr 0) vs env=some env1->
   vs.length=ps.length∧dI ι n cr env1 ((ps.zip (A9 ι vs)).foldl (λt (p,v)=>t.setIfInBounds p v) tmps)∧((ps.zip (A9 ι vs)).foldl (λt (p,v)=>t.setIfInBounds p v) tmps).size=tmps.size:=by
 intro ps;induction ps with
 |nil=>
  intro vs env env1 tmps h b a;rw[avT,LZ]at a;cases vs with
  |nil=>cases a;exact⟨rfl,h,rfl⟩
  |cons v vs=>cases a
 |cons p ps ih=>
  intro vs env env1 tmps h b a;rw[afp,JF]at a;cases vs with
  |nil=>cases a
  |cons v vs=>have f:=h.put (some p) b.1;let⟨c,d,e⟩:=ih vs _ env1 _ f b.2 a;exact⟨by simp[c],d,by rw[show((p::ps).zip (A9 ι (v::vs))).foldl (λt (p,v)=>t.setIfInBounds p v) tmps=(ps.zip (A9 ι vs)).foldl (λt (p,v)=>t.setIfInBounds p v) (tmps.setIfInBounds p (u7 ι v))from rfl,e];simp⟩
def YD(ps:Array Nat)(vs:List Value)(tmps:Array Value):
   (ps.zip vs.toArray).foldl (λt (p,v)=>t.setIfInBounds p v) tmps=(ps.toList.zip vs).foldl (λt (p,v)=>t.setIfInBounds p v) tmps:=by
 rw[← Array.foldl_toList,Array.toList_zip]
def Uv{f:Nm}{L:Loop}{j d:LoopState}{c b:Option bQ}{env:T j5}{a:List (Option Nat)}{e bd:bM}(h:BR P ι n L j c env a e bd)(hi:∀i,n i->ι' i=ι i)(hn:n.le f):
   BR P ι' f {L with state:=d,pending:=b.map exitCode} d b env a e bd:=by
 let⟨_,_,g⟩:=h.mono hi hn;exact⟨rfl,rfl,g⟩
def step_loop{ι:Q0}{m:cD}{w:cG}(n:RM P G ι m w.heap){l:Nat}(s:m.lim<=l){p:LoopState}{d:Option bQ}{env:T j5}{a:List (Option Nat)}{f g:bM}
   (k:m.get l=some (.loop p d env a f g)) {L:Loop} (q:w.heap[(ι l).b]?=some (.loop L)) (j:BR P ι (m.nm ι) L p d env a f g) (e:LoopState) (c:Option bQ):
   Step P G ι m w ι (m.set l (.loop e c env a f g)) (w.putObj (ι l).b (.loop {L with state:=e,pending:=c.map exitCode})):=by
 refine Step.set n s k rfl rfl (o:=.loop {L with state:=e,pending:=c.map exitCode}) ⟨rfl,rfl,rfl,rfl⟩ ?_ (by intro _ _ _ h;cases h);exact⟨_,oV q,Uv j (λ_ _=>rfl) (cD.dL (λi r=>cD.tu n.ok k rfl i r) λ_ _=>rfl)⟩
def Ry{cf:G6}(af:uD P G cf)(j:Nat)(M:∀cr nt r,oK P G cr nt cf r){l:Nat}{args:cM}(h:Ot cf j l args m=some outs)(hm:RM P G ι m w.heap)(a6:fD (m.nm ι) args):
   ∃L:Loop,w.heap[(ι l).b]?=some (.loop L)∧args.length=L.params.size∧
    RoundIn Fence.wide 0 P (ι l).b L.fn ((L.params.zip (A9 ι args).toArray).foldl (λt (p,v)=>t.setIfInBounds p v) L.tmps) L.assign L.body w (fG P G ι m w outs):=by
 let⟨B,h⟩:=Dk h;have B:=vC B;let⟨st,D,H,params,as,bd,X,h⟩:=zn h;have b5:st=.ready∧D=none∧ob (gZ params args H) (λA=>bnd (yJ as cf j (some l) A m []) λo=>match o.x,o.marks with
    |.normal,[]=>sS (o.m.get l) λE g u d i z=>match E,g with
     |.ready,none=>bnd (yJ bd cf j (some l) o.env (o.m.set l (.loop .busy none u d i z)) []) (roundEnd l)
     |_,_=>none
    |_,_=>none)=some outs:=by
  cases st<;>cases D<;>first|exact⟨rfl,rfl,h⟩|cases h
 obtain⟨rfl,rfl,h⟩:=b5;let⟨A,hp,h⟩:=D7 h;let⟨os,b4,hk⟩:=fH h;let⟨L,hL,bg,bf,cr,az,ae,ax,ay,nt,aj,b6,b7⟩:=hm.blk l _ X;rw[ae]at hp;let⟨g1,g2,g3⟩:=xJ L.params.toList args H A L.tmps az a6 hp;refine⟨L,hL,by rw[g1];simp,?_⟩;rw[YD];have R:m.has l:=⟨_,X,rfl⟩;have ah:YB ι m (some l) (some (ι l).b):=⟨rfl,λl' b2=>by cases b2;exact R⟩;refine roundIn_of_wpIn (F:=Fence.wide) trivial ?_;refine wL af j (M cr nt (some (ι l).b)) L.assign as ax b6 _ (some l) A m [] ι w {tmps:=(L.params.toList.zip (A9 ι args)).foldl (λt (p,v)=>t.setIfInBounds p v) L.tmps,defers:=[]} os hm g2 (by rw[g3];exact aj)
  ⟨rfl,λ_ h=>by cases h⟩ ah b4 ?_
 intro o ho aq w1 a1 y ag ao ai am;let⟨os',f,an⟩:=hk o ho;let⟨a2,q,C,a0,ab⟩:=o
 have hx:a2=.normal∧a0=[]∧sS (C.get l) (λE g u d i z=>match E,g with
    |.ready,none=>bnd (yJ bd cf j (some l) q (C.set l (.loop .busy none u d i z)) []) (roundEnd l)
    |_,_=>none)=some os':=by
  cases a2<;>cases a0<;>first|exact⟨rfl,rfl,f⟩|cases f
 obtain⟨rfl,rfl,f⟩:=hx;obtain rfl:ab=none:=pz am (by intro e;cases e);let⟨E,g,u,d,au,av,O,f⟩:=zn f;have k:E=.ready∧g=none∧bnd (yJ bd cf j (some l) q (C.set l (.loop .busy none u d au av)) []) (roundEnd l)=some os':=by cases E<;>cases g<;>first|exact⟨rfl,rfl,f⟩|cases f
 obtain⟨rfl,rfl,f⟩:=k;let⟨b8,al,b0⟩:=fH f;let⟨L2,ac,S⟩:=y.rm.blk l _ O;have a7:C.lim<=l:=by rw[y.lim];exact B
 have Z:(aq l).b=(ι l).b:=by rw[y.ext l R]
 have W:=run_beginRound (P:=P) ac S.state;have k:=step_loop y.rm a7 O ac S .busy none;rw[Z]at W;rw[Z,show({L2 with state:=.busy,pending:=(none:Option bQ).map exitCode}:Loop)={L2 with state:=.busy} from by rw[← S.pending]]at k;refine⟨_,W,?_⟩;have T:=y.trans k;refine wL af j (M cr nt (some (ι l).b)) L.body bd ay b7 _ (some l) q _ [] aq _ a1 b8 k.rm (k.env ag) (by rw[ao];show nt<=Array.size _;rw[g3];exact aj)
  (ai.step k) (ah.step T) al ?_
 intro o3 b3 ar w3 a3 U ba be bb bc;let⟨os3,c,a9⟩:=b0 o3 b3;let⟨x3,b9,m3,k3,aa⟩:=o3;have K:=T.trans U;have b1:k3=[]∧aa=none∧sS (m3.get l) (λst D H params assign body=>match st,D with
  |.busy,none=>match x3 with
   |.normal=>one (.bool true) (m3.set l (.loop .ready none H params assign body))
   |x=>one (.bool false) (m3.set l (.loop .done (some x) H params assign body))
  |_,_=>none)=some os3:=by
  cases k3 with
  |nil=>
   cases aa with
   |none=>exact⟨rfl,rfl,c⟩
   |some=>cases c
  |cons=>cases aa<;>cases c
 obtain⟨rfl,rfl,c⟩:=b1;let⟨V,s,I,n,a4,a5,Q,c⟩:=zn c;let⟨L4,ad,ak⟩:=U.rm.blk l _ Q;have a8:m3.lim<=l:=by rw[K.lim];exact B
 have ap:(ar l).b=(ι l).b:=by rw[K.ext l R]
 have aw:∀(b:Bool) (a:Option bQ),os3=[⟨.bool b,m3.set l (.loop (if b then .ready else .done) a I n a4 a5)⟩]->(a.map exitCode).isNone=b->
   ∃v w',(Instr.endRound (ι l).b (a.map exitCode)).run P w3=.ok v w'∧fG P G ι m w outs (.returned v) w':=by
  intro b a h1 h2;have N:=run_endRound (P:=P) (a.map exitCode) ad;have Y:=step_loop U.rm a8 Q ad ak (if b then .ready else .done) a;rw[ap]at N Y;rw[h2]at N;refine⟨_,_,N,.inl ⟨_,rfl,⟨.bool b,m3.set l (.loop (if b then .ready else .done) a I n a4 a5)⟩,an _ ?_,ar,K.trans Y,trivial,by simp[u7]⟩⟩;exact a9 _ (by rw[h1];exact lM.2 rfl)
 have J:∀(b:Bool) (a:Option bQ),(V=.busy∧s=none∧one (.bool b) (m3.set l (.loop (if b then .ready else .done) a I n a4 a5))=some os3)->(a.map exitCode).isNone=b->
   ∃v w',(Instr.endRound (ι l).b (a.map exitCode)).run P w3=.ok v w'∧fG P G ι m w outs (.returned v) w':=by
  rintro b a ⟨_,_,h⟩ h2;exact aw b a (by cases h;rfl) h2
 cases x3 with
 |normal=>exact J true none (by cases V<;>cases s<;>first|exact⟨rfl,rfl,c⟩|cases c) rfl
 |exit id=>exact J false (some (.exit id)) (by cases V<;>cases s<;>first|exact⟨rfl,rfl,c⟩|cases c) rfl
 |ret=>exact J false (some .ret) (by cases V<;>cases s<;>first|exact⟨rfl,rfl,c⟩|cases c) rfl
def YE{r:ResultVar}{l:List ResultVar}{rs:List rC}(h:HZ P cr (r::l)=some rs):
   ∃x rs',rs=x::rs'∧HZ P cr l=some rs'∧((∃t j,r=.tmp t∧idxOf t cr 0=some j∧x=.tmp j)∨∃t ty j s,r=.cell t ty∧idxOf t cr 0=some j∧partT P ty=some s∧x=.cell j s):=by
 cases r with
 |tmp t=>simp only[HZ]at h;split at h;cases h;exact⟨_,_,rfl,by assumption,.inl ⟨t,_,rfl,by assumption,rfl⟩⟩;cases h
 |cell t ty=>simp only[HZ]at h;split at h;cases h;exact⟨_,_,rfl,by assumption,.inr ⟨t,ty,_,_,rfl,by assumption,by assumption,rfl⟩⟩;cases h
def OU(r:rC)(rs:List rC)(env:T j5)(m:cD):results (r::rs) env m=ob (match r with
   |.tmp j=>T.get env j
   |.cell j size=>ob (T.get env j) λp=>pO p λid off=>aY (m.get id) λrs n cF=>match size with
    |none=>cell1 rs n cF off
    |some k=>ob (qp rs n cF off k) λl=>some (.agg l)) λv=>ob (results rs env m) λl=>some (v::l):=rfl
def adE(tmps:Array Value):ResultVar->Sem Value
 |.tmp t=>pure (tmps.getD t undef)
 |.cell a t=>do loadVar t (← asAddr (tmps.getD a undef))
def JG(a:Func)(tmps:Array Value):Go.results a tmps=(do
   let vs ← a.results.mapM (adE tmps)
   pure (if h:vs.size=1 then vs[0]else .tuple vs)):=by
 unfold Go.results;congr 1
def Uw(ad:Addr):asAddr (.pointer (some ad))=pure ad:=rfl
def Bz(B:RM P G ι m w.heap){env:T j5}(d:dI ι (m.nm ι) cr env tmps):∀(l:List ResultVar) (rs:List rC),HZ P cr l=some rs->∀vs,results rs env m=some vs->
   fD (m.nm ι) vs∧(l.mapM (adE tmps):Sem (List Value)).run P w=.ok (A9 ι vs) w:=by
 intro l;induction l with
 |nil=>intro rs e vs a;simp only[HZ,iE]at e;subst e;have a:some []=some vs:=a;cases a;exact⟨trivial,by simp[A9]⟩
 |cons r l ih=>
  intro rs e vs a;obtain⟨x,k,rfl,h,C⟩:=YE e;rw[OU]at a;let⟨v,b,a⟩:=D7 a;let⟨n,A,a⟩:=D7 a;cases a;let⟨q,y⟩:=ih k h n A;rcases C with⟨t,j,rfl,hj,rfl⟩|⟨t,ty,j,s,rfl,hj,hs,rfl⟩;let⟨_,u,c,o,f⟩:=d.val t j hj;have b:env.get j=some v:=b;rw[b]at c;cases c;refine⟨⟨o,q⟩,?_⟩;simp only[axU,adE,wu,aa2,nM,y,f,A9];let⟨p,b,g⟩:=D7 b;obtain⟨id,i,rfl,g⟩:=lS g;let⟨_,u,c,o,f⟩:=d.val t j hj;rw[b]at c;cases c;let⟨D,E⟩:=Bq hs B g;refine⟨⟨E,q⟩,?_⟩;have z:tmps.getD t undef=.pointer (some (ι.at id i)):=by rw[f];simp[u7]
  simp only[axU,adE,wu,aa2,nM,y,z,A9,Uw,D]
def MQ(l:cM):u7 ι (result l)=(if h:(A9 ι l).toArray.size=1 then(A9 ι l).toArray[0]else .tuple (A9 ι l).toArray):=by
 match l with
 |[]=>simp[result,u7,A9]
 |[v]=>simp[result,A9]
 |v::u::l=>simp[result,u7,A9]
def YF(h:fD n l):(result l).lt n:=by
 match l with
 |[]=>exact trivial
 |[v]=>exact h.1
 |v::u::l=>exact h
def adF{b:Option Y9}{k:Option β}{r:β}(h:aac b k=some r):b=some .deferred∧k=some r:=by unfold aac at h;split at h;exact⟨rfl,h⟩;cases h
def Ce(ι:Q0):Option j5->FrameMode
 |none=>.returning
 |some x=>.panicking [{v:=u7 ι x,recovered:=false}]
def aaD{ι:Q0}{a:Option j5}:Ce ι a≠.run:=by cases a<;>simp[Ce]
def Fx(ι:Q0)(m:cD)(md:Option j5):Prop:=∀x,md=some x->x.lt (m.nm ι)
def Fx.step{ι ι':Q0}{m b:cD}{w w':cG}{md:Option j5}(h:Fx ι m md)(a:Step P G ι m w ι' b w'):Fx ι' b md∧Ce ι' md=Ce ι md:=by
 refine⟨λx c=>j5.aU (cD.dL a.has a.ext) _ (h x c),?_⟩;cases md with
 |none=>rfl
 |some x=>simp only[Ce,a.u7 (h x rfl)]
def adG(P:cH)(G:cD)(dcf:ni):Prop:=∀{f:FuncId} {args:cM} {md:Option j5} {m:cD} {outs:List (cD×Option j5)},dcf f args md m=some outs->
 adB P f∧∀{ι:Q0} {w:cG},RM P G ι m w.heap->fD (m.nm ι) args->Fx ι m md->
  CallsDIn Fence.wide 0 P f (A9 ι args).toArray (Ce ι md) w λe u' w'=>∃v,e=.returned v∧∃r∈outs,∃ι',Step P G ι m w ι' r.1 w'∧Fx ι' r.1 r.2∧settle u'=Ce ι' r.2
def GD{q:ni}(M:adG P G q){K:Func}{rs:List rC}(O:HZ P cr K.results.toList=some rs){J:Q0}{S:cD}{U:cG}{C:List VM}:
   ∀(k:List Mk) (m:cD) (ι:Q0) (w:cG) (env:T j5) (tmps:Array Value) (ds:List Deferred) (md:Option j5) (vs:List VM),
   Step P G J S U ι m w->dI ι (m.nm ι) cr env tmps->jW ι m k ds->Fx ι m md->Jb q (BN rs env) k md m=some vs->(∀v∈vs,v∈C)->
   LeavesInM Fence.wide 0 P K tmps (fG P G J S U C) ds (Ce ι md) w:=by
 intro k;induction k with
 |nil=>
  intro m ι w env tmps ds md vs j z s A g n;rw[s.1];have g:BN rs env md m=some vs:=g;show LeavesIn Fence.wide 0 P K tmps _ [] (Ce ι md) w;cases md with
  |none=>have g:ob (results rs env m) (λl=>one (result l) m)=some vs:=g;let⟨l,X,g⟩:=D7 g;cases g;let⟨V,W⟩:=Bz j.rm z _ rs O l X;refine⟨u7 ι (result l),?_,.inl ⟨_,rfl,⟨result l,m⟩,n _ (lM.2 rfl),ι,j,YF V,rfl⟩⟩;rw[MQ,JG,axy];simp only[wu,map_eq_pure_bind,bind_assoc,pure_bind];rw[W];simp
  |some x=>have g:some [(⟨.aL x,m⟩:VM)]=some vs:=g;cases g;exact .inr ⟨_,n _ (lM.2 rfl),x,ι,rfl,j,A x rfl,rfl⟩
 |cons y k ih=>
  intro m ι w env tmps ds md vs j z s A g n;have u:jW ι m k (k.map (xI ι)):=⟨rfl,λi hi=>s.2 i (aa1 _ hi)⟩;have R:=s.2 y ZZ;rw[s.1];refine⟨aaD,?_⟩;cases y with
  |c id=>
   have g:aac (m.get id) (Jb q (BN rs env) k md (m.set id .dead))=some vs:=g;let⟨B,g⟩:=adF g;have L:w.heap[(ι id).b]?=some (.deferred (some [])):=j.rm.blk id _ B;have p:Step P G ι m w ι (m.set id .dead) (w.putObj (ι id).b (.deferred none)):=
    Step.set j.rm R.2 B rfl rfl (o:=.deferred none) ⟨rfl,rfl,rfl,rfl⟩ trivial (by intro _ _ _ h;cases h)
   refine .inl ⟨(ι id).b,_,rfl,run_takeDeferred L,?_⟩;exact ih (m.set id .dead) ι _ env tmps _ md vs (j.trans p) (p.env z) (u.step p) (A.step p).1 g n
  |d v args=>
   obtain⟨⟨H,a,b,rfl⟩,N,D⟩:=R;have g:bnd (aad q (.func H a b) args md m) (λr=>Jb q (BN rs env) k r.2 r.1)=some vs:=g;let⟨os,t,hk⟩:=fH g;cases H with
   |func f=>have t:q f (dK a (dK args b)) md m=some os:=t;rw[V9,V9]at t;let⟨Z,E⟩:=M t;let⟨_,Y,L⟩:=N;refine .inr ⟨(λh=>by cases h),.func f,(A9 ι b).toArray,f,(A9 ι (a++(args++b))).toArray,rfl,?_,(λ_ _=>trivial),?_⟩;show(invoke (.fn (.func f) (A9 ι b).toArray) ((A9 ι a).toArray++(A9 ι args).toArray)).run P w=_;simp[invoke,qJ Z,nE];refine CallsDIn.mono (E j.rm (lW Y (lW D L)) A) ?_;rintro e u' w' ⟨v,rfl,r,hr,ι',hst',hmd',hset⟩;let⟨Q,I,F⟩:=hk r hr;show LeavesInM Fence.wide 0 P K tmps _ (k.map (xI ι)) (settle u') w';rw[hset];exact ih r.1 ι' w' env tmps _ r.2 Q (j.trans hst') (hst'.env z) (u.step hst') hmd' I (λv g=>n v (F v g))
   |_=>cases t
structure sO(P:cH)(f:FuncId)(sf:L6):Prop where
 ok:adB P f
 is:∃(cr:cR) (fn:Func) (c:Code) (ac:bM) (rs:List rC),P.funcs[f]?=some fn∧fn.body=some c∧aT P cr c=some ac∧HZ P cr fn.results.toList=some rs∧
  tmpsIn fn.ntmps c=true∧(∀t∈cr,t<fn.ntmps)∧cr.length<2^60∧
  sf.args=(List.range (fn.params.size+fn.nfree)).map (λt=>idxOf t cr 0)∧sf.nslots=cr.length∧sf.results=rs∧sf.code=yJ ac∧∀c',sf.rcode=some c'->c'=ac
def aaE:∀(l:List Value) (k:Nat) (A:Array Value) (i:Nat),(((List.range' k l.length).zip l).foldl (λt (p,v)=>t.setIfInBounds p v) A).size=A.size∧
   (((List.range' k l.length).zip l).foldl (λt (p,v)=>t.setIfInBounds p v) A)[i]?=if k<=i∧i<k+l.length∧i<A.size then l[i-k]? else A[i]?:=by
 intro l;induction l with
 |nil=>intro k A i;simp;omega
 |cons v l ih=>
  intro k A i;have e:((List.range' k (v::l).length).zip (v::l)).foldl (λt (p,v)=>t.setIfInBounds p v) A=((List.range' (k+1) l.length).zip l).foldl (λt (p,v)=>t.setIfInBounds p v) (A.setIfInBounds k v):=by simp[List.range'_succ]
  let⟨a,b⟩:=ih (k+1) (A.setIfInBounds k v) i;rw[e];refine⟨by rw[a];simp,?_⟩;rw[b];simp only[Array.size_setIfInBounds,aa5];by_cases hk:i=k;subst hk;rw[aE Zs];by_cases hs:i<A.size;rw[cg Zs,P8 hs];simp;rw[aE Zs,awW (avV hs)];rw[P5 (λe=>hk e.symm)];by_cases hc:k+1<=i∧i<k+1+l.length∧i<A.size;rw[cg hc,cg Zs,show i-k=(i-(k+1))+1 from by omega];simp;rw[aE hc,aE Zs]
def Ux(vs:List Value)(a:Nat):((List.range vs.length).zip vs).foldl (λt (p,v)=>t.setIfInBounds p v) (Array.replicate (max vs.length a) undef)=vs.toArray++Array.replicate (a-vs.toArray.size) undef:=by apply as4;intro i;rw[axc,(aaE vs 0 _ i).2];simp only[Array.size_replicate,ahe,true_and,P7,Nat.sub_zero];by_cases h:i<vs.length;rw[cg Zs,axp (by simpa using h)];simp;rw[aE Zs,Array.getElem?_append_right (by simpa using h)];simp only[awC,ato];by_cases h2:i<max vs.length a;rw[cg h2,cg Zs];rw[aE h2,aE Zs]
def MR{a:Func}(l:∀t∈cr,t<a.ntmps)(n:cr.length<2^60){args:cM}{env:T j5}(b:fD (m.nm ι) args)
   (hp:gZ ((List.range (a.params.size+a.nfree)).map λt=>idxOf t cr 0) args (T.rep .undef cr.length .e 0)=some env):
   args.length=a.params.size+a.nfree∧dI ι (m.nm ι) cr env ((A9 ι args).toArray++Array.replicate (a.ntmps-(A9 ι args).toArray.size) undef)∧
    a.ntmps<=((A9 ι args).toArray++Array.replicate (a.ntmps-(A9 ι args).toArray.size) undef).size:=by
 have c:dI ι (m.nm ι) cr (T.rep .undef cr.length .e 0) (Array.replicate (max (A9 ι args).length a.ntmps) undef):=by
  refine⟨by have:=T.Ov j5.undef cr.length .e 0 .e;simpa using this,n,λt j o=>?_⟩;have d:=yQ o;have f:t∈cr:=by have:=d.2.2;exact O5 this
  have:=l t f;refine⟨ZD,.undef,?_,trivial,?_⟩;rw[T.Ow _ _ _ _ .e,aE Zs,cg d.2.1];rw[O6,awC];rw[oJ];split<;>rfl
 let⟨h,i,k⟩:=xJ (List.range (a.params.size+a.nfree)) args _ env _ c b hp;rw[axv]at h;have g:=Ux (A9 ι args) a.ntmps;rw[dN,h]at g;rw[dN,h]at i k;rw[g]at i k;refine⟨h,i,?_⟩;rw[Array.size_append,Array.size_replicate];omega
def Rz{cf:G6}(F:uD P G cf){y:ni}(z:adG P G y)(d:Nat)(v:∀cr nt r,oK P G cr nt cf r){f:FuncId}{sf:L6}(hf:sO P f sf){args:cM}{s:List VM}(h:dD cf y d sf args m=some s)(hm:RM P G ι m w.heap)(u:fD (m.nm ι) args):
   CallsIn Fence.wide 0 P f (A9 ι args).toArray w (fG P G ι m w s):=by
 let⟨_,cr,H,c,N,rs,V,W,X,I,Y,Z,h7,O,Q,R,S,_⟩:=hf;let⟨E,J,h⟩:=D7 h;let⟨os,A,hk⟩:=fH h;rw[O,Q]at J;let⟨g1,T,U⟩:=MR Z h7 u J;refine callsIn_of_wp_marks V W trivial ?_;rw[S]at A;refine wL F d (v cr H.ntmps none) c N X Y _ none E m [] ι w {tmps:=(A9 ι args).toArray++Array.replicate (H.ntmps-(A9 ι args).toArray.size) undef,defers:=[]} os hm T U ⟨rfl,λ_ h=>by cases h⟩ ⟨rfl,λ_ h=>by cases h⟩ A ?_;intro o ho C M D k g K i j;let⟨L,B,l⟩:=hk o ho;let⟨t,b,q,p,a⟩:=o;rw[R]at B;rcases wK B with⟨n,hl⟩|⟨id,n,hl⟩|⟨n,hl⟩;obtain rfl:t=.normal:=n;obtain rfl:a=none:=pz j (by intro e;cases e);exact GD z I p q C M b D.tmps D.defers none L k g i (λx n=>by cases n) hl l;cases hl;obtain rfl:t=.ret:=n;have:=GD z I p q C M b D.tmps D.defers a L k g i (λx n=>(j x n).2) hl l;cases a<;>exact this
end
inductive JH(cz:Array Oper):Nat->Nat->Prop
 |edge {i:Nat} {o:Oper} {e:Edge}:cz[i]?=some o->e∈o.after->Region.binds .any e=true->JH cz i e.on
 |more {i:Nat} {o:Oper} {e:Edge} {j:Nat}:cz[i]?=some o->e∈o.after->Region.binds .any e=true->JH cz e.on j->JH cz i j
def JH.trans{cz:Array Oper}(h:JH cz i j)(g:JH cz j k):JH cz i k:=by
 induction h with
 |edge h1 h2 h3=>exact .more h1 h2 h3 g
 |more h1 h2 h3 _ ih=>exact .more h1 h2 h3 (ih g)
def YG(a:cR)(j:Nat):∀(l:List Edge) (s:Nat),Nat.testBit (l.foldl (λs x=>if Region.binds .any x then s ||| (1 <<< x.on) ||| (a.getD x.on 0)else s) s) j=true->
   Nat.testBit s j=true∨∃e∈l,Region.binds .any e=true∧(j=e.on∨Nat.testBit (a.getD e.on 0) j=true):=by
 intro l;induction l with
 |nil=>intro s h;exact .inl h
 |cons e l ih=>
  intro s h;rw[awx]at h;rcases ih _ h with h|⟨e',h1,h2⟩;cases hb:Region.binds .any e with
  |false=>rw[hb]at h;exact .inl (by simpa using h)
  |true=>rw[hb]at h;simp only[if_true,Nat.testBit_or,ate]at h;rcases h with (h|h)|h;exact .inl h;refine .inr ⟨e,ZZ,hb,.inl ?_⟩;rw[Nat.one_shiftLeft,Nat.testBit_two_pow]at h;exact(of_decide_eq_true h).symm;exact .inr ⟨e,ZZ,hb,.inr h⟩
  exact .inr ⟨e',aa1 _ h1,h2⟩
def rQ(cz:Array Oper)(i j:Nat)(h:mOf (masks cz.toList) i j=true):JH cz i j:=by
 have d:∀(l:List Oper) (a:cR),(∀k,k<l.length->cz[a.length+k]?=l[k]?)->(∀i j,Nat.testBit (a.getD i 0) j=true->JH cz i j)->
   ∀i j,Nat.testBit ((l.foldl (λa o=>a++[bitsOf o.after a]) a).getD i 0) j=true->JH cz i j:=by
  intro l;induction l with
  |nil=>intro a _ h;exact h
  |cons o l ih=>
   intro a c h;rw[awx];refine ih _ (λk f=>?_) ?_;have:=c (k+1) (by simpa using f);simpa[aie,as2 1]using this;intro i j b;by_cases hi:i<a.length;refine h i j ?_;simpa[O0,adl hi]using b;by_cases hi2:i=a.length;subst hi2;have b:Nat.testBit (bitsOf o.after a) j=true:=by simpa[O0]using b
   have g:cz[a.length]?=some o:=by have:=c 0 ZZ;simpa using this
   rcases YG a j o.after.toList 0 b with h0|⟨e,h1,h2,h3⟩;simp at h0;rcases h3 with rfl|h3;exact .edge g (by simpa using h1) h2;exact .more g (by simpa using h1) h2 (h _ _ h3);have:(a++[bitsOf o.after a]).getD i 0=0:=by rw[O0,ajn ZD];rfl
   rw[this]at b;simp at b
 refine d cz.toList [] (λk f=>ZZ) (λi j b=>by simp at b) i j h
def OV(cz:Array Oper)(listed:Array Bool):Prop:=∀i o,listed.getD i false=true->cz[i]?=some o->∀e∈o.after,Region.binds .any e=true->listed.getD e.on false=true
def JH.listed{cz:Array Oper}{listed:Array Bool}(c:OV cz listed){i j:Nat}(h:JH cz i j):
   (∀o,cz[i]?=some o->∀e∈o.after,Region.binds .any e=true->listed.getD e.on false=true)->listed.getD j false=true:=by
 induction h with
 |edge ho he hb=>intro a;exact a _ ho _ he hb
 |more ho he hb _ ih=>intro a;exact ih λd b=>c _ d (a _ ho _ he hb) b
def Cg:∀{l:cR},QN l=true->l.Nodup
 |[],_=>List.nodup_nil
 |x::l,h=>by simp only[QN,oo,awS]at h;refine aw0.2 ⟨λhx=>?_,Cg h.2⟩;have:=h.1;simp[hx]at this
def RA{ms:cR}{cz:Array Oper}:∀{l before:List (Nat×Inst)},Aj ms cz l before=true->∀p y,l[p]?=some y->yO ms cz y.1 y.2 ((l.take p).reverse++before)=true
 |[],_,_,p,y,hp=>by simp at hp
 |z::l,before,h,p,y,hp=>by
  simp only[Aj,oo]at h;cases p with
  |zero=>simp at hp;subst hp;simpa using h.1
  |succ p=>have:=RA h.2 p y (by simpa using hp);simpa using this
structure DS where
 ls:cM
 env:T j5
 m:cD
 gs:List cD
def RdB(o:TN)(g:Option (aS×Bool))(s:DS)(v:j5):Prop:=
 g=none∧∃y id off len cp,o=.bytesStr y∧J6 y s.ls s.env=.slice id off len cp∧isVoid ((hd s.m s.gs).get id)=true∧isCells (s.m.get id)=true∧dH (J6 y) s.ls s.env s.m=some v
def DStep(cf:G6)(b:Nat)(x:Nat×Inst)(s s':DS):Prop:=
 ∃v,s'.ls=v::s.ls∧s'.env=fA x.2.dst v s.env∧match x.2.op with
  |.p o=>HV x.2.guard (qW o) s.ls s.env=some v∧s'.m=s.m∧s'.gs=s.gs
  |.r o=>((Dg x.2.guard (xX o) s.ls s.env (hd s.m s.gs)=some v∧stable (Dg x.2.guard (xX o)) s.ls s.env v x.1 (tl s.gs)=true)∨RdB o x.2.guard s v)∧True∧s'.m=s.m∧s'.gs=s.gs
  |.a o=>∃r,TY x.2.guard (Gr o) s.ls s.env (b+x.1)=some r∧v=r.1∧isVoid (s.m.get (b+x.1))=true∧iC (b+x.1) s.gs=true∧s'.m=Ub s.m (b+x.1) r.2∧s'.gs=s.gs
  |.e o=>Om x.2.guard (xD o) cf s.ls s.env s.m=some [⟨v,s'.m⟩]∧s'.gs=s'.m::s.gs∧¬ ∃x,v=.aL x
def adH{x:Option (List α)}{f:α->Option β}{r:β}(h:Ua x f=some r):∃a,x=some [a]∧f a=some r:=by
 cases x with
 |none=>cases h
 |some l=>match l,h with
  |[a],h=>exact⟨a,rfl,h⟩
  |[],h=>cases h
  |_ :: _ :: _,h=>cases h
def GStep(x:Nat×Inst)(s s':DS):Prop:=
 ∃v,s'.ls=v::s.ls∧s'.env=fA x.2.dst v s.env∧s'.m=s.m∧s'.gs=(if K9 x.2=true then s'.m::s.gs else s.gs)∧∀o,x.2.op≠.a o
def RB(cf:G6)(b:Nat)(x:Nat×Inst)(s s':DS):Prop:=DStep cf b x s s'∨GStep x s s'
variable {s:DS}
def YH{cf:G6}{b:Nat}{x:Nat×Inst}{j:GF}{k:DC}{outs:List EM}(h:ahl x.1 x.2.op x.2.dst x.2.guard j k cf b s.ls s.env s.m s.gs=some outs):
   (∃s',DStep cf b x s s'∧k cf b s'.ls s'.env s'.m s'.gs=some outs)∨
   ∃eo y m',x.2.op=.e eo∧Om x.2.guard (xD eo) cf s.ls s.env s.m=some [⟨.aL y,m'⟩]∧j (.undef::s.ls) (fA x.2.dst .undef s.env)=true∧outs=[⟨s.env,m',some y,[]⟩]:=by
 let⟨c,op,dst,guard⟩:=x;unfold DStep;cases op with
 |p o=>let⟨v,g,h⟩:=D7 h;exact .inl ⟨⟨v::s.ls,fA dst v s.env,s.m,s.gs⟩,⟨v,rfl,rfl,g,rfl,rfl⟩,h⟩
 |r o=>
  have d:∀{f:RF},f=Dg guard (xX o)->yG f c (fA dst) k cf b s.ls s.env s.m s.gs=some outs->(∃s':DS,(∃v,s'.ls=v::s.ls∧s'.env=fA dst v s.env∧((Dg guard (xX o) s.ls s.env (hd s.m s.gs)=some v∧stable (Dg guard (xX o)) s.ls s.env v c (tl s.gs)=true)∨RdB o guard s v)∧True∧s'.m=s.m∧s'.gs=s.gs)∧k cf b s'.ls s'.env s'.m s'.gs=some outs):=by rintro f rfl h;let⟨v,g,h⟩:=D7 h;let⟨i,h⟩:=K4 h;exact⟨⟨v::s.ls,fA dst v s.env,s.m,s.gs⟩,⟨v,rfl,rfl,.inl ⟨g,i⟩,trivial,rfl,rfl⟩,h⟩
  change ahj c o dst guard k cf b s.ls s.env s.m s.gs=some outs at h
  unfold ahj at h;split at h;rename_i y;unfold Oo at h;split at h;rename_i id n l q u;cases hvo:isVoid ((hd s.m s.gs).get id)with
  |false=>rw[hvo]at h;exact .inl (d rfl h)
  |true=>rw[hvo]at h;let⟨g,h⟩:=K4 h;let⟨v,i,h⟩:=D7 h;exact .inl ⟨⟨v::s.ls,fA dst v s.env,s.m,s.gs⟩,⟨v,rfl,rfl,.inr ⟨rfl,y,id,n,l,q,rfl,u,hvo,g,i⟩,trivial,rfl,rfl⟩,h⟩
  exact .inl (d rfl h);exact .inl (d rfl h)
 |a o=>let⟨r,g,h⟩:=D7 h;let⟨i,h⟩:=K4 h;let⟨t,h⟩:=K4 h;exact .inl ⟨⟨r.1::s.ls,fA dst r.1 s.env,Ub s.m (b+c) r.2,s.gs⟩,⟨r.1,rfl,rfl,r,g,rfl,i,t,rfl,rfl⟩,h⟩
 |e o=>let⟨r,g,h⟩:=adH h;let⟨v,m'⟩:=r;have h:iK v (λx=>bi (j (.undef::s.ls) (fA dst .undef s.env)) (some [⟨s.env,m',some x,[]⟩]) none) (k cf b (v::s.ls) (fA dst v s.env) m' (m'::s.gs))=some outs:=h;by_cases hx:∃x,v=.aL x;obtain⟨x,rfl⟩:=hx;have h:bi (j (.undef::s.ls) (fA dst .undef s.env)) (some [(⟨s.env,m',some x,[]⟩:EM)]) none=some outs:=h;let⟨i,h⟩:=K4 h;cases h;exact .inr ⟨o,x,m',rfl,g,i,rfl⟩;rw[WR hx]at h;exact .inl ⟨⟨v::s.ls,fA dst v s.env,m',m'::s.gs⟩,⟨v,rfl,rfl,g,rfl,hx⟩,h⟩
def Waits(x:Nat×Inst)(p:Nat)(A:Nat->Prop):Prop:=(∃o,x.2.op=.e o)∨∃k,(aS.loc k∈IG x.2.op∨∃wt,x.2.guard=some (.loc k,wt))∧A k
def JI{d:List Bool}{i:Inst}(h:Gs d i=true):∃k,(aS.loc k∈IG i.op∨∃wt,i.guard=some (.loc k,wt))∧d.getD k false=true:=by
 have b:∀y,aa8 d y=true->∃k,y=.loc k∧d.getD k false=true:=λy a=>by
  cases y with
  |loc k=>exact⟨k,rfl,a⟩
  |slot j=>cases a
  |con c=>cases a
 unfold Gs at h;rcases Bool.or_eq_true_iff.1 h with h|h;let⟨y,a,h⟩:=axL.1 h;obtain⟨k,rfl,e⟩:=b y h;exact⟨k,.inl a,e⟩;cases hg:i.guard with
 |none=>rw[hg]at h;cases h
 |some q=>let⟨y,wt⟩:=q;rw[hg]at h;obtain⟨k,rfl,e⟩:=b y h;exact⟨k,.inr ⟨wt,rfl⟩,e⟩
def aaF{cf:G6}{b:Nat}:∀(l:List (Nat×Inst)) (ds:List Bool) (s:DS),Dh l ds s.ls s.env=true->
   ∃(S:Nat->DS) (D:Nat->Bool),S 0=s∧∀p x,l[p]?=some x->x.2.dst=none∧((D p=false∧DStep cf b x (S p) (S (p+1)))∨
    (D p=true∧GStep x (S p) (S (p+1))∧Waits x p λk=>(∃q,q<p∧k=p-1-q∧D q=true)∨(p<=k∧ds.getD (k-p) false=true))):=by
 intro l;induction l with
 |nil=>intro ds s _;exact⟨λ_=>s,λ_=>false,rfl,λp x t=>by simp at t⟩
 |cons x l ih=>
  intro ds s h;have c:∀(g:Bool) (i:DS),Dh l (g::ds) i.ls i.env=true->x.2.dst=none->((g=false∧DStep cf b x s i)∨(g=true∧GStep x s i∧Waits x 0 λk=>ds.getD k false=true))->
    ∃(S:Nat->DS) (D:Nat->Bool),S 0=s∧∀p y,(x::l)[p]?=some y->y.2.dst=none∧((D p=false∧DStep cf b y (S p) (S (p+1)))∨
     (D p=true∧GStep y (S p) (S (p+1))∧Waits y p λk=>(∃q,q<p∧k=p-1-q∧D q=true)∨(p<=k∧ds.getD (k-p) false=true))):=by
   intro g i A d n;let⟨S,D,w,z⟩:=ih (g::ds) i A;refine⟨λp=>match p with|0=>s|p+1=>S p,λp=>match p with|0=>g|p+1=>D p,rfl,λp y t=>?_⟩;cases p with
   |zero=>simp at t;subst t;refine⟨d,?_⟩;show(g=false∧DStep cf b x s (S 0))∨(g=true∧GStep x s (S 0)∧_);rw[w];rcases n with n|⟨n,h3,h4⟩;exact .inl n;refine .inr ⟨n,h3,?_⟩;rcases h4 with h4|⟨k,h4,h5⟩;exact .inl h4;exact .inr ⟨k,h4,.inr ⟨ahe _,by simpa using h5⟩⟩
   |succ p=>
    let⟨B,u⟩:=z p y (by simpa using t);refine⟨B,?_⟩;rcases u with u|⟨u,q3,q4⟩;exact .inl u;refine .inr ⟨u,q3,?_⟩;rcases q4 with q4|⟨k,q4,q5⟩;exact .inl q4;refine .inr ⟨k,q4,?_⟩;rcases q5 with⟨q,r1,r2,r3⟩|⟨r1,r2⟩;exact .inl ⟨q+1,Zs,Zs,r3⟩;cases hk:k-p with
    |zero=>rw[hk]at r2;exact .inl ⟨0,Zs,Zs,by simpa using r2⟩
    |succ j=>rw[hk]at r2;exact .inr ⟨Zs,by rw[show k-(p+1)=j from by omega];simpa using r2⟩
  unfold Dh at h;cases d:x.2.dst with
  |some j=>rw[d]at h;cases h
  |none=>
   rw[d]at h;have f:∀v:j5,fA x.2.dst v s.env=s.env:=λv=>by rw[d];rfl
   cases ho:x.2.op with
   |e o=>rw[ho]at h;exact c true ⟨.undef::s.ls,s.env,s.m,s.m::s.gs⟩ h d (.inr ⟨rfl,⟨.undef,rfl,(f _).symm,rfl,by simp[K9,ho],by simp[ho]⟩,.inl ⟨o,ho⟩⟩)
   |a o=>rw[ho]at h;cases h
   |r o=>
    rw[ho]at h;cases hdd:Gs ds x.2 with
    |false=>simp only[hdd,cond_false]at h;cases h
    |true=>simp only[hdd,cond_true]at h;exact c true ⟨.undef::s.ls,s.env,s.m,s.gs⟩ h d (.inr ⟨rfl,⟨.undef,rfl,(f _).symm,rfl,by simp[K9,ho],by simp[ho]⟩,.inr (JI hdd)⟩)
   |p o=>
    rw[ho]at h;cases hdd:Gs ds x.2 with
    |true=>simp only[hdd,cond_true]at h;exact c true ⟨.undef::s.ls,s.env,s.m,s.gs⟩ h d (.inr ⟨rfl,⟨.undef,rfl,(f _).symm,rfl,by simp[K9,ho],by simp[ho]⟩,.inr (JI hdd)⟩)
    |false=>
     simp only[hdd,cond_false]at h;have h:(Option.rec false (λv=>Dh l (false::ds) (v::s.ls) s.env) (HV x.2.guard (qW o) s.ls s.env):Bool)=true:=h;cases hv:HV x.2.guard (qW o) s.ls s.env with
     |none=>rw[hv]at h;cases h
     |some v=>rw[hv]at h;refine c false ⟨v::s.ls,s.env,s.m,s.gs⟩ h d (.inl ⟨rfl,v,rfl,(f _).symm,?_⟩);rw[ho];exact⟨hv,rfl,rfl⟩
def YI{o:Db}{l:List (Nat×Inst)}{ls:cM}{env:T j5}(h:adr o l ls env=true):Dh l [true] ls env=true:=by
 have a:(bif QH l [true]then Dh l [true]else Ls) ls env=true->Dh l [true] ls env=true:=λh=>by
  cases hg:QH l [true]with
  |true=>rw[hg]at h;exact h
  |false=>rw[hg]at h;cases h
 unfold adr at h;split at h<;>first|exact a h|cases h
structure akt(cf:G6)(b:Nat)(l:List (Nat×Inst))(S:Nat->DS)(D:Nat->Bool)(N:Nat)(y:j5)(m':cD):Prop where
 at_:∃x eo,l[N]?=some x∧x.2.op=.e eo∧Om x.2.guard (xD eo) cf (S N).ls (S N).env (S N).m=some [⟨.aL y,m'⟩]
 lo:∀p,p<N->D p=false
 here:D N=true
 step:∀p x,l[p]?=some x->(D p=false∧DStep cf b x (S p) (S (p+1)))∨(N<=p∧D p=true∧GStep x (S p) (S (p+1))∧(p=N∨Waits x p λk=>∃q,q<p∧k=p-1-q∧D q=true))
 dst:∀p x,N<p->l[p]?=some x->x.2.dst=none
def Uy{cf:G6}{b:Nat}:∀(l:List (Nat×Inst)) (s:DS) (outs:List EM),EY l cf b s.ls s.env s.m s.gs=some outs->
   ∃S:Nat->DS,S 0=s∧(((∀p x,l[p]?=some x->DStep cf b x (S p) (S (p+1)))∧outs=[⟨(S l.length).env,(S l.length).m,none,[]⟩])∨
    ∃N D y m',akt cf b l S D N y m'∧outs=[⟨(S N).env,m',some y,[]⟩]):=by
 intro l;induction l with
 |nil=>intro s outs h;have h:some [EM.mk s.env s.m none []]=some outs:=h;cases h;exact⟨λ_=>s,rfl,.inl ⟨λp x a=>by simp at a,rfl⟩⟩
 |cons x l ih=>
  intro s outs h;have h:ahl x.1 x.2.op x.2.dst x.2.guard (adr x.2.op l) (EY l) cf b s.ls s.env s.m s.gs=some outs:=h;rcases YH h with⟨s',h1,h2⟩|⟨g,y,m',h1,h2,h3,h4⟩;let⟨S,i,c⟩:=ih s' outs h2;have n:DStep cf b x s (S 0):=by rw[i];exact h1
  refine⟨λp=>match p with|0=>s|p+1=>S p,rfl,?_⟩;rcases c with⟨c,g3⟩|⟨N,D,y,m',c,g3⟩;refine .inl ⟨λp y a=>?_,by simpa using g3⟩;cases p with
  |zero=>simp at a;subst a;exact n
  |succ p=>exact c p y (by simpa using a)
  refine .inr ⟨N+1,λp=>match p with|0=>false|p+1=>D p,y,m',⟨?_,λp a=>?_,c.here,λp z a=>?_,λp z r a=>?_⟩,g3⟩
  let⟨z,g,f,e,d⟩:=c.at_;exact⟨z,g,by simpa using f,e,d⟩;cases p with
  |zero=>rfl
  |succ p=>exact c.lo p Zs
  cases p with
  |zero=>simp at a;subst a;exact .inl ⟨rfl,n⟩
  |succ p=>rcases c.step p z (by simpa using a)with q|⟨f,e,d,q4⟩;exact .inl q;refine .inr ⟨Zs,e,d,?_⟩;rcases q4 with rfl|q4|⟨k,q4,q,r1,r2,r3⟩;exact .inl rfl;exact .inr (.inl q4);exact .inr (.inr ⟨k,q4,q+1,Zs,Zs,r3⟩)
  cases p with
  |zero=>omega
  |succ p=>exact c.dst p z Zs (by simpa using a)
  have o:K9 x.2=true:=by simp[K9,h1]
  let⟨S,D,i,c⟩:=aaF (cf:=cf) (b:=b) l [true] ⟨.undef::s.ls,fA x.2.dst .undef s.env,s.m,s.m::s.gs⟩ (YI h3);refine⟨λp=>match p with|0=>s|p+1=>S p,rfl,.inr ⟨0,λp=>match p with|0=>true|p+1=>D p,y,m',⟨⟨x,g,rfl,h1,h2⟩,λp a=>Zs,rfl,λp z a=>?_,λp z r a=>?_⟩,h4⟩⟩;cases p with
  |zero=>simp at a;subst a;refine .inr ⟨aA _,rfl,?_,.inl rfl⟩;show GStep x s (S 0);rw[i];exact⟨.undef,rfl,rfl,rfl,by simp[o],by simp[h1]⟩
  |succ p=>
   let⟨_,q⟩:=c p z (by simpa using a);rcases q with q|⟨f,e,d⟩;exact .inl q;refine .inr ⟨Zs,f,e,.inr ?_⟩;rcases d with d|⟨k,d,q4⟩;exact .inl d;refine .inr ⟨k,d,?_⟩;rcases q4 with⟨q,r1,r2,r3⟩|⟨r1,r2⟩;exact⟨q+1,Zs,Zs,r3⟩;cases hk:k-p with
   |zero=>exact⟨0,Zs,Zs,rfl⟩
   |succ j=>rw[hk]at r2;simp at r2
  cases p with
  |zero=>omega
  |succ p=>exact(c p z (by simpa using a)).1
def jN(cz:Array Oper)(ord:cR)(p:Nat):List (Option Nat):=((ord.take p).map λi=>(cz[i]?).bind (·.dst)).reverse
def YJ{P:cH}{a:cR}{cz:Array Oper}:∀(l:cR) (done:List (Option Nat)) (insts:List Inst),nk P a cz done l=some insts->
   insts.length=l.length∧∀p i,l[p]?=some i->∃x o,insts[p]?=some x∧cz[i]?=some o∧QM P a (jN cz l p++done) cz i=some (x,o.dst):=by
 intro l;induction l with
 |nil=>intro done insts h;simp only[nk,iE]at h;subst h;exact⟨rfl,λp i b=>by simp at b⟩
 |cons j l ih=>
  intro done insts h;obtain⟨x,d,t,e,q,rfl⟩:=tC h;let⟨m,n⟩:=ih _ _ q;obtain⟨o,c,rfl,_⟩:=Ap e;refine⟨by simp[m],λp i b=>?_⟩;cases p with
  |zero=>simp at b;subst b;exact⟨x,o,rfl,c,by simpa[jN]using e⟩
  |succ p=>
   let⟨s,r,f,g,k⟩:=n p i (by simpa using b);refine⟨s,r,by simpa using f,g,?_⟩;have:jN cz (j::l) (p+1)++done=jN cz l p++o.dst::done:=by simp[jN,c]
   rw[this];exact k
def RD(b:cR):∀(l:List (Nat×Inst)) (effs:cR) (nal:Nat),(numbered b l effs nal).length=l.length∧
   ∀p i x,l[p]?=some (i,x)->∃c,(numbered b l effs nal)[p]?=some (c,x)∧
    (isR x=true->c=(((((l.take p).filter λy=>K9 y.2).map (·.1)).reverse++effs).takeWhile λe=>!mOf b i e).length)∧
    (isR x=false->c=nal+((l.take p).filter λy=>isA y.2).length):=by
 intro l;induction l with
 |nil=>intro effs nal;exact⟨rfl,λp i x a=>by simp at a⟩
 |cons z l ih=>
  intro effs nal;let⟨j,y⟩:=z;let⟨k,m⟩:=ih (if K9 y then j::effs else effs) (if isA y then nal+1 else nal);refine⟨by simp[numbered,k],λp i x a=>?_⟩;cases p with
  |zero=>simp at a;obtain⟨rfl,rfl⟩:=a;exact⟨_,rfl,λh=>by simp[ahm,h],λh=>by simp[ahm,h]⟩
  |succ p=>
   let⟨c,d,f,g⟩:=m p i x (by simpa using a);refine⟨c,by simpa[numbered]using d,λh=>?_,λh=>?_⟩;rw[f h];cases hy:K9 y<;>simp[hy]
   rw[g h];cases hy:isA y<;>simp[hy];omega
def cD.sub(m m':cD):Prop:=∀i b,m.get i=some b->jU b=false->m'.get i=some b
def Ch{m a:cD}(h:m.sub a){k:Nat->Nat->T cM->Option β}{r:β}(e:aY (m.get i) k=some r):aY (a.get i) k=some r:=by let⟨f,n,b,c,d⟩:=qY e;rw[h i _ c rfl];exact d
def OW{m a:cD}(h:m.sub a){k:List (j5×j5)->Option β}{r:β}(d:ZT (m.get i) k=some r):ZT (a.get i) k=some r:=by let⟨e,b,c⟩:=BU d;rw[h i _ b rfl];exact c
def DU{m c:cD}(h:m.sub c){off n:Nat}(b:Z6 m i off n=some l):Z6 c i off n=some l:=by
 cases n with
 |zero=>exact b
 |succ n=>exact Ch h (k:=λd k a=>J7 d k a (n+1) off) b
def adI{m d:cD}(h:m.sub d){o:TN}{ls:cM}{env:T j5}(b:xX o ls env m=some v):xX o ls env d=some v:=by
 cases o with
 |load size x=>
  cases size with
  |none=>let⟨id,off,a,b⟩:=lS b;have a:J6 x ls env=.ptr id off:=a;show pO (J6 x ls env) _=_;rw[a];exact Ch h b
  |some k=>let⟨id,off,a,b⟩:=lS b;have a:J6 x ls env=.ptr id off:=a;show pO (J6 x ls env) _=_;rw[a];exact Ch h b
 |look kk z ok x y=>rcases Al b with⟨a,b⟩|⟨id,a,b⟩;have a:J6 x ls env=.nilMap:=a;show Ba (J6 x ls env) _ _=_;rw[a];exact b;have a:J6 x ls env=.map id:=a;show Ba (J6 x ls env) _ _=_;rw[a];exact OW h b
 |lenM x=>rcases Al b with⟨a,b⟩|⟨id,a,b⟩;have a:J6 x ls env=.nilMap:=a;show Ba (J6 x ls env) _ _=_;rw[a];exact b;have a:J6 x ls env=.map id:=a;show Ba (J6 x ls env) _ _=_;rw[a];exact OW h b
 |bytesStr x=>rcases yS b with⟨a,b⟩|⟨id,off,len,cap,a,b⟩|⟨id,off,len,cap,a,b⟩;have a:J6 x ls env=.nilSlice:=a;show xC (J6 x ls env) _ _ _=_;rw[a];exact b;have a:J6 x ls env=.slice id off len cap:=a;show xC (J6 x ls env) _ _ _=_;rw[a];let⟨l,c,b⟩:=D7 b;show ob (Z6 d id off len) _=_;rw[DU h c];exact b;have a:J6 x ls env=.sliceU id off len cap:=a;show xC (J6 x ls env) _ _ _=_;rw[a];let⟨l,c,b⟩:=D7 b;show ob (Z6 d id off len) _=_;rw[DU h c];exact b
 |entry x=>
  let⟨id,off,a,b⟩:=lS b;have a:J6 x ls env=.ptr id off:=a;show pO (J6 x ls env) _=_;rw[a];let⟨c,b⟩:=K4 b;show bi (beq off 0) _ none=_;rw[c];rcases Jp b with⟨_,_,_,b⟩|⟨mp,since,seen,h3,b⟩;cases b;show WJ (d.get id) _ _=_;rw[h id _ h3 rfl];cases seen with
  |nil=>cases b
  |cons i t=>exact OW h b
def oL{f:j5->j5->Bool}(hf:∀x y,f x y=true->x=y):∀a b:cM,wh f a b=true->a=b
 |[],[],_=>rfl
 |[],y::b,h=>by cases h
 |x::a,[],h=>by cases h
 |x::a,y::b,h=>by
  have h:bi (f x y) (wh f a b) false=true:=h;cases hx:f x y with
  |false=>rw[hx]at h;cases h
  |true=>rw[hx]at h;rw[hf x y hx,oL hf a b h]
def jO{a b:Bool}(h:bi a b false=true):a=true∧b=true:=by cases a<;>cases b<;>first|exact⟨rfl,rfl⟩|cases h
def lX:∀(n:Nat) (x y:j5),bg n x y=true->x=y:=by
 intro n;induction n with
 |zero=>intro x y h;cases h
 |succ n ih=>
  intro x y h;cases x with
  |bool a=>cases y<;>first|(cases h;done)|(have h:IJ _ _=true:=h;rw[Fa]at h;rw[eq_of_beq h])
  |int k a=>
   cases y<;>first|(cases h;done)|skip
   let⟨e,g⟩:=jO (a:=kEq _ _) (b:=qC _ _) h;rw[Uh]at e;rw[ny]at g;rw[of_decide_eq_true e,eq_of_beq g]
  |str a=>cases y<;>first|(cases h;done)|(have h:strEq _ _=true:=h;rw[Dr]at h;rw[eq_of_beq h])
  |ptr a b=>
   cases y<;>first|(cases h;done)|skip
   let⟨e,g⟩:=jO (a:=beq _ _) (b:=beq _ _) h;rw[nA e,nA g]
  |slice a b c d=>
   cases y<;>first|(cases h;done)|skip
   let⟨e,h⟩:=jO (a:=beq _ _) h;let⟨g,h⟩:=jO (a:=beq _ _) h;let⟨i,l⟩:=jO (a:=beq _ _) h;rw[nA e,nA g,nA i,nA l]
  |sliceU a b c d=>
   cases y<;>first|(cases h;done)|skip
   let⟨e,h⟩:=jO (a:=beq _ _) h;let⟨g,h⟩:=jO (a:=beq _ _) h;let⟨i,l⟩:=jO (a:=beq _ _) h;rw[nA e,nA g,nA i,nA l]
  |map a=>cases y<;>first|(cases h;done)|(have h:beq _ _=true:=h;rw[nA h])
  |func fn a b=>
   cases fn<;>cases y<;>first|(cases h;done)|skip
   all_goals
   rename_i f j c d;cases j<;>first|(cases h;done)|skip
   let⟨e,h⟩:=jO (a:=beq _ _) h;let⟨g,i⟩:=jO h;rw[nA e,oL ih _ _ g,oL ih _ _ i]
  |iface t a=>
   cases y<;>first|(cases h;done)|skip
   let⟨e,g⟩:=jO (a:=beq _ _) h;rw[nA e,ih _ _ g]
  |agg a=>cases y<;>first|(cases h;done)|(rw[oL ih _ _ h])
  |tuple a=>cases y<;>first|(cases h;done)|(rw[oL ih _ _ h])
  |_=>cases y<;>first|rfl|(cases h;done)
def GH{f:RF}{ls:cM}{env:T j5}{v:j5}:∀{n:Nat} {gs:List cD},stable f ls env v n gs=true->∀k,k<n->∃g,gs[k]?=some g∧f ls env g=some v
 |0,_,_,k,hk=>Zs
 |n+1,[],h,k,hk=>by cases h
 |n+1,g::gs,h,k,hk=>by
  have h:bi (Option.rec false (λu=>bg 100 u v) (f ls env g)) (stable f ls env v n gs) false=true:=h;let⟨h1,h2⟩:=jO h;cases k with
  |zero=>
   refine⟨g,rfl,?_⟩;cases hf:f ls env g with
   |none=>rw[hf]at h1;cases h1
   |some u=>rw[hf]at h1;rw[lX 100 u v h1]
  |succ k=>let⟨g',h3,h4⟩:=GH h2 k Zs;exact⟨g',by simpa using h3,h4⟩
def zq{b:Option Y9}(h:isVoid b=true):b=some .void:=by unfold isVoid at h;split at h;rfl;cases h
def DV{i:Nat}:∀{gs:List cD},iC i gs=true->∀g∈gs,g.get i=some .void
 |[],_,g,hg=>by cases hg
 |x::gs,h,g,hg=>by let⟨h1,h2⟩:=jO (a:=isVoid (x.get i)) (b:=iC i gs) h;rcases O4.1 hg with rfl|hg;exact zq h1;exact DV h2 g hg
section
variable {P:cH}{G:cD}{ι:Q0}{m:cD}{w:cG}
def OX(m:cD):reserve 0 m=m:=rfl
def OY(n:Nat)(m:cD):reserve (n+1) m=reserve n (m.new .void):=rfl
def JJ(h:RM P G ι m w.heap):Step P G ι m w ι (m.new .void) w:=by
 have c:=cD.Q5 h.ok .void;have o:∀i x,m.get i=some x->i≠m.nx:=λi x a e=>by have:=cD.Q9 h.ok a;omega
 have f:∀i,m.has i->(m.new .void).has i:=λi ⟨x,a,hv⟩=>⟨x,by rw[c,aE (o i x a)];exact a,hv⟩;have d:∀i x,(m.new .void).get i=some x->bN x=true->m.get i=some x:=λi x a g=>by rw[c]at a;split at a;cases a;cases g;exact a
 refine⟨⟨h.ok.push .void,?_,?_,h.glim,axt h.limn,h.gle,λi k=>by rw[c,aE (by have:=h.glim;have:=h.limn;omega)];exact h.base i k,λi k=>f i (h.ghas i k),h.glob,λi x a g=>h.spot i x (d i x a g) g,h.gsz⟩,
  λ_ _=>rfl,f,Nat.le_succ _,rfl,λi k=>by rw[c,aE (by have:=h.limn;omega)],aA _,λ_ _ _=>rfl,?_,rfl,rfl,rfl⟩
 intro i x a;rw[c]at a;split at a;cases a;trivial;exact(h.blk i x a).mono (n:=m.nm ι) (λ_ _=>rfl) (cD.dL f λ_ _=>rfl) λ_=>rfl;intro i x k a g;have p:=h.own i x k (d i x a g) g;exact⟨λj y q r l=>p.alone j y q (d j y r l) l,p.free⟩;rintro b ⟨i,x,k,a,g,rfl⟩;exact .inl ⟨i,x,k,d i x a g,g,rfl⟩
def DW:∀(n:Nat) {m:cD},RM P G ι m w.heap->Step P G ι m w ι (reserve n m) w
 |0,_,h=>Step.refl h
 |n+1,_,h=>(JJ h).trans (DW n (JJ h).rm)
structure ati(P:cH)(ι:Q0)(n:Nm)(h:Array Obj)(id:Nat)(b:Y9)(m:cD):Prop where
 blk:iF P ι n h (ι id) b
 live:jU b=false
 alone:bN b=true->∀j y,j≠id->m.get j=some y->bN y=true->(ι j).b≠(ι id).b
 free:bN b=true->∀c e fz,h[(ι id).b]?=some (.cells c e fz)->∀k,k<c.size->¬ (fz.1<=k∧k<fz.2)
 spot:bN b=true->(ι id).spot=none
def Step.add{v:Q0}{F:cD}{C:cG}(c:Step P G v F C ι m w){id:Nat}{b:Y9}(E:m.get id=some .void)(H:m.lim<=id)(s:ati P ι ((m.set id b).nm ι) w.heap id b m)
   (u:bN b=true->C.heap.size<=(ι id).b):Step P G v F C ι (m.set id b) w:=by
 have h:=c.rm;have t:=cD.Q9 h.ok E;have g:=cD.R9 h.ok t b;have A:¬ m.has id:=λ⟨x,q,r⟩=>by rw[E]at q;cases q;cases r
 have l:∀i,m.has i->(m.set id b).has i:=λi k=>by have o:i≠id:=λe=>A (e▸k);let⟨x,q,r⟩:=k;exact⟨x,by rw[g,aE o];exact q,r⟩
 have a:∀i x,(m.set id b).get i=some x->(i=id∧x=b)∨(i≠id∧m.get i=some x):=λi x f=>by rw[g]at f;split at f;cases f;exact .inl ⟨by assumption,rfl⟩;exact .inr ⟨by assumption,f⟩
 refine⟨⟨h.ok.put id b t,?_,?_,h.glim,h.limn,h.gle,λi k=>by rw[g,aE (by have:=h.glim;omega)];exact h.base i k,λi k=>l i (h.ghas i k),h.glob,λi x f d=>by
   rcases a i x f with⟨rfl,rfl⟩|⟨_,f⟩;exact s.spot d;exact h.spot i x f d,h.gsz⟩,
  c.ext,λi k=>l i (c.has i k),c.nx,c.lim,λi k=>by rw[g,aE (by have:=c.lim;omega)];exact c.old i k,c.size,c.frame,?_,c.os,c.out,c.tape⟩
 intro i x f;rcases a i x f with⟨rfl,rfl⟩|⟨o,f⟩;exact s.blk;exact(h.blk i x f).mono (n:=m.nm ι) (λ_ _=>rfl) (cD.dL l λ_ _=>rfl) λ_=>rfl;intro i x k f d;rcases a i x f with⟨rfl,rfl⟩|⟨o,f⟩;refine⟨λj y z B p=>?_,s.free d⟩;rcases a j y B with⟨q,_⟩|⟨q,r⟩;exact cj q z;exact s.alone d j y z r p;rename_i I;have D:=h.own i x k f d;refine⟨λj y z B p=>?_,D.free⟩;rcases a j y B with⟨rfl,rfl⟩|⟨q,r⟩;exact λe=>s.alone p i x o f d e.symm;exact D.alone j y z r p;rintro b' ⟨i,x,k,f,d,rfl⟩;rcases a i x f with⟨rfl,rfl⟩|⟨o,f⟩;exact .inr (u d);exact c.own _ ⟨i,x,k,f,d,rfl⟩
def Step.push{o:Obj}(h:RM P G ι m w.heap)(r:aaj w w' o)(d:∀i,m.has i->ι' i=ι i):Step P G ι m w ι' m w':=by
 have f:∀k,k<w.heap.size->w'.heap[k]?=w.heap[k]?:=λk s=>by rw[r.heap];exact(awU s).trans (ado s).symm
 have u:(m.nm ι).le (m.nm ι'):=cD.dL (λi p=>p) d;have a:∀i x,m.get i=some x->bN x=true->ι' i=ι i:=λi x g l=>d i (uU g l);refine⟨⟨h.ok,?_,?_,h.glim,h.limn,h.gle,h.base,h.ghas,λi p=>by rw[d i (h.ghas i p)];exact h.glob i p,λi x g l=>by rw[a i x g l];exact h.spot i x g l,h.QT λk s _=>f k s⟩,d,λi p=>p,aA _,rfl,λ_ _=>rfl,by rw[r.heap];simp,λb t _=>f b t,?_,r.os,r.out,r.tape⟩;intro i x g;by_cases hv:jU x=true;cases x<;>first|trivial|cases hv
 rw[d i ⟨x,g,by simpa using hv⟩];exact(h.blk i x g).mono (n:=m.nm ι) d u λl=>f _ (iG (h.blk i x g) l);intro i x p g l;have z:=h.own i x p g l;have t:=iG (h.blk i x g) l;refine⟨λj y C A q=>?_,λc e B v=>?_⟩;rw[a i x g l,a j y A q];exact z.alone j y C A q;rw[a i x g l,f _ t]at v;exact z.free c e B v;rintro b ⟨i,x,p,g,l,rfl⟩;rw[a i x g l];exact .inl ⟨i,x,p,g,l,rfl⟩
end
section
variable {P:cH}{G:cD}{cr:cR}{nt:Nat}{cf:G6}{b:Nat}{cz:Array Oper}{ord:cR}{X:Nat->Nat×Inst}{S:Nat->DS}
def RG(cz:Array Oper)(ord:cR)(X:Nat->Nat×Inst)(p i:Nat):aS->Prop
 |.loc k=>∃j,k<p∧ord[p-1-k]?=some j∧JH cz i j
 |.slot j=>∀q,q<p->(X q).2.dst≠some j
 |.con _=>True
def DX(ord:cR)(X:Nat->Nat×Inst):Nat->cR
 |0=>[]
 |p+1=>if K9 (X p).2 then(ord.getD p 0)::DX ord X p else DX ord X p
structure Fixed(P:cH)(cr:cR)(nt:Nat)(cf:G6)(b:Nat)(cz:Array Oper)(ord:cR)(X:Nat->Nat×Inst)(S:Nat->DS):Prop where
 nodup:ord.Nodup
 all:∀i,i<cz.size->i∈ord
 lt:∀i∈ord,i<cz.size
 inst:∀(p i:Nat),ord[p]?=some i->∃o,cz[i]?=some o∧(X p).2.op=rJ P cr (jN cz ord p) o.op∧(X p).2.dst=QL cr o.dst∧qM cz (jN cz ord p) o.guard (X p).2.guard
 step:∀p,p<ord.length->RB cf b (X p) (S p) (S (p+1))
 eff:∀(p i:Nat),ord[p]?=some i->K9 (X p).2=true->∀(q j:Nat),q<p->ord[q]?=some j->JH cz i j
 edges:∀(p i:Nat) (o:Oper),ord[p]?=some i->cz[i]?=some o->∀e∈o.after,Region.binds .any e=true->∃q:Nat,q<p∧ord[q]?=some e.on
 dsts:∀(i j:Nat) (oi oj:Oper) (t:Tmp),cz[i]?=some oi->cz[j]?=some oj->oi.dst=some t->oj.dst=some t->i=j
 looks:∀(i:Nat) (o:Oper) (t:Tmp),cz[i]?=some o->t∈BP cz o->∀(q:Nat) (oq:Oper),cz[q]?=some oq->q≠i->oq.dst=some t->JH cz i q∨JH cz q i
 opd:∀(p i:Nat),ord[p]?=some i->∀y∈IG (X p).2.op,RG cz ord X p i y
 opdg:∀(p i:Nat) (y:aS) (wt:Bool),ord[p]?=some i->(X p).2.guard=some (y,wt)->RG cz ord X p i y
 cnt:∀(p i:Nat) o,ord[p]?=some i->(X p).2.op=.r o->(X p).1=((DX ord X p).takeWhile λe=>!mOf (masks cz.toList) i e).length
 nal:∀(p q:Nat) o o',p<q->q<ord.length->(X p).2.op=.a o->(X q).2.op=.a o'->(X p).1<(X q).1
 din:∀(i:Nat) (o:Oper) (t:Tmp),cz[i]?=some o->o.dst=some t->t<nt
 gs0:(S 0).gs=[(S 0).m]
 ls0:(S 0).ls=[]
def Aq(S:Nat->DS)(p:Nat):j5:=(S (p+1)).ls.headD .undef
def iM(b:Nat)(X:Nat->Nat×Inst)(S:Nat->DS)(p:Nat):Option (Nat×Y9):=match (X p).2.op with
 |.a o=>match TY (X p).2.guard (Gr o) (S p).ls (S p).env (b+(X p).1)with
  |some (_,some blk)=>some (b+(X p).1,blk)
  |_=>none
 |_=>none
def dS(b:Nat)(X:Nat->Nat×Inst)(S:Nat->DS)(q:Nat)(L:Nat->Bool):Nat->cD
 |0=>(S q).m
 |d+1=>if L (q+d)then(match iM b X S (q+d)with
   |some (i,blk)=>(dS b X S q L d).set i blk
   |none=>dS b X S q L d)
  else dS b X S q L d
def aaG{x:Nat×Inst}{a:DS}(h:RB cf b x s a):∃v,a.ls=v::s.ls∧a.env=fA x.2.dst v s.env:=by rcases h with⟨v,h1,h2,_⟩|⟨v,h1,h2,_⟩<;>exact⟨v,h1,h2⟩
def RH{x:Nat×Inst}{c:DS}(h:RB cf b x s c):c.gs=if K9 x.2=true then c.m::s.gs else s.gs:=by
 rcases h with⟨v,h1,h2,h3⟩|⟨v,_,_,_,h4,_⟩;cases hop:x.2.op with
 |p o=>rw[hop]at h3;simp[K9,hop,h3.2.2]
 |r o=>rw[hop]at h3;simp[K9,hop,h3.2.2.2]
 |a o=>rw[hop]at h3;let⟨_,_,_,_,_,_,h⟩:=h3;simp[K9,hop,h]
 |e o=>rw[hop]at h3;simp[K9,hop,h3.2.1]
 exact h4
def Fixed.ls(F:Fixed P cr nt cf b cz ord X S){p:Nat}(hp:p<ord.length):(S (p+1)).ls=Aq S p::(S p).ls∧(S (p+1)).env=fA (X p).2.dst (Aq S p) (S p).env:=by
 let⟨v,a,c⟩:=aaG (F.step p hp);have:Aq S p=v:=by simp[Aq,a]
 rw[this];exact⟨a,c⟩
def Fixed.len(F:Fixed P cr nt cf b cz ord X S):∀p,p<=ord.length->(S p).ls.length=p∧∀k,k<p->(S p).ls[k]?=some (Aq S (p-1-k)):=by
 intro p;induction p with
 |zero=>intro _;exact⟨by rw[F.ls0];rfl,λk e=>Zs⟩
 |succ p ih=>
  intro f;let⟨a,c⟩:=ih Zs;let⟨d,_⟩:=F.ls (p:=p) Zs;rw[d];refine⟨by simp[a],λk e=>?_⟩;cases k with
  |zero=>simp
  |succ k=>rw[ajp,c k Zs,show p+1-1-(k+1)=p-1-k from by omega]
def Fixed.gs(F:Fixed P cr nt cf b cz ord X S){q:Nat}(i:q=0∨K9 (X (q-1)).2=true):∀d,q+d<=ord.length->
   ∃r:Nat,(S (q+d)).gs[r]?=some (S q).m∧∀k:Nat,k<r->∃pos e,q<=pos∧pos<q+d∧ord[pos]?=some e∧K9 (X pos).2=true∧(DX ord X (q+d))[k]?=some e:=by
 intro d;induction d with
 |zero=>
  intro v;refine⟨0,?_,λk p=>Zs⟩;rcases i with rfl|i;rw[adh,F.gs0];rfl;cases q with
  |zero=>rw[adh,F.gs0];rfl
  |succ q=>have f:=RH (F.step q Zs);simp only[axk]at i;rw[cg i]at f;rw[adh,f];rfl
 |succ d ih=>
  intro v;let⟨r,s,t⟩:=ih Zs;have f:=RH (F.step (q+d) Zs);have h:q+d<ord.length:=Zs
  have g:ord[q+d]?=some (ord.getD (q+d) 0):=by rw[O0,cB h];rfl
  cases he:K9 (X (q+d)).2 with
  |true=>
   have c:(S (q+(d+1))).gs=(S (q+(d+1))).m::(S (q+d)).gs:=by rw[cg he]at f;exact f
   refine⟨r+1,by rw[c];simpa using s,λk p=>?_⟩;have a:DX ord X (q+(d+1))=ord.getD (q+d) 0::DX ord X (q+d):=by show DX ord X (q+d+1)=_;simp[DX,he]
   cases k with
   |zero=>exact⟨q+d,_,Zs,Zs,g,he,by rw[a];rfl⟩
   |succ k=>let⟨pos,e,j,u,l,n,o⟩:=t k Zs;exact⟨pos,e,j,Zs,l,n,by rw[a];simpa using o⟩
  |false=>
   have c:(S (q+(d+1))).gs=(S (q+d)).gs:=by rw[aE (by rw[he];exact Bool.false_ne_true)]at f;exact f
   refine⟨r,by rw[c];exact s,λk p=>?_⟩;let⟨pos,e,j,u,l,n,o⟩:=t k p;refine⟨pos,e,j,Zs,l,n,?_⟩;have:DX ord X (q+(d+1))=DX ord X (q+d):=by show DX ord X (q+d+1)=_;simp[DX,he]
   rw[this];exact o
def BA{α:Type}(f:α->Bool):∀(l:List α) (r:Nat),(∀k,k<r->∃e,l[k]?=some e∧f e=true)->r<=(l.takeWhile f).length
 |_,0,_=>ahe _
 |[],r+1,h=>by let⟨e,h1,_⟩:=h 0 Zs;simp at h1
 |x::l,r+1,h=>by let⟨e,h1,h2⟩:=h 0 Zs;simp at h1;subst h1;rw[List.takeWhile_cons,cg h2];have:=BA f l r (λk hk=>by let⟨e,h3,h4⟩:=h (k+1) Zs;exact⟨e,by simpa using h3,h4⟩);simpa using this
def Fixed.made(F:Fixed P cr nt cf b cz ord X S){p:Nat}(hp:p<ord.length){c:Y9}(h:iM b X S p=some (i,c)):
   i=b+(X p).1∧(∃o,(X p).2.op=.a o∧TY (X p).2.guard (Gr o) (S p).ls (S p).env (b+(X p).1)=some (Aq S p,some c))∧(S (p+1)).m=(S p).m.set i c∧(S p).m.get i=some .void∧∀g∈(S p).gs,g.get i=some .void:=by
 have e:=F.step p hp;unfold iM at h;split at h;rename_i o d;let⟨v,t,y,k⟩:=e.resolve_right λ⟨_,_,_,_,_,hh⟩=>hh o d;have w:Aq S p=v:=by simp[Aq,t]
 rw[d]at k;let⟨r,j,l,n,q,s,x⟩:=k;rw[j]at h;let⟨u,f⟩:=r;cases f with
 |none=>cases h
 |some f=>cases h;exact⟨rfl,⟨o,d,by rw[j,w,l]⟩,s,zq n,DV q⟩
 cases h
def Fixed.MS(F:Fixed P cr nt cf b cz ord X S){p q:Nat}(hp:p<q)(a:q<ord.length){x y:Y9}(h:iM b X S p=some (i,x))(h':iM b X S q=some (j,y)):i<j:=by let⟨f,⟨o,c,_⟩,_⟩:=F.made Zs h;let⟨g,⟨e,d,_⟩,_⟩:=F.made a h';have:=F.nal p q o e hp a c d;omega
def Fixed.quiet(F:Fixed P cr nt cf b cz ord X S){p:Nat}(hp:p<ord.length)(g:K9 (X p).2=false):(S (p+1)).m=(match iM b X S p with|some (i,blk)=>(S p).m.set i blk|none=>(S p).m):=by
 cases hm:iM b X S p with
 |some y=>let⟨i,blk⟩:=y;exact(F.made hp hm).2.2.1
 |none=>
  rcases F.step p hp with⟨v,_,_,hs⟩|⟨_,_,_,hh,_,_⟩
  case inr=>exact hh
  cases hop:(X p).2.op with
  |p o=>rw[hop]at hs;exact hs.2.1
  |r o=>rw[hop]at hs;exact hs.2.2.1
  |e o=>simp[K9,hop]at g
  |a o=>
   rw[hop]at hs;let⟨r,d,_,_,_,f,_⟩:=hs;rw[f];let⟨u,c⟩:=r;cases c with
   |none=>rfl
   |some c=>simp[iM,hop,d]at hm
def T.Ci:∀(t:T α) (i:Nat) {x:α},t.get i=some x->∀(v:α) (j:Nat),(t.put i v).get j=if j=i then some v else t.get j
 |.e,i,x,h,v,j=>by cases h
 |.nd l y r,i,x,h,v,j=>by
  have hl:=λi x (h:l.get i=some x)=>T.Ci l i h;have hr:=λi x (h:r.get i=some x)=>T.Ci r i h;cases i with
  |zero=>
   cases j with
   |zero=>rfl
   |succ j=>rw[aE Zs];rfl
  |succ i=>
   have hm:Nat.mod i 2=0∨Nat.mod i 2=1:=by have:Nat.mod i 2<2:=ajq _ Zs;omega
   have hmj:Nat.mod j.pred 2=0∨Nat.mod j.pred 2=1:=by have:Nat.mod j.pred 2<2:=ajq _ Zs;omega
   have hg:(T.nd l y r).get (i+1)=(Nat.rec (l.get (Nat.div i 2)) (λ_ _=>r.get (Nat.div i 2)) (Nat.mod i 2):Option α):=rfl;have hp:(T.nd l y r).put (i+1) v=(Nat.rec (.nd (l.put (Nat.div i 2) v) y r) (λ_ _=>.nd l y (r.put (Nat.div i 2) v)) (Nat.mod i 2):T α):=rfl;rw[hg]at h;rw[hp];have hgj:∀(a b:T α) (k:Nat),(T.nd a y b).get (k+1)=(Nat.rec (a.get (Nat.div k 2)) (λ_ _=>b.get (Nat.div k 2)) (Nat.mod k 2):Option α):=λ_ _ _=>rfl;rcases hm with hm|hm;rw[hm]at h ⊢;cases j with
   |zero=>rw[aE Zs];rfl
   |succ k=>
    show(T.nd (l.put (Nat.div i 2) v) y r).get (k+1)=_;rw[hgj,hgj];rcases hmj with hk|hk<;>rw[show Nat.pred (k+1)=k from rfl]at hk<;>rw[hk]
    show(l.put (Nat.div i 2) v).get (Nat.div k 2)=if k+1=i+1 then some v else l.get (Nat.div k 2)
    rw[hl _ x h v];have e:Nat.div k 2=Nat.div i 2↔k+1=i+1:=by have h1:Nat.mod k 2=k%2:=rfl;have h2:Nat.mod i 2=i%2:=rfl;have h3:Nat.div k 2=k / 2:=rfl;have h4:Nat.div i 2=i / 2:=rfl;omega
    by_cases hh:k+1=i+1;rw[cg hh,cg (e.2 hh)];rw[aE hh,aE λq=>hh (e.1 q)];show r.get (Nat.div k 2)=if k+1=i+1 then some v else r.get (Nat.div k 2)
    rw[aE];intro hh;have h1:Nat.mod k 2=k%2:=rfl;have h2:Nat.mod i 2=i%2:=rfl;omega
   rw[hm]at h ⊢;cases j with
   |zero=>rw[aE Zs];rfl
   |succ k=>
    show(T.nd l y (r.put (Nat.div i 2) v)).get (k+1)=_;rw[hgj,hgj];rcases hmj with hk|hk<;>rw[show Nat.pred (k+1)=k from rfl]at hk<;>rw[hk]
    show l.get (Nat.div k 2)=if k+1=i+1 then some v else l.get (Nat.div k 2)
    rw[aE];intro hh;have h1:Nat.mod k 2=k%2:=rfl;have h2:Nat.mod i 2=i%2:=rfl;omega;show(r.put (Nat.div i 2) v).get (Nat.div k 2)=if k+1=i+1 then some v else r.get (Nat.div k 2)
    rw[hr _ x h v];have e:Nat.div k 2=Nat.div i 2↔k+1=i+1:=by have h1:Nat.mod k 2=k%2:=rfl;have h2:Nat.mod i 2=i%2:=rfl;have h3:Nat.div k 2=k / 2:=rfl;have h4:Nat.div i 2=i / 2:=rfl;omega
    by_cases hh:k+1=i+1;rw[cg hh,cg (e.2 hh)];rw[aE hh,aE λq=>hh (e.1 q)]
def cD.Uz{m:cD}{x:Y9}(h:m.get i=some x)(y:Y9)(j:Nat):(m.set i y).get j=if j=i then some y else m.get j:=T.Ci m.t i h y j
def RI(X:Nat->Nat×Inst):∀p,∃q,q<=p∧(q=0∨K9 (X (q-1)).2=true)∧∀j,q<=j->j<p->K9 (X j).2=false
 |0=>⟨0,aA _,.inl rfl,λj _ h=>Zs⟩
 |p+1=>by
  cases hE:K9 (X p).2 with
  |true=>exact⟨p+1,aA _,.inr hE,λj h1 h2=>Zs⟩
  |false=>let⟨q,h1,h2,h3⟩:=RI X p;refine⟨q,Zs,h2,λj g1 g2=>?_⟩;by_cases hj:j=p;rw[hj];exact hE;exact h3 j g1 Zs
def Fixed.since(F:Fixed P cr nt cf b cz ord X S){q:Nat}{y:Y9}:∀d,q+d<=ord.length->(∀j,q<=j->j<q+d->K9 (X j).2=false)->(S (q+d)).m.get i=some y->(S q).m.get i=some y∨∃p,q<=p∧p<q+d∧iM b X S p=some (i,y):=by
 intro d;induction d with
 |zero=>intro _ _ h;exact .inl h
 |succ d ih=>
  intro n f h;have g:=F.quiet (p:=q+d) Zs (f _ Zs Zs);rw[show q+(d+1)=q+d+1 from rfl,g]at h;cases hm:iM b X S (q+d)with
  |none=>rw[hm]at h;rcases ih Zs (λj a e=>f j a Zs) h with h|⟨p,a,e,h3⟩;exact .inl h;exact .inr ⟨p,a,Zs,h3⟩
  |some z=>let⟨k,c⟩:=z;rw[hm]at h;have l:=(F.made (p:=q+d) Zs hm).2.2.2.1;have h:((S (q+d)).m.set k c).get i=some y:=h;rw[cD.Uz l]at h;by_cases hk:i=k;subst hk;rw[cg rfl]at h;cases h;exact .inr ⟨q+d,Zs,Zs,hm⟩;rw[aE hk]at h;rcases ih Zs (λj a e=>f j a Zs) h with h|⟨p,a,e,h3⟩;exact .inl h;exact .inr ⟨p,a,Zs,h3⟩
end
end
end Go.AM
