/- The functions of the specification that read and write texts, walked; conditions: the memory holds what the arguments say. -/
import Derived.Test.YtfnlnpllpfhhnaaGreatDoorYD2
set_option linter.unusedSimpArgs false
set_option linter.unusedVariables false
namespace Go.Proofs.YtfnlnpllpfhhnaaGreatDoor.TT
open Go Go.AM
set_option maxRecDepth 100000
set_option maxHeartbeats 8000000
theorem Vg {m:Mem}(s:By)(hs:s.length≤100000)(n fu:Nat):∀(j i:Nat),i+j=s.length→∀(a2:j5) (N:Nat),j+1≤N→
  aj (fun env m k=>Lr (D6 KW fu n) fu none env m k) N (.nd (.nd (.nd .e (.int .i64 (Bz (s.take i):Int)) .e) (.str s) .e) (.int .i64 (i:Int)) (.nd (.nd .e (.int .i64 0) .e) a2 .e)) m []=some [⟨.exit 0,(.nd (.nd (.nd .e (.int .i64 (Bz s:Int)) .e) (.str s) .e) (.int .i64 (s.length:Int)) (.nd (.nd .e (.int .i64 0) .e) (.bool false) .e)),m,[],none⟩]:=by
 intro j
 induction j with
 | zero=>
  intro i hi a2 N hN
  obtain⟨N,rfl⟩:∃k,N=k+1:=⟨N-1,by omega⟩
  obtain rfl:i=s.length:=by omega
  rw [G5,avQ (D5 _)]
  simp [Lr,C8,trD,G9,o9,l6,j3]
 | succ j ih=>
  intro i hi a2 N hN
  obtain⟨N,rfl⟩:∃k,N=k+1:=⟨N-1,by omega⟩
  have hlt:i<s.length:=by omega
  obtain⟨c1,c2,c3,c4⟩:=GY (BA (s.take i)) (axi s[i])
  rw [← DW hlt] at c4
  have p:=fun x lo ls env hx hl=>rO (x:=x) (lo:=lo) (ls:=ls) (env:=env) (s:=s) (l:=i) hx hl hlt
  have e1:decide ((i:Int)<(s.length:Int))=true:=decide_eq_true (by omega)
  have cw:∀k:Int,0≤k→k<256→jL .i64 k=k:=fun k h1 h2=>aN (by omega) (by omega)
  have cb:=cw ((s[i].toNat:Nat):Int) (by omega) (by have:=axi s[i];omega)
  have g:=ih (i+1) (by omega) (.bool true) N (by omega)
  rw [G5,← g]
  simp [Lr,C8,trD,G9,o9,l6,j3,e1,hlt,p,c1,c2,c3,c4,cb,U6 (i:=i) (by omega)]
theorem abg (s:By)(hs:s.length≤100000)(n fu:Nat)(hfu:s.length+1≤fu)(m:Mem):D6 KW fu (n+1) (.func 50) [.str s] m=some [⟨.int .i64 (Bz s:Int),m⟩]:=by
 have g:=Vg (m:=m) s hs n fu s.length 0 (by omega) .undef fu (by omega)
 have g':aj (fun env m k=>Lr (D6 KW fu n) fu none env m k) fu (.nd (.nd (.nd .e (.int .i64 0) .e) (.str s) .e) (.int .i64 0) (.nd (.nd .e (.int .i64 0) .e) .undef .e)) m []=_:=g
 rw [enter (sf:=f50) rfl rfl]
 simp [f50,C8,trD,G9,o9,l6,j3,g']
theorem Hf {c:UInt8}{s:By}{i:Nat}(h:i<s.length):splitB c (s.drop i)=if s[i]=c then []::splitB c (s.drop (i+1)) else LZ s[i] (splitB c (s.drop (i+1))):=by
 rw [avJ h,splitB]
def Vh (w:By):List By→List By
 | []=>[w]
 | x::xs=>(w++x)::xs
theorem Hg (c:UInt8)(l:By):Vh [] (splitB c l)=splitB c l:=by
 obtain⟨w,ws,h⟩:=kZ c l
 rw [h];rfl
theorem Mw (w:By)(b:UInt8)(l:List By):Vh w (LZ b l)=Vh (w ++ [b]) l:=by
 cases l<;>simp [Vh,LZ]
theorem abh (a b:UInt8):decide (((a.toNat:Nat):Int)=((b.toNat:Nat):Int))=decide (a=b):=by
 rw [avV];simp only [decide_eq_true_eq]
 exact⟨fun h=>axv.1 (by omega),fun h=>by rw [h]⟩
theorem Vi {lo:Nat}(s:By)(hs:s.length≤10000)(c:UInt8)(cf:K8)(fu:Nat):∀(j i:Nat),i+j=s.length→∀(fr:Nat) (l:List By) (m:Mem) (out a2 a4:j5) (N:Nat),fr≤i→m.Ok→m.lim≤lo→lo≤m.next→dz lo m out (strs l)→l.length≤i→j+1≤N→
  ∃(out' a4':j5) (m':Mem) (l':List By) (fr':Nat),aj (fun env m k=>IY cf fu none env m k) N (.nd (.nd (.nd (.nd .e .nilSlice .e) (.int .u8 (c.toNat:Nat)) .e) (.str s) (.nd .e out .e)) (.int .i64 (i:Int)) (.nd (.nd .e a4 .e) a2 (.nd .e (.int .i64 (fr:Int)) .e))) m []=some [⟨.exit 0,(.nd (.nd (.nd (.nd .e .nilSlice .e) (.int .u8 (c.toNat:Nat)) .e) (.str s) (.nd .e out' .e)) (.int .i64 (s.length:Int)) (.nd (.nd .e a4' .e) (.bool false) (.nd .e (.int .i64 (fr':Int)) .e))),m',[],none⟩]∧
   Fr lo lo m m'∧dz lo m' out' (strs l')∧(fr':Nat)≤s.length∧l'.length≤s.length∧l' ++ [s.drop fr']=l++Vh ((s.drop fr).take (i-fr)) (splitB c (s.drop i)):=by
 intro j
 induction j with
 | zero=>
  intro i hi fr l m out a2 a4 N hfr hm hl hlo ho hll hN
  obtain⟨N,rfl⟩:∃k,N=k+1:=⟨N-1,by omega⟩
  obtain rfl:i=s.length:=by omega
  refine⟨out,a4,m,l,fr,?_,Fr.refl hm,ho,hfr,hll,?_⟩
  ·rw [G5]
   simp [IY,C8,trD,G9,o9,l6,j3]
  ·rw [avD (D5 s.length),avQ (by simp)]
   simp [splitB,Vh]
 | succ j ih=>
  intro i hi fr l m out a2 a4 N hfr hm hl hlo ho hll hN
  obtain⟨N,rfl⟩:∃k,N=k+1:=⟨N-1,by omega⟩
  have hlt:i<s.length:=by omega
  have p:=fun x lo ls env hx hl=>rO (x:=x) (lo:=lo) (ls:=ls) (env:=env) (s:=s) (l:=i) hx hl hlt
  have e1:decide ((i:Int)<(s.length:Int))=true:=decide_eq_true (by omega)
  have htk:(s.drop fr).take (i+1-fr)=(s.drop fr).take (i-fr) ++ [s[i]]:=by
   rw [show i+1-fr=(i-fr)+1 from by omega,awd (by simp;omega)]
   congr 2
   simp;congr 1;omega
  by_cases hc:s[i]=c
  ·have p1:=fun x lo hi ls env hx hl hh=>Dw (x:=x) (lo:=lo) (hi:=hi) (ls:=ls) (env:=env) (s:=s) (l:=fr) (h:=i) hx hl hh hfr (by omega)
   have po:=fun {β:Type} (p:j5→β) q=>ho.vs.pan p q
   let w:=(s.drop fr).take (i-fr)
   have E2:=(Ext.refl hm).new (A9 [.str w])
   have ho2:=ho.ext E2
   obtain⟨out2,m3,ga,ho3,F3⟩:=rJ (bytes:=16) E2.ok (by show m.lim≤lo;omega) (avz hlo E2.next) ho2 (xD hm (.str w)) rfl (by rw [R3];simp;omega) ⟨by omega,by omega⟩
   have FF:Fr lo lo m m3:=(E2.fr hlo).trans F3
   have ho3':dz lo m3 out2 (strs (l ++ [w])):=by rw [vE];exact ho3
   have po2:=fun {β:Type} (p:j5→β) q=>ho3.vs.pan p q
   have hbs:∀z ps ls env nid,List.length z=1→J2 1 1 z ps ls env nid=ob (lay ps ls env z) fun cells=>if cells.length=1 then some (.slice nid 0 1 1,some (A9 cells)) else none:=fun z ps ls env nid h=>L9 1 z ps ls env nid h
   obtain⟨out',a4',m',l',fr',g,F,ho',h1,h2,h3⟩:=ih (i+1) (by omega) (i+1) (l ++ [w]) m3 out2 (.bool true) (.bool true) N (D5 _) FF.ok (by rw [FF.lim];exact hl) (avz hlo FF.next) ho3' (by simp;omega) (by omega)
   refine⟨out',a4',m',l',fr',?_,FF.trans F,ho',h1,h2,?_⟩
   ·simp only [w] at ga
    rw [G5,← g]
    simp [IY,C8,trD,G9,o9,l6,j3,e1,hlt,p,p1,po,po2,hbs,C9,ga,abh,hc,U6 (i:=i) (by omega)]
   ·rw [h3,Hf hlt,if_pos hc,Nat.sub_self,axh,Hg]
    simp [Vh,w]
  ·obtain⟨out',a4',m',l',fr',g,F,ho',h1,h2,h3⟩:=ih (i+1) (by omega) fr l m out (.bool true) (.bool false) N (by omega) hm hl hlo ho (by omega) (by omega)
   refine⟨out',a4',m',l',fr',?_,F,ho',h1,h2,?_⟩
   ·rw [G5,← g]
    simp [IY,C8,trD,G9,o9,l6,j3,e1,hlt,p,abh,hc,U6 (i:=i) (by omega)]
   ·rw [h3,Hf hlt,if_neg hc,Mw,htk]
theorem Hl {m:Mem}(hm:m.Ok)(hl:m.lim≤m.next)(s:By)(hs:s.length≤10000)(c:UInt8)(n fu:Nat)(hfu:s.length+1≤fu):
  ∃v m',D6 KW fu (n+1) (.func 42) [.str s,.int .u8 (c.toNat:Nat)] m=some [⟨v,m'⟩]∧Ext m m'∧dz m.next m' v (strs (splitB c s)):=by
 obtain⟨out,a4,m2,l,fr,g,F,ho,h1,h2,h3⟩:=Vi (lo:=m.next) s hs c (D6 KW fu n) fu s.length 0 (by omega) 0 [] m .nilSlice .undef .undef fu (D5 _) hm hl (D5 _) (dz.nil _ _) (by simp) (by omega)
 have g':aj (fun env m k=>IY (D6 KW fu n) fu none env m k) fu (.nd (.nd (.nd (.nd .e .nilSlice .e) (.int .u8 (c.toNat:Nat)) .e) (.str s) (.nd .e .nilSlice .e)) (.int .i64 0) (.nd (.nd .e .undef .e) .undef (.nd .e (.int .i64 0) .e))) m []=_:=g
 rw [Nat.sub_self,axh,awh,Hg,avT] at h3
 have p1:=fun x lo ls env hx hl=>GH (x:=x) (lo:=lo) (ls:=ls) (env:=env) (s:=s) (l:=fr) hx hl h1
 have E2:=(Ext.refl F.ok).new (A9 [.str (s.drop fr)])
 have hbs:∀z ps ls env nid,List.length z=1→J2 1 1 z ps ls env nid=ob (lay ps ls env z) fun cells=>if cells.length=1 then some (.slice nid 0 1 1,some (A9 cells)) else none:=fun z ps ls env nid h=>L9 1 z ps ls env nid h
 obtain⟨v,m3,ga,ho3,F3⟩:=rJ (bytes:=16) E2.ok (by show m2.lim≤m.next;rw [F.lim];exact hl) (avz F.next E2.next) (ho.ext E2) (xD F.ok (.str (s.drop fr))) rfl (by rw [R3];simp;omega) ⟨by omega,by omega⟩
 have po2:=fun {β:Type} (p:j5→β) q=>ho3.vs.pan p q
 refine⟨v,m3,?_,(F.trans ((E2.fr F.next).trans F3)).ext (D5 _) (D5 _),?_⟩
 ·rw [enter (sf:=f42) rfl rfl]
  simp [f42,C8,trD,G9,o9,l6,j3,g',p1,hbs,C9,ga,po2]
 ·rw [← h3,vE];exact ho3
set_option maxHeartbeats 16000000
def Pm (m m':Mem)(v:j5):Prop:=∀i,i<m.next→(∀o l c,v≠.slice i o l c)→(∀o l e,v≠.sliceU i o l e)→m'.get i=m.get i
theorem Pn {lo bytes:Nat}{m:Mem}{v:j5}{l xs:List j5}(hm:m.Ok)(hlim:m.lim≤lo)(hlo:lo≤m.next)(h:dz lo m v l)(h1:O7 xs=true)(hb:l.length+xs.length≤100000)(hby:1≤bytes∧bytes≤1000):
  ∃v' m',pR m 1 bytes xs.length xs v=some [⟨v',m'⟩]∧dz lo m' v' (l++xs)∧Fr lo lo m m'∧Pm m m' v∧(xs≠[]→∃i l',m.next≤i∧v'=.sliceU i 0 l' 1):=by
 by_cases hf:xs=[]
 ·subst hf
  refine⟨v,m,?_,by simpa using h,Fr.refl hm,fun _ _ _ _=>rfl,fun h=>absurd rfl h⟩
  rcases h with⟨rfl,rfl⟩ | ⟨id,_,_,_,_,rfl | rfl⟩
  ·rfl
  ·show bi (Nat.ble (l.length+0) l.length) (one (.slice id 0 (l.length+0) l.length) m) _=_
   rw [awl,show Nat.ble l.length l.length=true from avB (D5 _)];rfl
  ·rfl
 ·obtain⟨k,hk⟩:∃k,xs.length=k+1:=⟨xs.length-1,by have:=aws.2 hf;omega⟩
  rcases h with⟨rfl,rfl⟩ | ⟨id,i1,i2,i3,ha,hv⟩
  ·obtain⟨g,o⟩:=qj (lo:=lo) hm hlo xs h1
   refine⟨_,_,?_,by rw [avT];exact o,Fr.new hm hlo _,fun i hi _ _=>by rw [Mem.T9 hm,if_neg (by omega)],fun _=>⟨_,_,D5 _,rfl⟩⟩
   rw [← g]
   show JH m 1 bytes xs.length xs=_
   rw [hk]
   show bi (big (k+1) bytes 1) _ none=_
   rw [Dv (by simp at hb;omega) hby];rfl
  ·have hl1:O7 (l++xs)=true:=by rw [lX,i3,h1];rfl
   obtain⟨p,hl,c,t,c',q1,q2,q0,q3,q4⟩:=ha
   have q2':l.length≤c:=by simpa using q2
   have hrd:M5 1 c t l.length 0=some l:=by
    have:=rH (rs:=1) (n:=c) (rows:=t) hl q4 q2 l.length 0 (by simp)
    rwa [awt,awF,awh,vD] at this
   rcases hv with rfl | rfl
   ·obtain⟨g,o⟩:=qj (lo:=lo) hm hlo (l++xs) hl1
    refine⟨_,_,?_,o,Fr.new hm hlo _,fun i hi _ _=>by rw [Mem.T9 hm,if_neg (by omega)],fun _=>⟨_,_,D5 _,rfl⟩⟩
    rw [← g]
    show lu m 1 bytes xs.length xs id 0 l.length l.length=_
    unfold lu
    have e1:Nat.ble (Nat.add l.length xs.length) l.length=false:=by
     rw [avO]
     intro e
     have:l.length+xs.length≤l.length:=avC e
     omega
    have e2:R4 m id 0 (Nat.mul l.length 1)=some l:=by
     rw [show Nat.mul l.length 1=l.length from awt _]
     cases hll:l.length with
     | zero=>rw [avW.1 hll];rfl
     | succ j=>
      show aO (m.get id) (fun rs k' rows=>M5 rs k' rows (j+1) 0)=_
      rw [q1,dL,← hll,hrd]
    rw [e1,aY,show Nat.add l.length xs.length=(l++xs).length from by simp,Dv (by simpa using hb) hby,aJ,e2,O0,ak]
   ·have hset:(m.set id .dead).Ok:=Mem.Ok.set hm i2 _
    have hka:∀b,Pm m ((m.set id .dead).new b) (.sliceU id 0 l.length 1):=fun b i hi h1 h2=>by
     rw [Mem.T9 hset,if_neg (by simp;omega),Mem.ay hm i2,if_neg (fun e=>h2 _ _ _ (by rw [e]))]
    have hfr:∀b,Fr lo lo m ((m.set id .dead).new b):=fun b=>⟨Mem.Ok.new hset _,by simp,by simp,fun i hi _=>by
     rw [Mem.T9 hset,if_neg (by simp;omega),Mem.ay hm i2,if_neg (by omega)]⟩
    have hl1':Nat.ble m.lim id=true:=avB (by omega)
    by_cases hone:xs.length=1
    ·obtain⟨x,rfl⟩:∃x,xs=[x]:=List.length_eq_one_iff.1 hone
     have hput:∃c'',l.length+1≤c''∧T.Ok (t.put l.length [x]) c'':=by
      by_cases hc:l.length<c'
      ·exact⟨c',hc,T.Ok.put q3 _ _ hc⟩
      ·obtain rfl:c'=l.length:=by omega
       exact⟨l.length+1,D5 _,T.Ok.push q3 _⟩
     obtain⟨c'',r1,r2⟩:=hput
     refine⟨.sliceU m.next 0 (l.length+1) 1,(m.set id .dead).new (.cells 1 (l.length+1) (t.put l.length [x])),?_,.inr ⟨m.next,hlo,by simp,hl1,⟨by omega,fun r hr=>?_,l.length+1,t.put l.length [x],c'',?_,by simp,r1,r2,fun i hi=>?_⟩,.inr (by simp)⟩,hfr _,hka _,fun _=>⟨_,_,by first | exact D5 _ | simp,rfl⟩⟩
     ·show vM m 1 bytes 1 [x] id 0 l.length 1=_
      show bi (Nat.beq 1 1) (bi (big (l.length+1) bytes 1) (bi (Nat.ble m.lim id) (bi (O7 [x]) (BU (m.get id) _ _) none) none) none) none=_
      rw [Dv (by simpa using hb) hby,hl1',h1,q1]
      show bi (bi (Nat.beq 1 1) (bi (Nat.beq 0 0) (bi (Nat.ble l.length c) (bi (Nat.beq 1 1) (Nat.beq (len' [x]) 1) false) false) false) false) _ _=_
      rw [show Nat.ble l.length c=true from avB q2']
      rfl
     ·obtain⟨y,_,rfl⟩:=awy.1 hr
      rfl
     ·rw [Mem.T9 hset];simp
     ·by_cases hil:i=l.length
      ·subst hil
       rw [T.aQ q3 _ _ (by omega)]
       simp
      ·have hil':i<l.length:=by simp at hi;omega
       rw [T.bL q3 _ _ _ (by omega) (axu hil),q4 i (by simpa using hil')]
       simp [ax1,hil']
    ·obtain⟨g,o⟩:=qj (lo:=lo) hset (by simpa using hlo) (l++xs) hl1
     refine⟨_,_,?_,o,hfr _,hka _,fun _=>⟨_,_,by first | exact D5 _ | simp,rfl⟩⟩
     rw [← g]
     show vM m 1 bytes xs.length xs id 0 l.length 1=_
     unfold vM
     rw [hk]
     show bi (Nat.beq 1 1) (bi (big (l.length+(k+1)) bytes 1) (bi (Nat.ble m.lim id) (bi (O7 xs) (BU (m.get id) _ _) none) none) none) none=_
     rw [Dv (by omega) hby,hl1',h1,q1]
     show bi (bi (Nat.beq 1 1) (bi (Nat.beq 0 0) (bi (Nat.ble l.length c) (bi (Nat.beq (k+1) 1) (Nat.beq (len' xs) 1) false) false) false) false) _ (ob (M5 1 c t (Nat.mul l.length 1) 0) fun old=>grown (m.set id .dead) 1 (Nat.add l.length (k+1)) (jl old xs))=_
     rw [show Nat.ble l.length c=true from avB q2',show Nat.beq (k+1) 1=false from avO.2 fun e=>hone (by rw [hk];exact avt e),
      show Nat.mul l.length 1=l.length from awt _,show Nat.add l.length (k+1)=(l++xs).length from by simp [hk]]
     show ob (M5 1 c t l.length 0) (fun old=>grown (m.set id .dead) 1 (l++xs).length (jl old xs))=_
     rw [hrd,O0,ak]
theorem Vj {lo bytes:Nat}{m:Mem}{v x:j5}{l xs:List j5}(hm:m.Ok)(hlim:m.lim≤lo)(hlo:lo≤m.next)(h:dz lo m v l)(hx:kH m x xs)(h1:O7 xs=true)(hb:l.length+xs.length≤100000)(hby:1≤bytes∧bytes≤1000):
  ∃v' m',(∀(s y:OF) (cf:K8) (ls:List j5) (env:T j5),s ls env=v→y ls env=x→lC 1 bytes s y cf ls env m=some [⟨v',m'⟩])∧dz lo m' v' (l++xs)∧Fr lo lo m m'∧Pm m m' v∧(xs≠[]→∃i l',m.next≤i∧v'=.sliceU i 0 l' 1):=by
 obtain⟨v',m',g1,g2,g3,g4,g5⟩:=Pn hm hlim hlo h h1 hb hby
 refine⟨v',m',fun s y cf ls env hs hy=>?_,g2,g3,g4,g5⟩
 show ob (AM.lenOf (y ls env)) (fun n=>ob (ah m 1 n (y ls env)) fun new=>pR m 1 bytes n new (s ls env))=_
 rw [hy,hs,hx.lenOf,O0,hx.read,O0,g1]
theorem Mx {s:By}{i:Nat}(h:i<s.length):nO 0 (s.take (i+1))=if 48≤(s[i]).toNat∧(s[i]).toNat≤57 then 10*nO 0 (s.take i)+((s[i]).toNat-48) else nO 0 (s.take i):=by
 rw [awd h,Br];rfl
theorem Jl (s:By)(i:Nat)(h:i≤18):nO 0 (s.take i)<1000000000000000000:=by
 have h1:=Bt (s.take i) 0
 have h2:=aw3 (n:=10) (by decide) (show (s.take i).length≤18 by rw [awH];omega)
 have e:(10:Nat)^18=1000000000000000000:=by decide
 omega
theorem Vk {m:Mem}(s:By)(hs:s.length≤100000)(cf:K8)(fu:Nat):∀(j i:Nat),i+j=min s.length 18→∀(a2 a3:j5) (N:Nat),j+1≤N→
  ∃i' a3',aj (fun env m k=>DI cf fu none env m k) N (.nd (.nd (.nd .e a3 .e) (.str s) (.nd .e .undef .e)) (.int .i64 (i:Int)) (.nd (.nd .e (.int .i64 (nO 0 (s.take i):Int)) .e) a2 (.nd .e (.int .i64 0) .e))) m []=some [⟨.exit 0,(.nd (.nd (.nd .e a3' .e) (.str s) (.nd .e .undef .e)) i' (.nd (.nd .e (.int .i64 (nO 0 (s.take 18):Int)) .e) (.bool false) (.nd .e (.int .i64 0) .e))),m,[],none⟩]:=by
 intro j
 induction j with
 | zero=>
  intro i hi a2 a3 N hN
  obtain⟨N,rfl⟩:∃k,N=k+1:=⟨N-1,by omega⟩
  have ht:s.take i=s.take 18:=by
   by_cases h:s.length≤18
   ·rw [show i=s.length from by omega,avQ (D5 _),avQ h]
   ·rw [show i=18 from by omega]
  refine⟨.int .i64 (i:Int),a3,?_⟩
  rw [G5,ht]
  by_cases h:i<s.length
  ·have e1:decide ((i:Int)<(s.length:Int))=true:=decide_eq_true (by omega)
   have e2:decide ((i:Int)<18)=false:=decide_eq_false (by omega)
   simp [DI,C8,trD,G9,o9,l6,j3,e1,e2,h,show ¬ (i:Int)<18 from by omega]
  ·have e1:decide ((i:Int)<(s.length:Int))=false:=decide_eq_false (by omega)
   simp [DI,C8,trD,G9,o9,l6,j3,e1,h]
 | succ j ih=>
  intro i hi a2 a3 N hN
  obtain⟨N,rfl⟩:∃k,N=k+1:=⟨N-1,by omega⟩
  have hlt:i<s.length:=by omega
  have h18:i<18:=by omega
  have p:=fun x lo ls env hx hl=>rO (x:=x) (lo:=lo) (ls:=ls) (env:=env) (s:=s) (l:=i) hx hl hlt
  have e1:decide ((i:Int)<(s.length:Int))=true:=decide_eq_true (by omega)
  have e2:decide ((i:Int)<18)=true:=decide_eq_true (by omega)
  have i18:(i:Int)<18:=by omega
  have hd:nO 0 (s.take i)<100000000000000000:=by
   have h1:=Bt (s.take i) 0
   have h2:=aw3 (n:=10) (by decide) (show (s.take i).length≤17 by rw [awH];omega)
   have e:(10:Nat)^17=100000000000000000:=by decide
   omega
  have cw:∀k:Int,0≤k→k<256→jL .i64 k=k:=fun k h1 h2=>aN (by omega) (by omega)
  have hsn:=Mx hlt
  have hB:=axi s[i]
  generalize hb:(s[i]).toNat=B at hsn p hB
  by_cases h1:48≤B
  ·by_cases h2:B≤57
   ·obtain⟨t,rfl⟩:∃t,B=48+t:=⟨B-48,by omega⟩
    rw [if_pos ⟨h1,h2⟩,show 48+t-48=t from by omega] at hsn
    have c1:BJ .u8 ((48+t:Nat):Int) 48=some (.int .u8 (t:Int)):=by
     show some (j5.int .u8 (jL .u8 (((48+t:Nat):Int)-48)))=_
     rw [show (((48+t:Nat):Int)-48)=(t:Int) from by omega]
     congr 2
     show (t:Int)%256=_
     omega
    have c2:jL .i64 (t:Int)=(t:Int):=cw _ (by omega) (by omega)
    have c3:w64 (10*(nO 0 (s.take i):Int))=10*(nO 0 (s.take i):Int):=aN (by omega) (by omega)
    have c4:w64 (10*(nO 0 (s.take i):Int)+(t:Int))=((nO 0 (s.take (i+1)):Nat):Int):=by
     rw [hsn,aN (by omega) (by omega)];omega
    have d1:decide ((48:Int)≤((48+t:Nat):Int))=true:=decide_eq_true (by omega)
    have d2:decide (((48+t:Nat):Int)≤57)=true:=decide_eq_true (by omega)
    obtain⟨i',a3',g⟩:=ih (i+1) (by omega) (.bool true) (.bool true) N (by omega)
    refine⟨i',a3',?_⟩
    rw [G5,← g]
    generalize ((48+t:Nat):Int)=Z at *
    simp [DI,C8,trD,G9,o9,l6,j3,e1,e2,i18,hlt,p,c1,c2,c3,c4,of_decide_eq_true d1,of_decide_eq_true d2,U6 (i:=i) (by omega)]
   ·rw [if_neg (by omega)] at hsn
    have d1:(48:Int)≤(B:Int):=by omega
    have d2:¬ (B:Int)≤57:=by omega
    obtain⟨i',a3',g⟩:=ih (i+1) (by omega) (.bool true) (.bool false) N (by omega)
    refine⟨i',a3',?_⟩
    rw [G5,← g,hsn]
    simp [DI,C8,trD,G9,o9,l6,j3,e1,e2,i18,hlt,p,d1,d2,U6 (i:=i) (by omega)]
  ·rw [if_neg (by omega)] at hsn
   have d1:¬ (48:Int)≤(B:Int):=by omega
   obtain⟨i',a3',g⟩:=ih (i+1) (by omega) (.bool true) (.bool false) N (by omega)
   refine⟨i',a3',?_⟩
   rw [G5,← g,hsn]
   simp [DI,C8,trD,G9,o9,l6,j3,e1,e2,i18,hlt,p,d1,U6 (i:=i) (by omega)]
theorem Rb (s:By)(hs:s.length≤100000)(n fu:Nat)(hfu:1001≤fu)(m:Mem):D6 KW fu (n+1) (.func 86) [.str s] m=some [⟨.int .i64 (oP s),m⟩]:=by
 obtain⟨i',a3',g⟩:=Vk (m:=m) s hs (D6 KW fu n) fu (min s.length 18) 0 (by omega) .undef .undef fu (by omega)
 have g':aj (fun env m k=>DI (D6 KW fu n) fu none env m k) fu (.nd (.nd (.nd .e .undef .e) (.str s) (.nd .e .undef .e)) (.int .i64 0) (.nd (.nd .e (.int .i64 0) .e) .undef (.nd .e (.int .i64 0) .e))) m []=_:=g
 have hd:=Jl s 18 (D5 _)
 rw [enter (sf:=f86) rfl rfl]
 cases s with
 | nil=>simp [f86,C8,trD,G9,o9,l6,j3,g',oP,nO]
 | cons c t=>
  have p:=fun x lo ls env hx hl=>Tq (x:=x) (lo:=lo) (ls:=ls) (env:=env) (b:=c) (t:=t) hx hl
  have hp:(0:Int)<((c::t).length:Int):=by simp<;>omega
  by_cases hc:c=45
  ·subst hc
   have e:oP (45::t)=-((nO 0 ((45::t).take 18):Nat):Int):=by unfold oP;rw [if_pos (show (45::t:By).head?=some 45 from rfl)]
   have w:w64 (0-((nO 0 ((45::t).take 18):Nat):Int))=-((nO 0 ((45::t).take 18):Nat):Int):=by rw [aN (by omega) (by omega)];omega
   rw [e]
   generalize nO 0 ((45::t).take 18)=D at *
   have w2:w64 (-(D:Int))=-(D:Int):=aN (by omega) (by omega)
   simp [f86,C8,trD,G9,o9,l6,j3,g',p,hp,w,w2]
  ·have e:oP (c::t)=((nO 0 ((c::t).take 18):Nat):Int):=by
    unfold oP;rw [if_neg];simpa using hc
   have hn:¬ ((c.toNat:Nat):Int)=45:=fun h=>hc (axv.1 (by show c.toNat=45;omega))
   rw [e]
   simp [f86,C8,trD,G9,o9,l6,j3,g',p,hp,hn]
theorem Vl {lo:Nat}{m m':Mem}{v:j5}{xs:List j5}(h:kH m v xs)(F:Fr lo lo m m')(hlo:∀i o l c,(v=.slice i o l c∨v=.sliceU i o l c)→i<lo):kH m' v xs:=
 h.keep F.next fun id n rows hid _ hs=>by
  have:id<lo:=by
   rcases hs with⟨o,l,c,h⟩ | ⟨o,l,c,h⟩
   ·exact hlo _ _ _ _ (.inl h)
   ·exact hlo _ _ _ _ (.inr h)
  exact F.old id this (by omega)
theorem MB {m:Mem}{v:j5}{xs:List j5}(h:kH m v xs):∀i o l c,(v=.slice i o l c∨v=.sliceU i o l c)→i<m.next:=by
 rcases h with⟨rfl,_⟩ | ⟨id,off,h1,h2,_⟩
 ·rintro i o l c (h | h)<;>cases h
 ·rintro i o l c hv
  rcases h1 with⟨c',h1,_⟩ | h1<;>subst h1<;>rcases hv with hv | hv<;>cases hv<;>exact h2
theorem Po {lo:Nat}(v:j5)(many:Nat)(ws:List By)(hw:∀w∈ws,w.length≤100000)(n fu:Nat)(hfu:1001≤fu):∀(j i:Nat),i+j=ws.length→1≤i→∀(l:List Int) (m:Mem) (out a2:j5) (N:Nat),m.Ok→m.lim≤lo→lo≤m.next→kH m v (strs ws)→(∀i o l c,(v=.slice i o l c∨v=.sliceU i o l c)→i<lo)→dz lo m out (ints l)→l.length+ws.length≤i+50000→l.length≤i→ws.length≤20000→j+1≤N→
  ∃(out':j5) (m':Mem),aj (fun env m k=>Ll (D6 KW fu (n+1)) fu none env m k) N (.nd (.nd (.nd .e out .e) v (.nd .e .undef .e)) (.int .i64 (i:Int)) (.nd (.nd .e (.int .i64 (many:Int)) .e) a2 (.nd .e .nilSlice .e))) m []=some [⟨.exit 0,(.nd (.nd (.nd .e out' .e) v (.nd .e .undef .e)) (.int .i64 (ws.length:Int)) (.nd (.nd .e (.int .i64 (many:Int)) .e) (.bool false) (.nd .e .nilSlice .e))),m',[],none⟩]∧
   Fr lo lo m m'∧dz lo m' out' (ints (l++(ws.drop i).map oP)):=by
 intro j
 induction j with
 | zero=>
  intro i hi h1 l m out a2 N hm hl hlo hv hid ho hb hb2 hb3 hN
  obtain⟨N,rfl⟩:∃k,N=k+1:=⟨N-1,by omega⟩
  obtain rfl:i=ws.length:=by omega
  have hlen:=hv.len
  rw [R3] at hlen
  refine⟨out,m,?_,Fr.refl hm,by rw [avD (D5 _)];simpa using ho⟩
  rw [G5]
  simp [Ll,C8,trD,G9,o9,l6,j3,hlen]
 | succ j ih=>
  intro i hi h1 l m out a2 N hm hl hlo hv hid ho hb hb2 hb3 hN
  obtain⟨N,rfl⟩:∃k,N=k+1:=⟨N-1,by omega⟩
  have hlt:i<ws.length:=by omega
  have hlen:=hv.len
  rw [R3] at hlen
  obtain⟨id,o,a1,_,a3⟩:=hv.at (i:=i) (by rw [R3];exact hlt)
  have hget:(strs ws)[i]'(by rw [R3];exact hlt)=.str ws[i]:=by simp [strs]
  rw [hget] at a3
  simp at a1
  have e1:decide ((i:Int)<(ws.length:Int))=true:=decide_eq_true (by omega)
  have c:=Rb ws[i] (hw _ (awj hlt)) n fu hfu m
  have po:=fun {β:Type} (p:j5→β) q=>ho.vs.pan p q
  have pv:=fun {β:Type} (p:j5→β) q=>hv.pan p q
  have E2:=(Ext.refl hm).new (A9 [.int .i64 (oP ws[i])])
  have hil:(ints l).length=l.length:=by simp [ints]
  obtain⟨out2,m3,ga,ho3,F3⟩:=rJ (bytes:=8) E2.ok (by show m.lim≤lo;omega) (avz hlo E2.next) (ho.ext E2) (xD hm (.int .i64 (oP ws[i]))) rfl (by rw [hil];simp;omega) ⟨by omega,by omega⟩
  have FF:Fr lo lo m m3:=(E2.fr hlo).trans F3
  have ho3':dz lo m3 out2 (ints (l ++ [oP ws[i]])):=by rw [vF];exact ho3
  have po2:=fun {β:Type} (p:j5→β) q=>ho3.vs.pan p q
  have hbs:∀z ps ls env nid,List.length z=1→J2 1 1 z ps ls env nid=ob (lay ps ls env z) fun cells=>if cells.length=1 then some (.slice nid 0 1 1,some (A9 cells)) else none:=fun z ps ls env nid h=>L9 1 z ps ls env nid h
  obtain⟨out',m',g,F,ho'⟩:=ih (i+1) (by omega) (by omega) (l ++ [oP ws[i]]) m3 out2 (.bool true) N FF.ok (by rw [FF.lim];exact hl) (avz hlo FF.next) (Vl hv FF hid) hid ho3' (by simp;omega) (by simp;omega) hb3 (by omega)
  refine⟨out',m',?_,FF.trans F,by rw [avJ hlt,axt];simpa using ho'⟩
  rw [G5,← g]
  simp [Ll,C8,trD,G9,o9,l6,j3,e1,hlt,hlen,a1,a3,c,po,po2,pv,hbs,C9,ga,U6 (i:=i) (by omega)]
theorem Pp {lo:Nat}(v:j5)(many:Nat)(hmany:many≤10000)(x0 a2:j5)(cf:K8)(fu:Nat):∀(j:Nat) (l:List Int) (m:Mem) (out a5:j5) (N:Nat),l.length+j=max l.length many→m.Ok→m.lim≤lo→lo≤m.next→dz lo m out (ints l)→l.length≤60000→j+1≤N→
  ∃(out':j5) (m':Mem),aj (fun env m k=>Oy cf fu none env m k) N (.nd (.nd (.nd .e out .e) v (.nd .e a5 .e)) x0 (.nd (.nd .e (.int .i64 (many:Int)) .e) a2 (.nd .e .nilSlice .e))) m []=some [⟨.exit 2,(.nd (.nd (.nd .e out' .e) v (.nd .e (.bool false) .e)) x0 (.nd (.nd .e (.int .i64 (many:Int)) .e) a2 (.nd .e .nilSlice .e))),m',[],none⟩]∧
   Fr lo lo m m'∧dz lo m' out' (ints (DU many l)):=by
 intro j
 induction j with
 | zero=>
  intro l m out a5 N hj hm hl hlo ho hb hN
  obtain⟨N,rfl⟩:∃k,N=k+1:=⟨N-1,by omega⟩
  have hge:many≤l.length:=by omega
  have hlen:=ho.vs.len
  have hil:(ints l).length=l.length:=by simp [ints]
  rw [hil] at hlen
  have e1:decide ((l.length:Int)<(many:Int))=false:=decide_eq_false (by omega)
  refine⟨out,m,?_,Fr.refl hm,by rw [DU,show many-l.length=0 from by omega];simpa using ho⟩
  rw [G5]
  simp [Oy,C8,trD,G9,o9,l6,j3,hlen,e1,show ¬ l.length<many from by omega]
 | succ j ih=>
  intro l m out a5 N hj hm hl hlo ho hb hN
  obtain⟨N,rfl⟩:∃k,N=k+1:=⟨N-1,by omega⟩
  have hlt:l.length<many:=by omega
  have hlen:=ho.vs.len
  have hil:(ints l).length=l.length:=by simp [ints]
  rw [hil] at hlen
  have e1:decide ((l.length:Int)<(many:Int))=true:=decide_eq_true (by omega)
  have po:=fun {β:Type} (p:j5→β) q=>ho.vs.pan p q
  have E2:=(Ext.refl hm).new (A9 [.int .i64 0])
  obtain⟨out2,m3,ga,ho3,F3⟩:=rJ (bytes:=8) E2.ok (by show m.lim≤lo;omega) (avz hlo E2.next) (ho.ext E2) (xD hm (.int .i64 0)) rfl (by rw [hil];simp;omega) ⟨by omega,by omega⟩
  have FF:Fr lo lo m m3:=(E2.fr hlo).trans F3
  have ho3':dz lo m3 out2 (ints (l ++ [0])):=by rw [vF];exact ho3
  have po2:=fun {β:Type} (p:j5→β) q=>ho3.vs.pan p q
  have hbs:∀z ps ls env nid,List.length z=1→J2 1 1 z ps ls env nid=ob (lay ps ls env z) fun cells=>if cells.length=1 then some (.slice nid 0 1 1,some (A9 cells)) else none:=fun z ps ls env nid h=>L9 1 z ps ls env nid h
  obtain⟨out',m',g,F,ho'⟩:=ih (l ++ [0]) m3 out2 (.bool true) N (by simp;omega) FF.ok (by rw [FF.lim];exact hl) (avz hlo FF.next) ho3' (by simp;omega) (by omega)
  refine⟨out',m',?_,FF.trans F,?_⟩
  ·rw [G5,← g]
   simp [Oy,C8,trD,G9,o9,l6,j3,e1,hlt,hlen,po,po2,hbs,C9,ga]
  ·have e:DU many (l ++ [0])=DU many l:=by
    simp only [DU,awk,List.length_singleton,List.append_assoc]
    rw [show many-l.length=(many-(l.length+1))+1 from by omega,List.replicate_succ];rfl
   rw [← e];exact ho'
theorem MC {m:Mem}(hm:m.Ok)(hl:m.lim≤m.next){v:j5}{w:By}{ws:List By}(hv:kH m v (strs (w::ws)))(hw:∀x∈w::ws,x.length≤100000)(hb:(w::ws).length≤3000)(many:Nat)(hmany:many≤1000)(n fu:Nat)(hfu:5001≤fu):
  ∃v' m',D6 KW fu (n+2) (.func 43) [v,.int .i64 (many:Int)] m=some [⟨v',m'⟩]∧Ext m m'∧dz m.next m' v' (ints (dD (w::ws) many)):=by
 obtain⟨o1,m1,g1,F1,ho1⟩:=Po (lo:=m.next) v many (w::ws) hw n fu (by omega) ws.length 1 (by simp;omega) (D5 _) [] m .nilSlice .undef fu hm hl (D5 _) hv (MB hv) (dz.nil _ _) (by simp at hb ⊢;omega) (by simp) (by omega) (by simp at hb;omega)
 have g1':aj (fun env m k=>Ll (D6 KW fu (n+1)) fu none env m k) fu (.nd (.nd (.nd .e .nilSlice .e) v (.nd .e .undef .e)) (.int .i64 1) (.nd (.nd .e (.int .i64 (many:Int)) .e) .undef (.nd .e .nilSlice .e))) m []=_:=g1
 rw [avT] at ho1
 have hlen1:(List.map oP (List.drop 1 (w::ws))).length≤3000:=by simp at hb ⊢;omega
 obtain⟨o2,m2,g2,F2,ho2⟩:=Pp (lo:=m.next) v many (by omega) (.int .i64 ((ws.length:Int)+1)) (.bool false) (D6 KW fu (n+1)) fu (many-(List.map oP (List.drop 1 (w::ws))).length) (List.map oP (List.drop 1 (w::ws))) m1 o1 .undef fu (by omega) F1.ok (by rw [F1.lim];exact hl) F1.next ho1 (by omega) (by omega)
 have po:=fun {β:Type} (p:j5→β) q=>ho2.vs.pan p q
 refine⟨o2,m2,?_,(F1.trans F2).ext (D5 _) (D5 _),ho2⟩
 rw [enter (sf:=f43) rfl rfl]
 simp [f43,C8,trD,G9,o9,l6,j3,g1',g2,po]
def Dis (a b:j5):Prop:=∀i,(∃o l c,a=.slice i o l c∨a=.sliceU i o l c)→¬ ∃o l c,b=.slice i o l c∨b=.sliceU i o l c
theorem Dis.symm {a b:j5}(h:Dis a b):Dis b a:=fun i h1 h2=>h i h2 h1
theorem Pq {lo:Nat}{m m':Mem}{a b:j5}{lb:List j5}(h:dz lo m b lb)(K:Pm m m' a)(hn:m.next≤m'.next)(D:Dis a b):dz lo m' b lb:=by
 rcases h with h | ⟨id,h1,h2,h3,h4,h5⟩
 ·exact .inl h
 ·have hb:∃o l c,b=.slice id o l c∨b=.sliceU id o l c:=by
   rcases h5 with h5 | h5
   ·exact⟨_,_,_,.inl h5⟩
   ·exact⟨_,_,_,.inr h5⟩
  exact .inr ⟨id,h1,avu h2 hn,h3,h4.same (K id h2 (fun o l c e=>D id ⟨o,l,c,.inl e⟩ hb) (fun o l c e=>D id ⟨o,l,c,.inr e⟩ hb)),h5⟩
theorem Vm {lo:Nat}{m:Mem}{b:j5}{lb:List j5}(h:dz lo m b lb){i o l c:Nat}(hb:b=.slice i o l c∨b=.sliceU i o l c):i<m.next:=MB h.vs i o l c hb
theorem Vn {lo:Nat}{m:Mem}{b:j5}{lb:List j5}(h:dz lo m b lb){i l':Nat}(hi:m.next≤i):Dis (.sliceU i 0 l' 1) b:=by
 rintro j ⟨o,l,c,h1⟩ ⟨o2,l2,c2,h2⟩
 have:=Vm h h2
 rcases h1 with h1 | h1<;>cases h1
 omega
theorem Vo (b:j5):Dis .nilSlice b:=by
 rintro j ⟨o,l,c,h1⟩
 rcases h1 with h1 | h1<;>cases h1
theorem Ho {lo:Nat}{m:Mem}{a b:j5}{la lb:List Int}(hm:m.Ok)(hl:m.lim≤lo)(hlo:lo≤m.next)(ha:dz lo m a (ints la))(hb:dz lo m b (ints lb))(D:Dis a b)(x:Int)(hn:la.length≤50000):
  ∃a' m',(∀(s y:OF) (cf:K8) (ls:List j5) (env:T j5),s ls env=a→y ls env=.slice m.next 0 1 1→lC 1 8 s y cf ls env (m.new (A9 [.int .i64 x]))=some [⟨a',m'⟩])∧Fr lo lo m m'∧dz lo m' a' (ints (la ++ [x]))∧dz lo m' b (ints lb)∧Dis a' b:=by
 have E2:=(Ext.refl hm).new (A9 [.int .i64 x])
 have hil:(ints la).length=la.length:=by simp [ints]
 obtain⟨a',m3,ga,ho3,F3,K,hx⟩:=Vj (bytes:=8) E2.ok (by show m.lim≤lo;omega) (avz hlo E2.next) (ha.ext E2) (xD hm (.int .i64 x)) rfl (by rw [hil];simp;omega) ⟨by omega,by omega⟩
 obtain⟨i,l',h1,rfl⟩:=hx (by simp)
 exact⟨_,m3,ga,(E2.fr hlo).trans F3,by rw [vF];exact ho3,Pq (hb.ext E2) K F3.next D,Vn (hb.ext E2) h1⟩
theorem Vp {lo:Nat}(v:j5)(ws:List By)(hw:∀w∈ws,w.length≤100000)(hwl:ws.length≤20000)(n fu:Nat)(hfu:1001≤fu):∀(j i:Nat),i+j=ws.length→∀(k:Nat) (la lb:List Int) (m:Mem) (a b a2 a3 a4 a6 a8:j5) (N:Nat),m.Ok→m.lim≤lo→lo≤m.next→kH m v (strs ws)→(∀i o l c,(v=.slice i o l c∨v=.sliceU i o l c)→i<lo)→
  dz lo m a (ints la)→dz lo m b (ints lb)→Dis a b→la.length≤i→lb.length≤i→j+1≤N→
  ∃(a' b' b3 b4 k' b6 b8:j5) (m':Mem),aj (fun env m k=>Bl (D6 KW fu (n+1)) fu none env m k) N (.nd (.nd (.nd (.nd .e a .e) a3 (.nd .e .nilSlice .e)) v (.nd (.nd .e b .e) (.int .i64 (k:Int)) .e)) (.int .i64 (i:Int)) (.nd (.nd (.nd .e a8 .e) a4 .e) a2 (.nd (.nd .e .nilSlice .e) a6 .e))) m []=some [⟨.exit 0,(.nd (.nd (.nd (.nd .e a' .e) b3 (.nd .e .nilSlice .e)) v (.nd (.nd .e b' .e) k' .e)) (.int .i64 (ws.length:Int)) (.nd (.nd (.nd .e b8 .e) b4 .e) (.bool false) (.nd (.nd .e .nilSlice .e) b6 .e))),m',[],none⟩]∧
   Fr lo lo m m'∧dz lo m' a' (ints (la++(X9 k (ws.drop i)).1))∧dz lo m' b' (ints (lb++(X9 k (ws.drop i)).2)):=by
 intro j
 induction j with
 | zero=>
  intro i hi k la lb m a b a2 a3 a4 a6 a8 N hm hl hlo hv hid ha hb D h1 h2 hN
  obtain⟨N,rfl⟩:∃k,N=k+1:=⟨N-1,by omega⟩
  obtain rfl:i=ws.length:=by omega
  have hlen:=hv.len
  rw [R3] at hlen
  refine⟨a,b,a3,a4,.int .i64 (k:Int),a6,a8,m,?_,Fr.refl hm,?_,?_⟩
  ·rw [G5]
   simp [Bl,C8,trD,G9,o9,l6,j3,hlen]
  ·rw [avD (D5 _)];simpa [X9] using ha
  ·rw [avD (D5 _)];simpa [X9] using hb
 | succ j ih=>
  intro i hi k la lb m a b a2 a3 a4 a6 a8 N hm hl hlo hv hid ha hb D h1 h2 hN
  obtain⟨N,rfl⟩:∃k,N=k+1:=⟨N-1,by omega⟩
  have hlt:i<ws.length:=by omega
  have hlen:=hv.len
  rw [R3] at hlen
  obtain⟨id,o,c1,_,c3⟩:=hv.at (i:=i) (by rw [R3];exact hlt)
  have hget:(strs ws)[i]'(by rw [R3];exact hlt)=.str ws[i]:=by simp [strs]
  rw [hget] at c3
  simp at c1
  have e1:decide ((i:Int)<(ws.length:Int))=true:=decide_eq_true (by omega)
  have pv:=fun {β:Type} (p:j5→β) q=>hv.pan p q
  have pa:=fun {β:Type} (p:j5→β) q=>ha.vs.pan p q
  have pb:=fun {β:Type} (p:j5→β) q=>hb.vs.pan p q
  rw [avJ hlt,X9]
  by_cases w1:ws[i]=kA
  ·rw [if_pos w1]
   obtain⟨a',b',b3,b4,k',b6,b8,m',g,r⟩:=ih (i+1) (by omega) 1 la lb m a b (.bool true) (.bool true) a4 a6 a8 N hm hl hlo hv hid ha hb D (by omega) (by omega) (by omega)
   refine⟨a',b',b3,b4,k',b6,b8,m',?_,r⟩
   have w1':ws[i]=[97]:=w1
   rw [G5,← g]
   simp [Bl,C8,trD,G9,o9,l6,j3,e1,hlt,hlen,c1,c3,pv,pa,pb,w1',U6 (i:=i) (by omega)]
  rw [if_neg w1]
  have w1':¬ ws[i]=[97]:=w1
  by_cases w2:ws[i]=kB
  ·rw [if_pos w2]
   obtain⟨a',b',b3,b4,k',b6,b8,m',g,r⟩:=ih (i+1) (by omega) 2 la lb m a b (.bool true) (.bool false) (.bool true) a6 a8 N hm hl hlo hv hid ha hb D (by omega) (by omega) (by omega)
   refine⟨a',b',b3,b4,k',b6,b8,m',?_,r⟩
   have w2':ws[i]=[98]:=w2
   rw [G5,← g]
   simp [Bl,C8,trD,G9,o9,l6,j3,e1,hlt,hlen,c1,c3,pv,pa,pb,w1',w2',U6 (i:=i) (by omega)]
  rw [if_neg w2]
  have w2':¬ ws[i]=[98]:=w2
  have c:=Rb ws[i] (hw _ (awj hlt)) n fu hfu m
  have hbs:∀z ps ls env nid,List.length z=1→J2 1 1 z ps ls env nid=ob (lay ps ls env z) fun cells=>if cells.length=1 then some (.slice nid 0 1 1,some (A9 cells)) else none:=fun z ps ls env nid h=>L9 1 z ps ls env nid h
  by_cases k1:k=1
  ·rw [if_pos k1]
   obtain⟨a2',m3,ga,F3,ha3,hb3,D3⟩:=Ho hm hl hlo ha hb D (oP ws[i]) (by omega)
   obtain⟨a',b',b3,b4,k',b6,b8,m',g,F,r1,r2⟩:=ih (i+1) (by omega) k (la ++ [oP ws[i]]) lb m3 a2' b (.bool true) (.bool false) (.bool false) (.bool true) a8 N F3.ok (by rw [F3.lim];exact hl) (avz hlo F3.next) (Vl hv F3 hid) hid ha3 hb3 D3 (by simp;omega) (by omega) (by omega)
   have pa2:=fun {β:Type} (p:j5→β) q=>ha3.vs.pan p q
   refine⟨a',b',b3,b4,k',b6,b8,m',?_,F3.trans F,by simpa using r1,r2⟩
   have k1':(k:Int)=1:=by omega
   rw [G5,← g]
   simp [Bl,C8,trD,G9,o9,l6,j3,e1,hlt,hlen,c1,c3,c,pv,pa,pb,pa2,w1',w2',k1',hbs,C9,ga,U6 (i:=i) (by omega)]
  rw [if_neg k1]
  have k1':¬ (k:Int)=1:=by omega
  by_cases k2:k=2
  ·rw [if_pos k2]
   obtain⟨b2',m3,ga,F3,hb3,ha3,D3⟩:=Ho hm hl hlo hb ha D.symm (oP ws[i]) (by omega)
   obtain⟨a',b',b3,b4,k',b6,b8,m',g,F,r1,r2⟩:=ih (i+1) (by omega) k la (lb ++ [oP ws[i]]) m3 a b2' (.bool true) (.bool false) (.bool false) (.bool false) (.bool true) N F3.ok (by rw [F3.lim];exact hl) (avz hlo F3.next) (Vl hv F3 hid) hid ha3 hb3 D3.symm (by omega) (by simp;omega) (by omega)
   have pb2:=fun {β:Type} (p:j5→β) q=>hb3.vs.pan p q
   refine⟨a',b',b3,b4,k',b6,b8,m',?_,F3.trans F,r1,by simpa using r2⟩
   have k2':(k:Int)=2:=by omega
   rw [G5,← g]
   simp [Bl,C8,trD,G9,o9,l6,j3,e1,hlt,hlen,c1,c3,c,pv,pa,pb,pb2,w1',w2',k1',k2',hbs,C9,ga,U6 (i:=i) (by omega)]
  rw [if_neg k2]
  have k2':¬ (k:Int)=2:=by omega
  obtain⟨a',b',b3,b4,k',b6,b8,m',g,r⟩:=ih (i+1) (by omega) k la lb m a b (.bool true) (.bool false) (.bool false) (.bool false) (.bool false) N hm hl hlo hv hid ha hb D (by omega) (by omega) (by omega)
  refine⟨a',b',b3,b4,k',b6,b8,m',?_,r⟩
  rw [G5,← g]
  simp [Bl,C8,trD,G9,o9,l6,j3,e1,hlt,hlen,c1,c3,pv,pa,pb,w1',w2',k1',k2',U6 (i:=i) (by omega)]
theorem abj {m:Mem}(hm:m.Ok)(hl:m.lim≤m.next){v:j5}{ws:List By}(hv:kH m v (strs ws))(hw:∀x∈ws,x.length≤100000)(hb:ws.length≤3000)(n fu:Nat)(hfu:5001≤fu):
  ∃a b m',D6 KW fu (n+2) (.func 44) [v] m=some [⟨.tuple [a,b],m'⟩]∧Ext m m'∧dz m.next m' a (ints (X9 0 ws).1)∧dz m.next m' b (ints (X9 0 ws).2):=by
 obtain⟨a,b,b3,b4,k',b6,b8,m1,g,F,h1,h2⟩:=Vp (lo:=m.next) v ws hw (by omega) n fu (by omega) ws.length 0 (by omega) 0 [] [] m .nilSlice .nilSlice .undef .undef .undef .undef .undef fu hm hl (D5 _) hv (MB hv) (dz.nil _ _) (dz.nil _ _) (Vo _) (by simp) (by simp) (by omega)
 have g':aj (fun env m k=>Bl (D6 KW fu (n+1)) fu none env m k) fu (.nd (.nd (.nd (.nd .e .nilSlice .e) .undef (.nd .e .nilSlice .e)) v (.nd (.nd .e .nilSlice .e) (.int .i64 0) .e)) (.int .i64 0) (.nd (.nd (.nd .e .undef .e) .undef .e) .undef (.nd (.nd .e .nilSlice .e) .undef .e))) m []=_:=g
 rw [awh,avT] at h1 h2
 refine⟨a,b,m1,?_,F.ext (D5 _) (D5 _),h1,h2⟩
 rw [enter (sf:=f44) rfl rfl]
 simp [f44,C8,trD,G9,o9,l6,j3,g']
theorem Vq {m:Mem}{v w:j5}{xs ys:List By}(hv:kH m v (strs xs))(hw:kH m w (strs ys))(hxy:xs.length=ys.length)(hb:xs.length≤100000)(cf:K8)(fu:Nat):∀(j i:Nat),i+j=xs.length→∀(a2 a4 a5:j5) (N:Nat),j+1≤N→
  (xs.drop i=ys.drop i∧∃(b5:j5),aj (fun env m k=>xY cf fu none env m k) N (.nd (.nd (.nd .e (.int .i64 (i:Int)) .e) w (.nd .e a5 .e)) v (.nd (.nd .e a4 .e) a2 (.nd .e (.bool false) .e))) m []=some [⟨.exit 0,(.nd (.nd (.nd .e (.int .i64 (xs.length:Int)) .e) w (.nd .e b5 .e)) v (.nd (.nd .e (.bool false) .e) a2 (.nd .e (.bool false) .e))),m,[],none⟩])∨
  (xs.drop i≠ys.drop i∧∃(b3 b4 b5:j5),aj (fun env m k=>xY cf fu none env m k) N (.nd (.nd (.nd .e (.int .i64 (i:Int)) .e) w (.nd .e a5 .e)) v (.nd (.nd .e a4 .e) a2 (.nd .e (.bool false) .e))) m []=some [⟨.ret,(.nd (.nd (.nd .e b3 .e) w (.nd .e b5 .e)) v (.nd (.nd .e b4 .e) a2 (.nd .e (.bool false) .e))),m,[],none⟩]):=by
 intro j
 induction j with
 | zero=>
  intro i hi a2 a4 a5 N hN
  obtain⟨N,rfl⟩:∃k,N=k+1:=⟨N-1,by omega⟩
  obtain rfl:i=xs.length:=by omega
  have hlen:=hv.len
  rw [R3] at hlen
  refine .inl ⟨by rw [avD (D5 _),avD (by omega)],a5,?_⟩
  rw [G5]
  simp [xY,C8,trD,G9,o9,l6,j3,hlen]
 | succ j ih=>
  intro i hi a2 a4 a5 N hN
  obtain⟨N,rfl⟩:∃k,N=k+1:=⟨N-1,by omega⟩
  have hlt:i<xs.length:=by omega
  have hlt2:i<ys.length:=by omega
  have hlen:=hv.len
  rw [R3] at hlen
  obtain⟨id,o,c1,_,c3⟩:=hv.at (i:=i) (by rw [R3];exact hlt)
  have hget:(strs xs)[i]'(by rw [R3];exact hlt)=.str xs[i]:=by simp [strs]
  rw [hget] at c3
  simp at c1
  obtain⟨id2,o2,d1,_,d3⟩:=hw.at (i:=i) (by rw [R3];exact hlt2)
  have hget2:(strs ys)[i]'(by rw [R3];exact hlt2)=.str ys[i]:=by simp [strs]
  rw [hget2] at d3
  simp at d1
  have e1:decide ((i:Int)<(xs.length:Int))=true:=decide_eq_true (by omega)
  have pv:=fun {β:Type} (p:j5→β) q=>hv.pan p q
  have pw:=fun {β:Type} (p:j5→β) q=>hw.pan p q
  rw [avJ hlt,avJ hlt2]
  by_cases hq:xs[i]=ys[i]
  ·have step:∀R:Option (List Out),aj (fun env m k=>xY cf fu none env m k) N (.nd (.nd (.nd .e (.int .i64 ((i+1:Nat):Int)) .e) w (.nd .e (.bool false) .e)) v (.nd (.nd .e (.bool true) .e) a2 (.nd .e (.bool false) .e))) m []=R→aj (fun env m k=>xY cf fu none env m k) (N+1) (.nd (.nd (.nd .e (.int .i64 (i:Int)) .e) w (.nd .e a5 .e)) v (.nd (.nd .e a4 .e) a2 (.nd .e (.bool false) .e))) m []=R:=fun R hR=>by
    rw [G5,← hR]
    simp [xY,C8,trD,G9,o9,l6,j3,e1,hlt,hlen,c1,c3,d1,d3,pv,pw,hq,U6 (i:=i) (by omega)]
   rcases ih (i+1) (by omega) a2 (.bool true) (.bool false) N (by omega) with⟨h1,b5,g⟩ | ⟨h1,b3,b4,b5,g⟩
   ·exact .inl ⟨by rw [hq,h1],b5,step _ g⟩
   ·exact .inr ⟨fun h=>h1 (by injection h),b3,b4,b5,step _ g⟩
  ·refine .inr ⟨fun h=>hq (by injection h),.int .i64 (i:Int),.bool true,.bool true,?_⟩
   rw [G5]
   simp [xY,C8,trD,G9,o9,l6,j3,e1,hlt,hlen,c1,c3,d1,d3,pv,pw,hq]
theorem abk {m:Mem}{v w:j5}{xs ys:List By}(hv:kH m v (strs xs))(hw:kH m w (strs ys))(hb:xs.length≤4000)(n fu:Nat)(hfu:5001≤fu):D6 KW fu (n+1) (.func 17) [v,w] m=some [⟨.bool (decide (xs=ys)),m⟩]:=by
 have l1:=hv.len
 have l2:=hw.len
 rw [R3] at l1 l2
 rw [enter (sf:=f17) rfl rfl]
 by_cases hxy:xs.length=ys.length
 ·rcases Vq hv hw hxy (by omega) (D6 KW fu n) fu xs.length 0 (by omega) (.bool false) .undef .undef fu (by omega) with⟨h1,b5,g⟩ | ⟨h1,b3,b4,b5,g⟩
  ·have g':aj (fun env m k=>xY (D6 KW fu n) fu none env m k) fu (.nd (.nd (.nd .e (.int .i64 0) .e) w (.nd .e .undef .e)) v (.nd (.nd .e .undef .e) (.bool false) (.nd .e (.bool false) .e))) m []=_:=g
   have h1:xs=ys:=by simpa using h1
   simp [f17,C8,trD,G9,o9,l6,j3,l1,l2,hxy,g',h1]
  ·have g':aj (fun env m k=>xY (D6 KW fu n) fu none env m k) fu (.nd (.nd (.nd .e (.int .i64 0) .e) w (.nd .e .undef .e)) v (.nd (.nd .e .undef .e) (.bool false) (.nd .e (.bool false) .e))) m []=_:=g
   have h1:¬ xs=ys:=by simpa using h1
   have hq:((xs.length:Nat):Int)=(ys.length:Int):=by omega
   simp [f17,C8,trD,G9,o9,l6,j3,l1,l2,hxy,g',h1]
 ·have h1:¬ xs=ys:=fun h=>hxy (by rw [h])
  have hq:¬ ((xs.length:Nat):Int)=(ys.length:Int):=by omega
  simp [f17,C8,trD,G9,o9,l6,j3,l1,l2,hxy,hq,h1]
theorem vH {x:OF}{ls:List j5}{env:T j5}{M:Mem}{id d:Nat}(hx:x ls env=.slice id 0 1 1)(hg:M.get id=some (A9 [.int .u8 (d:Int)])):aM x ls env M=some (.str [UInt8.ofNat d]):=by
 show vSl (x ls env) _ _ _=_
 rw [hx]
 show ob (R4 M id 0 1) _=_
 have:R4 M id 0 1=some [.int .u8 (d:Int)]:=by
  show aO (M.get id) (fun rs k rows=>M5 rs k rows 1 0)=_
  rw [hg]
  show M5 (len' [j5.int .u8 (d:Int)]) 1 (.nd .e [j5.int .u8 (d:Int)] .e) 1 0=_
  rw [Q5]
  have:=wX (n:=1) (off:=0) (rows:=.nd .e [j5.int .u8 (d:Int)] .e) (xs:=[j5.int .u8 (d:Int)]) (fun i hi=>by
   obtain rfl:i=0:=by simp at hi;omega
   rfl) (by simp) 1 0 rfl
  simpa using this
 rw [this];rfl
theorem Vr (a:Nat)(h:a<9223372036854775808):PL .i64 (a:Int) 10=some (.int .i64 ((a / 10:Nat):Int)):=by
 show some (j5.int .i64 (w64 ((a:Int).tdiv 10)))=_
 have e:(a:Int).tdiv 10=((a / 10:Nat):Int):=by rw [axP (by omega)];omega
 rw [e,aN (by omega) (by omega)]
theorem Vs (a:Nat)(h:a<9223372036854775808):PL .i64 (-(a:Int)) 10=some (.int .i64 (-((a / 10:Nat):Int))):=by
 show some (j5.int .i64 (w64 ((-(a:Int)).tdiv 10)))=_
 have e:(-(a:Int)).tdiv 10=-((a / 10:Nat):Int):=by rw [Int.neg_tdiv,axP (by omega)];omega
 rw [e,aN (by omega) (by omega)]
theorem ME (a:Nat):Jy .i64 (-(a:Int)) 10=some (.int .i64 (-((a%10:Nat):Int))):=by
 show some (j5.int .i64 ((-(a:Int)).tmod 10))=_
 have e:(-(a:Int)).tmod 10=-((a%10:Nat):Int):=by rw [Int.neg_tmod,Int.tmod_eq_emod_of_nonneg (by omega)];omega
 rw [e]
theorem Hq (d:Nat)(h:d<10):w64 (48+(d:Int))=((48+d:Nat):Int)∧jL .u8 ((48+d:Nat):Int)=((48+d:Nat):Int):=by
 refine⟨by rw [aN (by omega) (by omega)];omega,?_⟩
 show ((48+d:Nat):Int)%256=_
 omega
theorem Vt (cf:K8)(fu:Nat):∀(u:Nat),u<9223372036854775808→∀(w:By) (m:Mem) (a4:j5) (N:Nat),m.Ok→m.lim≤m.next→w.length+Lib.nDigits u≤1000→Lib.nDigits u+1≤N→
  ∃(u' a4':j5) (m':Mem),aj (fun env m k=>Oz cf fu none env m k) N (.nd (.nd (.nd .e .undef .e) (.bool false) (.nd .e (.str w) .e)) (.int .i64 (u:Int)) (.nd (.nd .e a4 .e) .undef (.nd .e (.str []) .e))) m []=some [⟨.exit 0,(.nd (.nd (.nd .e .undef .e) (.bool false) (.nd .e (.str ((if u<10 then [] else Lib.decDigits (u / 10))++w)) .e)) u' (.nd (.nd .e (.bool false) .e) .undef (.nd .e (.str []) .e))),m',[],none⟩]∧Ext m m':=by
 intro u
 induction u using Nat.strongRecOn with
 | _ u ih=>
  intro hu w m a4 N hm hl hw hN
  have hN':=hN
  have hpos:=Lib.nDigits_pos u
  obtain⟨N,rfl⟩:∃k,N=k+1:=⟨N-1,by omega⟩
  by_cases h:u<10
  ·rw [if_pos h]
   refine⟨.int .i64 (u:Int),.bool false,m,?_,Ext.refl hm⟩
   have e1:decide ((9:Int)<(u:Int))=false:=decide_eq_false (by omega)
   rw [G5]
   simp [Oz,C8,trD,G9,o9,l6,j3,e1,show ¬ (9:Int)<(u:Int) from by omega]
  ·rw [if_neg h]
   have e1:decide ((9:Int)<(u:Int))=true:=decide_eq_true (by omega)
   have c1:=Vr u hu
   have c2:=rE .i64 (u / 10) 10 (by decide)
   obtain⟨c3,c4⟩:=Hq (u / 10%10) (awr _ (by omega))
   have E2:=D8 hm [A9 [.int .u8 ((48+u / 10%10:Nat):Int)]]
   have cB:=fun x ls env hx=>vH (x:=x) (ls:=ls) (env:=env) (M:=ext m [A9 [.int .u8 ((48+u / 10%10:Nat):Int)]]) (id:=m.next) (d:=48+u / 10%10) hx (by rw [l5 hm];rfl)
   have hbs:∀z ps ls env nid,List.length z=1→J2 1 1 z ps ls env nid=ob (lay ps ls env z) fun cells=>if cells.length=1 then some (.slice nid 0 1 1,some (A9 cells)) else none:=fun z ps ls env nid h=>L9 1 z ps ls env nid h
   have s1:bG [UInt8.ofNat (48+u / 10%10)] w=some (.str (UInt8.ofNat (48+u / 10%10)::w)):=Q9 (by simp;omega)
   obtain⟨u',a4',m',g,E⟩:=ih (u / 10) (by omega) (by omega) (UInt8.ofNat (48+u / 10%10)::w) (ext m [A9 [.int .u8 ((48+u / 10%10:Nat):Int)]]) (.bool true) N E2.ok (by simp;omega) (by
    rw [Lib.nDigits_big h] at hw;simp;omega) (by rw [Lib.nDigits_big h] at hN';omega)
   refine⟨u',a4',m',?_,E2.trans E⟩
   have ed:Lib.decDigits (u / 10)++w=(if u / 10<10 then [] else Lib.decDigits (u / 10 / 10))++(UInt8.ofNat (48+u / 10%10)::w):=by
    rw [Lib.decDigits]
    split
    ·rename_i h1
     rw [awz h1];rfl
    ·simp
   rw [G5,ed,← g]
   have c2':Jy .i64 ((u / 10:Nat):Int) 10=some (.int .i64 ((u / 10%10:Nat):Int)):=c2
   generalize UInt8.ofNat (48+u / 10%10)=ch at *
   generalize u / 10%10=d at *
   generalize hq:u / 10=q at *
   have hlt9:(9:Int)<(u:Int):=by omega
   generalize ((48+d:Nat):Int)=Z at *
   simp [Oz,C8,trD,G9,o9,l6,j3,e1,hlt9,c1,c2',c3,c4,cB,hbs,C9,s1,x9]
theorem Ea {u:Nat}(h:u<10):Lib.decDigits u=[UInt8.ofNat (48+u)]:=by rw [Lib.decDigits,dif_pos h]
theorem MF {u:Nat}(h:¬ u<10):Lib.decDigits u=Lib.decDigits (u / 10) ++ [UInt8.ofNat (48+u%10)]:=by
 conv=>lhs;rw [Lib.decDigits,dif_neg h]
theorem Vu {m:Mem}(hm:m.Ok)(hl:m.lim≤m.next)(u:Nat)(hu:u<10000000000000000)(n fu:Nat)(hfu:1001≤fu):∃m',D6 KW fu (n+1) (.func 91) [.int .i64 (u:Int)] m=some [⟨.str (Lib.decDigits u),m'⟩]∧Ext m m':=by
 have hp:(10:Nat)^16=10000000000000000:=by decide
 have hn:=iA 15 u (by rw [hp];exact hu)
 have c2:=rE .i64 u 10 (by decide)
 obtain⟨c3,c4⟩:=Hq (u%10) (awr _ (by omega))
 have E2:=D8 hm [A9 [.int .u8 ((48+u%10:Nat):Int)]]
 have cB:=fun x ls env hx=>vH (x:=x) (ls:=ls) (env:=env) (M:=ext m [A9 [.int .u8 ((48+u%10:Nat):Int)]]) (id:=m.next) (d:=48+u%10) hx (by rw [l5 hm];rfl)
 have hbs:∀z ps ls env nid,List.length z=1→J2 1 1 z ps ls env nid=ob (lay ps ls env z) fun cells=>if cells.length=1 then some (.slice nid 0 1 1,some (A9 cells)) else none:=fun z ps ls env nid h=>L9 1 z ps ls env nid h
 obtain⟨u',a4',m',g,E⟩:=Vt (D6 KW fu n) fu u (by omega) [UInt8.ofNat (48+u%10)] (ext m [A9 [.int .u8 ((48+u%10:Nat):Int)]]) .undef fu E2.ok (by simp;omega) (by simp;omega) (by omega)
 refine⟨m',?_,E2.trans E⟩
 have ed:Lib.decDigits u=(if u<10 then [] else Lib.decDigits (u / 10)) ++ [UInt8.ofNat (48+u%10)]:=by
  by_cases h:u<10
  ·rw [if_pos h,Ea h,awz h];rfl
  ·rw [if_neg h,MF h]
 rw [ed]
 have h0:¬ (u:Int)<0:=by omega
 have c2':Jy .i64 (u:Int) 10=some (.int .i64 ((u%10:Nat):Int)):=c2
 generalize UInt8.ofNat (48+u%10)=ch at *
 generalize u%10=d at *
 generalize ((48+d:Nat):Int)=Z at *
 rw [enter (sf:=f91) rfl rfl]
 simp [f91,C8,trD,G9,o9,l6,j3,h0,c2',c3,c4,cB,hbs,C9,x9,g]
theorem Vv (fu:Nat)(hfu:1001≤fu):∀(k u:Nat),0<u→u<10^(k+1)→u<10000000000000000→∀(n:Nat) (m:Mem),m.Ok→m.lim≤m.next→∃m',D6 KW fu (n+k+1) (.func 91) [.int .i64 (-(u:Int))] m=some [⟨.str (45::Lib.decDigits u),m'⟩]∧Ext m m':=by
 intro k
 induction k with
 | zero=>
  intro u h0 h1 h2 n m hm hl
  have hu:u<10:=by simpa using h1
  obtain⟨c3,c4⟩:=Hq u hu
  have E2:=D8 hm [A9 [.int .u8 ((48+u:Nat):Int)]]
  have cB:=fun x ls env hx=>vH (x:=x) (ls:=ls) (env:=env) (M:=ext m [A9 [.int .u8 ((48+u:Nat):Int)]]) (id:=m.next) (d:=48+u) hx (by rw [l5 hm];rfl)
  have cr:=ME u
  rw [awz hu] at cr
  have cs:w64 (0 - -(u:Int))=(u:Int):=by rw [aN (by omega) (by omega)];omega
  have cs2:w64 (u:Int)=(u:Int):=aN (by omega) (by omega)
  have n0:-(u:Int)<0:=by omega
  have n10:-10 < -(u:Int):=by omega
  have n10':(u:Int)<10:=by omega
  have p0:0<u:=h0
  have s1:bG [45] [UInt8.ofNat (48+u)]=some (.str [45,UInt8.ofNat (48+u)]):=Q9 (by simp)
  have hbs:∀z ps ls env nid,List.length z=1→J2 1 1 z ps ls env nid=ob (lay ps ls env z) fun cells=>if cells.length=1 then some (.slice nid 0 1 1,some (A9 cells)) else none:=fun z ps ls env nid h=>L9 1 z ps ls env nid h
  refine⟨_,?_,E2⟩
  rw [Ea hu]
  generalize UInt8.ofNat (48+u)=ch at *
  generalize ((48+u:Nat):Int)=Z at *
  rw [enter (sf:=f91) rfl rfl]
  simp [f91,C8,trD,G9,o9,l6,j3,cr,cs,cs2,n0,n10,n10',p0,c3,c4,cB,hbs,C9,x9,s1]
 | succ k ih=>
  intro u h0 h1 h2 n m hm hl
  by_cases hu:u<10
  ·have h3:u<10^(k+1):=avu hu (by
    have:=aw3 (n:=10) (by decide) (show 1≤k+1 by omega)
    simpa using this)
   have:=ih u h0 h3 h2 (n+1) m hm hl
   rwa [show n+1+k+1=n+(k+1)+1 from by omega] at this
  ·have E1:=D8 hm [.void]
   obtain⟨m1,g1,E1'⟩:=ih (u / 10) (by omega) (by rw [aw1] at h1;omega) (by omega) n (ext m [.void]) E1.ok (by simp;omega)
   have v0:(ext m [.void]).get m.next=some .void:=by rw [l5 hm];rfl
   have v1:m1.get m.next=some .void:=by rw [E1'.old _ (by simp)];exact v0
   have hx:m.next<m1.next:=by have:=E1'.next;simp at this;omega
   obtain⟨c3,c4⟩:=Hq (u%10) (awr _ (by omega))
   have gB:(m1.set m.next (A9 [.int .u8 ((48+u%10:Nat):Int)])).get m.next=some (A9 [.int .u8 ((48+u%10:Nat):Int)]):=by rw [Mem.ay E1'.ok hx,if_pos rfl]
   have cB:=fun x ls env hx=>vH (x:=x) (ls:=ls) (env:=env) (M:=m1.set m.next (A9 [.int .u8 ((48+u%10:Nat):Int)])) (id:=m.next) (d:=48+u%10) hx gB
   have hB:∀(x:OF) (c:Nat) (d:j5→T j5→T j5) (k:DC) (cf:K8) (b:Nat) (ls:List j5) (env:T j5),x ls env=.slice m.next 0 1 1→Yp x c d k cf b ls env (m1.set m.next (A9 [.int .u8 ((48+u%10:Nat):Int)])) [m1,ext m [.void]]=ob (aM x ls env (m1.set m.next (A9 [.int .u8 ((48+u%10:Nat):Int)]))) fun v=>k cf b (v::ls) (d v env) (m1.set m.next (A9 [.int .u8 ((48+u%10:Nat):Int)])) [m1,ext m [.void]]:=fun x c d k cf b ls env h=>Ld h (by rw [SY,v1];rfl) (by rw [gB];rfl)
   have cr:=ME u
   have cq:=Vs u (by omega)
   have cs:w64 (0 - -((u%10:Nat):Int))=((u%10:Nat):Int):=by rw [aN (by omega) (by omega)];omega
   have cs2:w64 ((u%10:Nat):Int)=((u%10:Nat):Int):=aN (by omega) (by omega)
   have n0:-(u:Int)<0:=by omega
   have n10:¬ -10 < -(u:Int):=by omega
   have n10':¬ (u:Int)<10:=by omega
   have hnd:=iA 15 (u / 10) (by have hp:(10:Nat)^16=10000000000000000:=by decide
                                rw [hp];omega)
   have s1:bG (45::Lib.decDigits (u / 10)) [UInt8.ofNat (48+u%10)]=some (.str (45::Lib.decDigits u)):=by
    rw [Q9 (by simp [Lib.decDigits_length];omega),MF hu];rfl
   have hbs:∀z ps ls env nid,List.length z=1→J2 1 1 z ps ls env nid=ob (lay ps ls env z) fun cells=>if cells.length=1 then some (.slice nid 0 1 1,some (A9 cells)) else none:=fun z ps ls env nid h=>L9 1 z ps ls env nid h
   refine⟨m1.set m.next (A9 [.int .u8 ((48+u%10:Nat):Int)]),?_,⟨Mem.Ok.set E1'.ok hx _,by simp;omega,by show m1.lim=_;rw [E1'.lim];exact E1.lim,fun i hi=>by rw [Mem.ay E1'.ok hx,if_neg (by omega),E1'.old i (by simp;omega)];exact E1.old i hi⟩⟩
   rw [show n+(k+1)+1=(n+k+1)+1 from by omega,enter (sf:=f91) rfl rfl]
   generalize UInt8.ofNat (48+u%10)=ch at *
   generalize u%10=d at *
   generalize ((48+d:Nat):Int)=Z at *
   generalize hq:u / 10=q at *
   simp [f91,C8,trD,G9,o9,l6,j3,cr,cq,cs,cs2,n0,n10,n10',h0,c3,c4,hB,cB,hbs,C9,x9,z8,s1,g1,v0,v1,isVoid,dI]
theorem abl {m:Mem}(hm:m.Ok)(hl:m.lim≤m.next)(x:Int)(hx:Sm x)(n fu:Nat)(hfu:1001≤fu):∃m',D6 KW fu (n+16) (.func 91) [.int .i64 x] m=some [⟨.str (Lib.itoa x),m'⟩]∧Ext m m':=by
 unfold Sm at hx
 by_cases h:x<0
 ·obtain⟨u,rfl⟩:∃u:Nat,x=-(u:Int):=⟨x.natAbs,by omega⟩
  have hp:(10:Nat)^16=10000000000000000:=by decide
  obtain⟨m',g,E⟩:=Vv fu hfu 15 u (by omega) (by rw [hp];omega) (by omega) n m hm hl
  refine⟨m',?_,E⟩
  rw [g,Lib.itoa,if_pos h]
  simp
 ·obtain⟨u,rfl⟩:∃u:Nat,x=(u:Int):=⟨x.toNat,by omega⟩
  obtain⟨m',g,E⟩:=Vu hm hl u (by omega) (n+15) fu hfu
  refine⟨m',?_,E⟩
  rw [g,Lib.itoa,if_neg h]
  simp
theorem MG (w:By)(a b:List Int):J3 w (a++b)=J3 w a++J3 [] b:=by simp [J3]
theorem Vw {v:j5}{xs:List Int}(hb:xs.length<1000)(hx:∀n∈xs,Sm n)(w:By)(hw:w.length≤100000)(n fu:Nat)(hfu:1001≤fu):∀(j i:Nat),i+j=xs.length→∀(m:Mem) (a3:j5) (N:Nat),m.Ok→m.lim≤m.next→bW m v xs→j+1≤N→
  ∃m',aj (fun env m k=>Lm (D6 KW fu (n+16)) fu none env m k) N (.nd (.nd (.nd .e a3 .e) (.int .i64 (i:Int)) (.nd .e (.str []) .e)) (.str w) (.nd (.nd .e (.str (J3 w (xs.take i))) .e) v .e)) m []=some [⟨.exit 0,(.nd (.nd (.nd .e (.bool false) .e) (.int .i64 (xs.length:Int)) (.nd .e (.str []) .e)) (.str w) (.nd (.nd .e (.str (J3 w xs)) .e) v .e)),m',[],none⟩]∧Ext m m':=by
 intro j
 induction j with
 | zero=>
  intro i hi m a3 N hm hl hv hN
  obtain⟨N,rfl⟩:∃k,N=k+1:=⟨N-1,by omega⟩
  obtain rfl:i=xs.length:=by omega
  have hlen:=hv.len
  refine⟨m,?_,Ext.refl hm⟩
  rw [G5,avQ (D5 _)]
  simp [Lm,C8,trD,G9,o9,l6,j3,hlen]
 | succ j ih=>
  intro i hi m a3 N hm hl hv hN
  obtain⟨N,rfl⟩:∃k,N=k+1:=⟨N-1,by omega⟩
  have hlt:i<xs.length:=by omega
  obtain⟨id,a1,_,a2⟩:=hv.at hlt
  have hlen:=hv.len
  have hs:=hx _ (awj hlt)
  obtain⟨m1,c,E1⟩:=abl hm hl xs[i] hs n fu hfu
  have hl1:=U8 w (xs.take i) (fun y hy=>hx y (awu hy))
  have hl2:=BD hs
  have hl3:(xs.take i).length≤1000:=by simp;omega
  have s1:bG (J3 w (xs.take i)) [32]=some (.str (J3 w (xs.take i) ++ [32])):=Q9 (by simp;omega)
  have s2:bG (J3 w (xs.take i) ++ [32]) (Lib.itoa xs[i])=some (.str (J3 w (xs.take (i+1)))):=by
   rw [Aa hlt,Q9 (by simp;omega)];simp
  have e1:decide ((i:Int)<(xs.length:Int))=true:=decide_eq_true (by omega)
  obtain⟨m',g,E⟩:=ih (i+1) (by omega) m1 (.bool true) N E1.ok (by rw [E1.lim];have:=E1.next;omega) (hv.ext E1) (by omega)
  refine⟨m',?_,E1.trans E⟩
  rw [G5,← g]
  simp [Lm,C8,trD,G9,o9,l6,j3,e1,hlt,hlen,a1,a2,c,s1,s2,U6 (i:=i) (by omega)]
theorem nQ {m:Mem}{v:j5}{xs:List Int}(hm:m.Ok)(hl:m.lim≤m.next)(hv:bW m v xs)(hb:xs.length<1000)(hx:∀n∈xs,Sm n)(w:By)(hw:w.length≤100000)(n fu:Nat)(hfu:1001≤fu):∃m',D6 KW fu (n+17) (.func 49) [.str w,v] m=some [⟨.str (J3 w xs),m'⟩]∧Ext m m':=by
 obtain⟨m',g,E⟩:=Vw (v:=v) hb hx w hw n fu hfu xs.length 0 (by omega) m .undef fu hm hl hv (by omega)
 have e0:J3 w (xs.take 0)=w:=by rw [axh,xk]
 rw [e0] at g
 have g':aj (fun env m k=>Lm (D6 KW fu (n+16)) fu none env m k) fu (.nd (.nd (.nd .e .undef .e) (.int .i64 0) (.nd .e (.str []) .e)) (.str w) (.nd (.nd .e (.str w) .e) v .e)) m []=_:=g
 refine⟨m',?_,E⟩
 rw [enter (sf:=f49) rfl rfl]
 simp [f49,C8,trD,G9,o9,l6,j3,g']
structure TxH (m:Mem)(r:FR)(n fu:Nat)(m1:Mem):Prop where
 g:D6 KW fu (n+17) (.func 49) [.str [102,97,99,116],.slice (m.next+1) 0 4 4] (ext m [A9 r.f.cells,.cells 1 4 (T.ofList [[.int .i64 r.f.room],[.int .i64 r.f.no],[.int .i64 r.f.known],[.int .i64 r.f.kind]])])=some [⟨.str (J3 O4 (J7 r)),m1⟩]
 E:Ext m m1
 q:m1.get m.next=some (A9 r.f.cells)
 nx:m.next+2≤m1.next
 s1:bG (J3 O4 (J7 r)) [10]=some (.str (J3 O4 (J7 r) ++ [10]))
 s2:bG (J3 O4 (J7 r) ++ [10]) (U7 r)=some (.str (J3 O4 (J7 r)++10::U7 r))
 s3:bG (J3 O4 (J7 r)++10::U7 r) [10]=some (.str (N9 r))
theorem txh {m:Mem}{r:FR}(hm:m.Ok)(hl:m.lim≤m.next)(hv:r.valid=true)(n fu:Nat)(hfu:1001≤fu):∃m1,TxH m r n fu m1:=by
 let L:List Blk:=[A9 r.f.cells,.cells 1 4 (T.ofList [[.int .i64 r.f.room],[.int .i64 r.f.no],[.int .i64 r.f.known],[.int .i64 r.f.kind]])]
 have E0:=D8 hm L
 obtain⟨m1,g,E1⟩:=nQ (v:=.slice (m.next+1) 0 4 4) (xs:=J7 r) (J4 hm L) (by simp [L];omega) (dO (xs:=J7 r) (by rw [l8 hm];rfl) (by simp [L]) rfl) (by simp [J7]) (jI hv) O4 (by simp [O4]) n fu hfu
 have l1:=eH hv
 have l2:=gI hv
 refine⟨m1,g,E0.trans E1,by rw [E1.old _ (by simp [L]),l5 hm];rfl,by have:=E1.next;simpa [L] using this,Q9 (by simp;omega),?_,?_⟩
 ·rw [Q9 (by simp;omega)];simp
 ·rw [Q9 (by simp;omega)];simp [N9]
theorem akY {m:Mem}{r:FR}(hm:m.Ok)(hl:m.lim≤m.next)(hr:eu m r)(hv:r.valid=true)(hk:r.f.kind=1)(n fu:Nat)(hfu:1001≤fu):
  ∃m',D6 KW fu (n+18) (.func 15) [.agg r.f.cells] m=some [⟨.str (N9 r),m'⟩]∧Ext m m':=by
 obtain⟨m1,h⟩:=txh hm hl hv n fu hfu
 have hb:=dh hv
 have eb:U7 r=J3 qx [r.f.flo,r.f.fhi]:=by rw [U7,if_pos hk]
 have lim1:m1.lim≤m1.next:=by rw [h.E.lim];have:=h.E.next;omega
 have E2:=D8 h.E.ok [.cells 1 2 (T.ofList [[.int .i64 r.f.flo],[.int .i64 r.f.fhi]])]
 obtain⟨m2,g2,E3⟩:=nQ (v:=.slice m1.next 0 2 2) (xs:=[r.f.flo,r.f.fhi]) E2.ok (by rw [E2.lim];have:=E2.next;omega) (dO (xs:=[r.f.flo,r.f.fhi]) (by rw [l5 h.E.ok];rfl) (by simp) rfl) (by simp) (by simpa using hb.k1 hk) qx (by simp [qx]) n fu hfu
 have g2:D6 KW fu (n+17) (.func 49) [.str [102,105,108,109],.slice m1.next 0 2 2] _=_:=g2
 rw [← eb] at g2
 refine⟨m2,?_,(h.E.trans E2).trans E3⟩
 obtain⟨g,_,q,nx,s1,s2,s3⟩:=h
 have q':∀bs,(ext m1 bs).get m.next=some (A9 r.f.cells):=fun bs=>by rw [G6 ‹Ext m m1›.ok _ (by omega)];exact q
 rw [hk] at g
 have hm1:=‹Ext m m1›.ok
 rw [enter (sf:=f15) rfl rfl]
 simp (maxSteps:=3000000) [f15,C8,trD,G9,o9,l6,j3,x9,z8,O6 hm hl,C9,j6,o7,o8,J5,O6 hm1 lim1,M4,U4,U3,hk,g,q,q',s1,s2,s3,g2]
theorem akZ {m:Mem}{r:FR}(hm:m.Ok)(hl:m.lim≤m.next)(hr:eu m r)(hv:r.valid=true)(hk:r.f.kind=2)(n fu:Nat)(hfu:1001≤fu):
  ∃m',D6 KW fu (n+18) (.func 15) [.agg r.f.cells] m=some [⟨.str (N9 r),m'⟩]∧Ext m m':=by
 obtain⟨m1,h⟩:=txh hm hl hv n fu hfu
 have hb:=dh hv
 have eb:U7 r=J3 jH [r.f.gid,r.f.made,r.f.nom,r.f.tlo,r.f.thi,r.f.gn,r.f.gd,r.f.wear]:=by rw [U7,if_neg (show ¬ r.f.kind=1 by omega),if_pos hk]
 have lim1:m1.lim≤m1.next:=by rw [h.E.lim];have:=h.E.next;omega
 have E2:=D8 h.E.ok [A9 [.int .i64 r.f.gid,.int .i64 r.f.made,.int .i64 r.f.nom,.int .i64 r.f.tlo,.int .i64 r.f.thi,.int .i64 r.f.gn,.int .i64 r.f.gd,.int .i64 r.f.wear],.cells 1 8 (T.ofList [[.int .i64 r.f.gid],[.int .i64 r.f.made],[.int .i64 r.f.nom],[.int .i64 r.f.tlo],[.int .i64 r.f.thi],[.int .i64 r.f.gn],[.int .i64 r.f.gd],[.int .i64 r.f.wear]])]
 obtain⟨m2,g2,E3⟩:=nQ (v:=.slice (m1.next+1) 0 8 8) (xs:=[r.f.gid,r.f.made,r.f.nom,r.f.tlo,r.f.thi,r.f.gn,r.f.gd,r.f.wear]) E2.ok (by rw [E2.lim];have:=E2.next;omega) (dO (xs:=[r.f.gid,r.f.made,r.f.nom,r.f.tlo,r.f.thi,r.f.gn,r.f.gd,r.f.wear]) (by rw [l8 h.E.ok];rfl) (by simp) rfl) (by simp) (by simpa using hb.k2 hk) jH (by simp [jH]) n fu hfu
 have g2:D6 KW fu (n+17) (.func 49) [.str [103,97,117,103,101],.slice (m1.next+1) 0 8 8] _=_:=g2
 rw [← eb] at g2
 refine⟨m2,?_,(h.E.trans E2).trans E3⟩
 obtain⟨g,_,q,nx,s1,s2,s3⟩:=h
 have q':∀bs,(ext m1 bs).get m.next=some (A9 r.f.cells):=fun bs=>by rw [G6 ‹Ext m m1›.ok _ (by omega)];exact q
 rw [hk] at g
 have hm1:=‹Ext m m1›.ok
 rw [enter (sf:=f15) rfl rfl]
 simp (maxSteps:=3000000) [f15,C8,trD,G9,o9,l6,j3,x9,z8,O6 hm hl,C9,j6,o7,o8,J5,O6 hm1 lim1,M4,U4,U3,hk,g,q,q',s1,s2,s3,g2,Fct.gau,-DN]
theorem al0 {m:Mem}{r:FR}(hm:m.Ok)(hl:m.lim≤m.next)(hr:eu m r)(hv:r.valid=true)(hk:r.f.kind=3)(n fu:Nat)(hfu:1001≤fu):
  ∃m',D6 KW fu (n+18) (.func 15) [.agg r.f.cells] m=some [⟨.str (N9 r),m'⟩]∧Ext m m':=by
 obtain⟨m1,h⟩:=txh hm hl hv n fu hfu
 have hb:=dh hv
 have eb:U7 r=J3 FH [r.f.ug,r.f.ud]:=by rw [U7,if_neg (show ¬ r.f.kind=1 by omega),if_neg (show ¬ r.f.kind=2 by omega),if_pos hk]
 have lim1:m1.lim≤m1.next:=by rw [h.E.lim];have:=h.E.next;omega
 have E2:=D8 h.E.ok [.cells 1 2 (T.ofList [[.int .i64 r.f.ug],[.int .i64 r.f.ud]])]
 obtain⟨m2,g2,E3⟩:=nQ (v:=.slice m1.next 0 2 2) (xs:=[r.f.ug,r.f.ud]) E2.ok (by rw [E2.lim];have:=E2.next;omega) (dO (xs:=[r.f.ug,r.f.ud]) (by rw [l5 h.E.ok];rfl) (by simp) rfl) (by simp) (by simpa using hb.k3 hk) FH (by simp [FH]) n fu hfu
 have g2:D6 KW fu (n+17) (.func 49) [.str [117,115,101],.slice m1.next 0 2 2] _=_:=g2
 rw [← eb] at g2
 refine⟨m2,?_,(h.E.trans E2).trans E3⟩
 obtain⟨g,_,q,nx,s1,s2,s3⟩:=h
 have q':∀bs,(ext m1 bs).get m.next=some (A9 r.f.cells):=fun bs=>by rw [G6 ‹Ext m m1›.ok _ (by omega)];exact q
 rw [hk] at g
 have hm1:=‹Ext m m1›.ok
 rw [enter (sf:=f15) rfl rfl]
 simp (maxSteps:=3000000) [f15,C8,trD,G9,o9,l6,j3,x9,z8,O6 hm hl,C9,j6,o7,o8,J5,O6 hm1 lim1,M4,U4,U3,hk,g,q,q',s1,s2,s3,g2]
theorem al1 {m:Mem}{r:FR}(hm:m.Ok)(hl:m.lim≤m.next)(hr:eu m r)(hv:r.valid=true)(hk:r.f.kind=4)(n fu:Nat)(hfu:1001≤fu):
  ∃m',D6 KW fu (n+18) (.func 15) [.agg r.f.cells] m=some [⟨.str (N9 r),m'⟩]∧Ext m m':=by
 obtain⟨m1,h⟩:=txh hm hl hv n fu hfu
 have hb:=dh hv
 have eb:U7 r=J3 qy [r.f.lg,r.f.ll,r.f.lh,r.f.lw]:=by rw [U7,if_neg (show ¬ r.f.kind=1 by omega),if_neg (show ¬ r.f.kind=2 by omega),if_neg (show ¬ r.f.kind=3 by omega),if_pos hk]
 have lim1:m1.lim≤m1.next:=by rw [h.E.lim];have:=h.E.next;omega
 have E2:=D8 h.E.ok [.cells 1 4 (T.ofList [[.int .i64 r.f.lg],[.int .i64 r.f.ll],[.int .i64 r.f.lh],[.int .i64 r.f.lw]])]
 obtain⟨m2,g2,E3⟩:=nQ (v:=.slice m1.next 0 4 4) (xs:=[r.f.lg,r.f.ll,r.f.lh,r.f.lw]) E2.ok (by rw [E2.lim];have:=E2.next;omega) (dO (xs:=[r.f.lg,r.f.ll,r.f.lh,r.f.lw]) (by rw [l5 h.E.ok];rfl) (by simp) rfl) (by simp) (by simpa using hb.k4 hk) qy (by simp [qy]) n fu hfu
 have g2:D6 KW fu (n+17) (.func 49) [.str [108,111,97,110],.slice m1.next 0 4 4] _=_:=g2
 rw [← eb] at g2
 refine⟨m2,?_,(h.E.trans E2).trans E3⟩
 obtain⟨g,_,q,nx,s1,s2,s3⟩:=h
 have q':∀bs,(ext m1 bs).get m.next=some (A9 r.f.cells):=fun bs=>by rw [G6 ‹Ext m m1›.ok _ (by omega)];exact q
 rw [hk] at g
 have hm1:=‹Ext m m1›.ok
 rw [enter (sf:=f15) rfl rfl]
 simp (maxSteps:=3000000) [f15,C8,trD,G9,o9,l6,j3,x9,z8,O6 hm hl,C9,j6,o7,o8,J5,O6 hm1 lim1,M4,U4,U3,hk,g,q,q',s1,s2,s3,g2]
theorem al2 {m:Mem}{r:FR}(hm:m.Ok)(hl:m.lim≤m.next)(hr:eu m r)(hv:r.valid=true)(hk:r.f.kind=7)(n fu:Nat)(hfu:1001≤fu):
  ∃m',D6 KW fu (n+18) (.func 15) [.agg r.f.cells] m=some [⟨.str (N9 r),m'⟩]∧Ext m m':=by
 obtain⟨m1,h⟩:=txh hm hl hv n fu hfu
 have hb:=dh hv
 have eb:U7 r=J3 aU [r.f.tr,r.f.tn]:=by rw [U7,if_neg (show ¬ r.f.kind=1 by omega),if_neg (show ¬ r.f.kind=2 by omega),if_neg (show ¬ r.f.kind=3 by omega),if_neg (show ¬ r.f.kind=4 by omega),if_neg (show ¬ r.f.kind=5 by omega),if_neg (show ¬ r.f.kind=6 by omega),if_pos hk]
 have lim1:m1.lim≤m1.next:=by rw [h.E.lim];have:=h.E.next;omega
 have E2:=D8 h.E.ok [.cells 1 2 (T.ofList [[.int .i64 r.f.tr],[.int .i64 r.f.tn]])]
 obtain⟨m2,g2,E3⟩:=nQ (v:=.slice m1.next 0 2 2) (xs:=[r.f.tr,r.f.tn]) E2.ok (by rw [E2.lim];have:=E2.next;omega) (dO (xs:=[r.f.tr,r.f.tn]) (by rw [l5 h.E.ok];rfl) (by simp) rfl) (by simp) (by simpa using hb.k7 hk) aU (by simp [aU]) n fu hfu
 have g2:D6 KW fu (n+17) (.func 49) [.str [119,105,116,104,100,114,97,119],.slice m1.next 0 2 2] _=_:=g2
 rw [← eb] at g2
 refine⟨m2,?_,(h.E.trans E2).trans E3⟩
 obtain⟨g,_,q,nx,s1,s2,s3⟩:=h
 have q':∀bs,(ext m1 bs).get m.next=some (A9 r.f.cells):=fun bs=>by rw [G6 ‹Ext m m1›.ok _ (by omega)];exact q
 rw [hk] at g
 have hm1:=‹Ext m m1›.ok
 rw [enter (sf:=f15) rfl rfl]
 simp (maxSteps:=3000000) [f15,C8,trD,G9,o9,l6,j3,x9,z8,O6 hm hl,C9,j6,o7,o8,J5,O6 hm1 lim1,M4,U4,U3,hk,g,q,q',s1,s2,s3,g2]
theorem Pt {m:Mem}{v:j5}{xs:List Int}(h:bW m v xs):AM.lenOf v=some (ints xs).length:=by
 have e:(ints xs).length=xs.length:=by simp [ints]
 rw [e]
 rcases h with⟨rfl,rfl⟩ | ⟨id,⟨c,rfl⟩ | ⟨c,rfl⟩,_⟩<;>rfl
theorem Vx {m:Mem}{v:j5}{xs:List Int}(h:bW m v xs):ah m 1 (ints xs).length v=some (ints xs):=by
 have e:(ints xs).length=xs.length:=by simp [ints]
 rw [e];exact h.read
theorem abm {lo bytes:Nat}{m:Mem}{v x:j5}{l xs:List j5}(hm:m.Ok)(hlim:m.lim≤lo)(hlo:lo≤m.next)(h:dz lo m v l)(hxl:AM.lenOf x=some xs.length)(hxr:ah m 1 xs.length x=some xs)(h1:O7 xs=true)(hb:l.length+xs.length≤100000)(hby:1≤bytes∧bytes≤1000):
  ∃v' m',(∀(s y:OF) (cf:K8) (ls:List j5) (env:T j5),s ls env=v→y ls env=x→lC 1 bytes s y cf ls env m=some [⟨v',m'⟩])∧dz lo m' v' (l++xs)∧Fr lo lo m m':=by
 obtain⟨v',m',g1,g2,g3⟩:=La hm hlim hlo h h1 hb hby
 refine⟨v',m',fun s y cf ls env hs hy=>?_,g2,g3⟩
 show ob (AM.lenOf (y ls env)) (fun n=>ob (ah m 1 n (y ls env)) fun new=>pR m 1 bytes n new (s ls env))=_
 rw [hy,hs,hxl,O0,hxr,O0,g1]
theorem al3 {m:Mem}{r:FR}(hm:m.Ok)(hl:m.lim≤m.next)(hr:eu m r)(hv:r.valid=true)(hk:r.f.kind=6)(n fu:Nat)(hfu:1001≤fu):
  ∃m',D6 KW fu (n+18) (.func 15) [.agg r.f.cells] m=some [⟨.str (N9 r),m'⟩]∧Ext m m':=by
 obtain⟨m1,h⟩:=txh hm hl hv n fu hfu
 obtain⟨b1,b2,b3⟩:=(dh hv).k6 hk
 have eb:U7 r=J3 zY (r.f.mday::r.l):=by
  rw [U7,if_neg (show ¬ r.f.kind=1 by omega),if_neg (show ¬ r.f.kind=2 by omega),if_neg (show ¬ r.f.kind=3 by omega),if_neg (show ¬ r.f.kind=4 by omega),if_neg (show ¬ r.f.kind=5 by omega),if_pos hk]
  exact (MG zY [r.f.mday] r.l).symm
 obtain⟨g,hE,q,nx,s1,s2,s3⟩:=h
 have hm1:=hE.ok
 have lim1:m1.lim≤m1.next:=by rw [hE.lim];have:=hE.next;omega
 have E2:=D8 hm1 [A9 [.int .i64 r.f.mday]]
 have hr2:=(hr.ext hE).ext E2
 have hil:(ints r.l).length=r.l.length:=by simp [ints]
 obtain⟨v',m2,ga,ho,F2⟩:=abm (bytes:=8) (lo:=m1.next) E2.ok (by rw [E2.lim];exact lim1) E2.next (FU hm1 (D5 _) (.int .i64 r.f.mday) rfl) (Pt hr2.l) (Vx hr2.l) (GI _) (by rw [hil];simp;omega) ⟨by omega,by omega⟩
 have E3:Ext m1 m2:=(E2.fr (p:=m1.next) (D5 _) |>.trans F2).ext (D5 _) (D5 _)
 have ho':dz m1.next m2 v' (ints (r.f.mday::r.l)):=ho
 obtain⟨m3,g2,E4⟩:=nQ (v:=v') (xs:=r.f.mday::r.l) E3.ok (by rw [E3.lim];have:=E3.next;omega) ho'.sl (by simp;omega) (fun y hy=>by
  rcases avL.1 hy with rfl | hy
  ·exact b1
  ·exact b2 y hy) zY (by simp [zY]) n fu hfu
 have g2:D6 KW fu (n+17) (.func 49) [.str [109,105,120],v'] m2=_:=g2
 rw [← eb] at g2
 refine⟨m3,?_,(hE.trans E3).trans E4⟩
 have q':∀bs,(ext m1 bs).get m.next=some (A9 r.f.cells):=fun bs=>by rw [G6 hm1 _ (by omega)];exact q
 rw [hk] at g
 have po:=fun {β:Type} (p:j5→β) q=>ho.vs.pan p q
 have pl:=fun {β:Type} (p:j5→β) q=>hr.l.pan p q
 have hbs:∀z ps ls env nid,List.length z=1→J2 1 1 z ps ls env nid=ob (lay ps ls env z) fun cells=>if cells.length=1 then some (.slice nid 0 1 1,some (A9 cells)) else none:=fun z ps ls env nid h=>L9 1 z ps ls env nid h
 have ga':∀(s y:OF) (cf:K8) (ls:List j5) (env:T j5),s ls env=.slice m1.next 0 1 1→y ls env=r.f.L→lC 1 8 s y cf ls env (ext m1 [A9 [.int .i64 r.f.mday]])=some [⟨v',m2⟩]:=ga
 rw [enter (sf:=f15) rfl rfl]
 simp (maxSteps:=3000000) [f15,C8,trD,G9,o9,l6,j3,x9,z8,O6 hm hl,C9,j6,o7,o8,J5,O6 hm1 lim1,M4,hbs,U4,U3,hk,g,q,q',s1,s2,s3,ga',po,pl,g2]
theorem al4 {m:Mem}{r:FR}(hm:m.Ok)(hl:m.lim≤m.next)(hr:eu m r)(hv:r.valid=true)(hk:r.f.kind=5)(n fu:Nat)(hfu:1001≤fu):
  ∃m',D6 KW fu (n+18) (.func 15) [.agg r.f.cells] m=some [⟨.str (N9 r),m'⟩]∧Ext m m':=by
 obtain⟨m1,h⟩:=txh hm hl hv n fu hfu
 obtain⟨b1,b2,b3,b4,b5⟩:=(dh hv).k5 hk
 have b1':∀y∈[r.f.cday,r.f.diff,r.f.err,r.f.hlo,r.f.hhi],Sm y:=by simpa using b1
 obtain⟨g,hE,q,nx,s1,_,s3⟩:=h
 have hm1:=hE.ok
 have lim1:m1.lim≤m1.next:=by rw [hE.lim];have:=hE.next;omega
 let c5:Blk:=.cells 1 5 (T.ofList [[.int .i64 r.f.cday],[.int .i64 r.f.diff],[.int .i64 r.f.err],[.int .i64 r.f.hlo],[.int .i64 r.f.hhi]])
 have E1:=D8 hm1 [A9 r.f.cmp,c5]
 have hr1:=(hr.ext hE).ext E1
 obtain⟨m2,g2,E2⟩:=nQ (v:=.slice (m1.next+1) 0 5 5) (xs:=[r.f.cday,r.f.diff,r.f.err,r.f.hlo,r.f.hhi]) E1.ok (by rw [E1.lim];have:=E1.next;omega) (dO (by rw [l8 hm1];rfl) (by simp) rfl) (by simp) b1' P5 (by simp [P5]) n fu hfu
 have g2:D6 KW fu (n+17) (.func 49) [.str [99,111,109,112,97,114,101],.slice (m1.next+1) 0 5 5] (ext m1 [A9 r.f.cmp,c5])=_:=g2
 have lim2:m2.lim≤m2.next:=by rw [E2.lim,E1.lim];have:=E1.next;have:=E2.next;omega
 have hr2:=hr1.ext E2
 obtain⟨m3,g3,E3⟩:=nQ E2.ok lim2 hr2.a (by omega) b2 (32::kA) (by simp [kA]) n fu hfu
 have g3:D6 KW fu (n+17) (.func 49) [.str [32,97],r.f.A] m2=_:=g3
 have lim3:m3.lim≤m3.next:=by rw [E3.lim];have:=E3.next;omega
 have hr3:=hr2.ext E3
 obtain⟨m4,g4,E4⟩:=nQ E3.ok lim3 hr3.b (by omega) b3 (32::kB) (by simp [kB]) n fu hfu
 have g4:D6 KW fu (n+17) (.func 49) [.str [32,98],r.f.B] m3=_:=g4
 refine⟨m4,?_,(((hE.trans E1).trans E2).trans E3).trans E4⟩
 have q':∀bs,(ext m1 bs).get m.next=some (A9 r.f.cells):=fun bs=>by rw [G6 hm1 _ (by omega)];exact q
 have c2:m2.get m1.next=some (A9 r.f.cmp):=by rw [E2.old _ (by simp),l5 hm1];rfl
 have c3:m3.get m1.next=some (A9 r.f.cmp):=by rw [E3.old _ (by have:=E2.next;simp at this;omega)];exact c2
 have v2:∀l:Blk,m2.get (m1.next+1)=some c5:=fun _=>by rw [E2.old _ (by simp),l8 hm1];rfl
 have pa:=fun {β:Type} (p:j5→β) q=>hr.a.pan p q
 have pb:=fun {β:Type} (p:j5→β) q=>hr.b.pan p q
 have sa:dH 100 r.f.A r.f.A=true:=gF hr.a 99
 have sb:dH 100 r.f.B r.f.B=true:=gF hr.b 99
 have oa:=hr.a.J5
 have ob_:=hr.b.J5
 have o3:O7 r.f.cmp=true:=by simp [Fct.cmp,oa,ob_,show ∀k x,J5 (.int k x)=true from fun _ _=>rfl,-Fct.Q0]
 have l0:=eH hv
 have l1:=U8 P5 [r.f.cday,r.f.diff,r.f.err,r.f.hlo,r.f.hhi] b1'
 have l2:=U8 (32::kA) r.a b2
 have l3:=U8 (32::kB) r.b b3
 have eb:U7 r=J3 P5 [r.f.cday,r.f.diff,r.f.err,r.f.hlo,r.f.hhi]++J3 (32::kA) r.a++J3 (32::kB) r.b:=by
  rw [U7,if_neg (show ¬ r.f.kind=1 by omega),if_neg (show ¬ r.f.kind=2 by omega),if_neg (show ¬ r.f.kind=3 by omega),if_neg (show ¬ r.f.kind=4 by omega),if_pos hk]
 have t1:bG (J3 O4 (J7 r) ++ [10]) (J3 P5 [r.f.cday,r.f.diff,r.f.err,r.f.hlo,r.f.hhi])=some (.str (J3 O4 (J7 r)++10::J3 P5 [r.f.cday,r.f.diff,r.f.err,r.f.hlo,r.f.hhi])):=by
  rw [Q9 (by simp [P5] at l1 ⊢;omega)];simp
 have t2:bG (J3 O4 (J7 r)++10::J3 P5 [r.f.cday,r.f.diff,r.f.err,r.f.hlo,r.f.hhi]) (J3 (32::kA) r.a)=some (.str (J3 O4 (J7 r)++10::(J3 P5 [r.f.cday,r.f.diff,r.f.err,r.f.hlo,r.f.hhi]++J3 (32::kA) r.a))):=by
  rw [Q9 (by simp [P5,kA] at l1 l2 ⊢;omega)];simp
 have t3:bG (J3 O4 (J7 r)++10::(J3 P5 [r.f.cday,r.f.diff,r.f.err,r.f.hlo,r.f.hhi]++J3 (32::kA) r.a)) (J3 (32::kB) r.b)=some (.str (J3 O4 (J7 r)++10::U7 r)):=by
  rw [Q9 (by simp [P5,kA,kB] at l1 l2 l3 ⊢;omega),eb];simp
 rw [hk] at g
 simp only [c5] at g2
 rw [enter (sf:=f15) rfl rfl]
 simp (maxSteps:=3000000) [f15,x9,z8,O6 hm hl,C9,j6,o7,o8,C8,trD,G9,o9,l6,j3,O6 hm1 lim1,M4,U4,U3,hk,g,q,q',s1,s3,t1,t2,t3,g2,g3,g4,c2,c3,pa,pb,sa,sb,o3,isVoid,I6,avw]
theorem MH {m:Mem}{r:FR}(hm:m.Ok)(hl:m.lim≤m.next)(hr:eu m r)(hv:r.valid=true)(n fu:Nat)(hfu:1001≤fu):
  ∃m',D6 KW fu (n+18) (.func 15) [.agg r.f.cells] m=some [⟨.str (N9 r),m'⟩]∧Ext m m':=by
 obtain⟨k1,k2⟩:=dY hv
 by_cases h1:r.f.kind=1
 ·exact akY hm hl hr hv h1 n fu hfu
 by_cases h2:r.f.kind=2
 ·exact akZ hm hl hr hv h2 n fu hfu
 by_cases h3:r.f.kind=3
 ·exact al0 hm hl hr hv h3 n fu hfu
 by_cases h4:r.f.kind=4
 ·exact al1 hm hl hr hv h4 n fu hfu
 by_cases h5:r.f.kind=5
 ·exact al4 hm hl hr hv h5 n fu hfu
 by_cases h6:r.f.kind=6
 ·exact al3 hm hl hr hv h6 n fu hfu
 by_cases h7:r.f.kind=7
 ·exact al2 hm hl hr hv h7 n fu hfu
 omega
theorem Vy {lo:Nat}(f p no:j5)(s:By)(hsl:s.length≤20000)(cf:K8)(fu:Nat):∀(k i:Nat),s.length≤i+k→i≤s.length+64→∀(l:List By) (m:Mem) (out a4:j5) (N:Nat),m.Ok→m.lim≤lo→lo≤m.next→dz lo m out (strs l)→l.length≤i→k+1≤N→
  ∃(out' i':j5) (m':Mem),aj (fun env m k=>IX cf fu none env m k) N (.nd (.nd (.nd (.nd .e .nilSlice .e) (.str s) .e) p (.nd .e out .e)) f (.nd (.nd .e a4 .e) (.int .i64 (i:Int)) (.nd .e no .e))) m []=some [⟨.exit 0,(.nd (.nd (.nd (.nd .e .nilSlice .e) (.str s) .e) p (.nd .e out' .e)) f (.nd (.nd .e (.bool false) .e) i' (.nd .e no .e))),m',[],none⟩]∧Fr lo lo m m'∧dz lo m' out' (strs (l++chunks (s.drop i))):=by
 intro k
 induction k with
 | zero=>
  intro i hi hi2 l m out a4 N hm hl hlo ho hb hN
  obtain⟨N,rfl⟩:∃k,N=k+1:=⟨N-1,by omega⟩
  have e1:decide ((i:Int)<(s.length:Int))=false:=decide_eq_false (by omega)
  refine⟨out,.int .i64 (i:Int),m,?_,Fr.refl hm,by rw [avD (by omega),ji,awo];exact ho⟩
  rw [G5]
  simp [IX,C8,trD,G9,o9,l6,j3,e1,show ¬ i<s.length from by omega]
 | succ k ih=>
  intro i hi hi2 l m out a4 N hm hl hlo ho hb hN
  obtain⟨N,rfl⟩:∃k,N=k+1:=⟨N-1,by omega⟩
  by_cases h0:i<s.length
  ·have e1:decide ((i:Int)<(s.length:Int))=true:=decide_eq_true (by omega)
   have hne:s.drop i≠[]:=fun h=>by have:=congrArg List.length h;simp at this;omega
   have po:=fun {β:Type} (p:j5→β) q=>ho.vs.pan p q
   have w1:w64 ((i:Int)+64)=((i+64:Nat):Int):=by rw [aN (by omega) (by omega)];omega
   have pm:∀(x y:OF) (ls:List j5) (env:T j5),x ls env=.int .i64 (s.length:Int)→y ls env=.int .i64 ((i+64:Nat):Int)→pMm false x [y] ls env=some (.int .i64 ((min s.length (i+64):Nat):Int)):=fun x y ls env hx hy=>FT hx hy
   have p1:=fun x lo hi ls env hx hl hh=>Dw (x:=x) (lo:=lo) (hi:=hi) (ls:=ls) (env:=env) (s:=s) (l:=i) (h:=min s.length (i+64)) hx hl hh (by omega) (ax5 _ _)
   have ec:(s.drop i).take (min s.length (i+64)-i)=(s.drop i).take 64:=by
    rw [← GZ (s.drop i)]
    congr 1
    simp;omega
   rw [ec] at p1
   generalize hz:((i+64:Nat):Int)=Z at w1 pm
   generalize ((min s.length (i+64):Nat):Int)=Y at pm p1
   have E2:=(Ext.refl hm).new (A9 [.str ((s.drop i).take 64)])
   obtain⟨out2,m3,ga,ho3,F3⟩:=rJ (bytes:=16) E2.ok (by show m.lim≤lo;omega) (avz hlo E2.next) (ho.ext E2) (xD hm (.str ((s.drop i).take 64))) rfl (by rw [R3];simp;omega) ⟨by omega,by omega⟩
   have FF:Fr lo lo m m3:=(E2.fr hlo).trans F3
   have ho3':dz lo m3 out2 (strs (l ++ [(s.drop i).take 64])):=by rw [vE];exact ho3
   have po2:=fun {β:Type} (p:j5→β) q=>ho3.vs.pan p q
   have hbs:∀z ps ls env nid,List.length z=1→J2 1 1 z ps ls env nid=ob (lay ps ls env z) fun cells=>if cells.length=1 then some (.slice nid 0 1 1,some (A9 cells)) else none:=fun z ps ls env nid h=>L9 1 z ps ls env nid h
   obtain⟨out',i',m',g,F,ho'⟩:=ih (i+64) (by omega) (by omega) (l ++ [(s.drop i).take 64]) m3 out2 (.bool true) N FF.ok (by rw [FF.lim];exact hl) (avz hlo FF.next) ho3' (by simp;omega) (by omega)
   refine⟨out',i',m',?_,FF.trans F,?_⟩
   ·rw [hz] at g
    rw [G5,← g]
    simp [IX,C8,trD,G9,o9,l6,j3,e1,h0,w1,pm,p1,po,po2,hbs,C9,ga]
   ·rw [qz hne,axg]
    simpa using ho'
  ·have e1:decide ((i:Int)<(s.length:Int))=false:=decide_eq_false (by omega)
   refine⟨out,.int .i64 (i:Int),m,?_,Fr.refl hm,by rw [avD (by omega),ji,awo];exact ho⟩
   rw [G5]
   simp [IX,C8,trD,G9,o9,l6,j3,e1,h0]
theorem abn {m:Mem}{r:FR}(hm:m.Ok)(hl:m.lim≤m.next)(hr:eu m r)(hv:r.valid=true)(no:Int)(hno:Sm no)(n fu:Nat)(hfu:1001≤fu):
  ∃v m',D6 KW fu (n+19) (.func 18) [.int .i64 no,.agg r.f.cells] m=some [⟨v,m'⟩]∧Ext m m'∧kH m' v (strs (afa no (N9 r))):=by
 have E0:=D8 hm [A9 r.f.cells]
 obtain⟨m1,g1,E1⟩:=MH (J4 hm [A9 r.f.cells]) (by simp;omega) (hr.ext E0) hv n fu hfu
 have E01:=E0.trans E1
 have tl:=xB hv
 have l1:m1.lim≤m1.next:=by rw [E01.lim];have:=E01.next;omega
 obtain⟨out,i',m2,g2,F2,ho⟩:=Vy (lo:=m1.next) (.agg r.f.cells) (.ptr m.next 0) (.int .i64 no) (N9 r) (by omega) (D6 KW fu (n+18)) fu (N9 r).length 0 (by omega) (by omega) [] m1 .nilSlice .undef fu E1.ok l1 (D5 _) (dz.nil _ _) (by simp) (by omega)
 have g2:aj (fun env m k=>IX (D6 KW fu (n+18)) fu none env m k) fu (.nd (.nd (.nd (.nd .e .nilSlice .e) (.str (N9 r)) .e) (.ptr m.next 0) (.nd .e .nilSlice .e)) (.agg r.f.cells) (.nd (.nd .e .undef .e) (.int .i64 0) (.nd .e (.int .i64 no) .e))) m1 []=_:=g2
 have E2:Ext m1 m2:=F2.ext (D5 _) (D5 _)
 rw [avT,awh] at ho
 have hclen:=oF _ _ (D5 (N9 r).length)
 have g3:=abg (N9 r) (by omega) (n+17) fu (by omega) m2
 let b4:Blk:=.cells 1 4 (T.ofList [[.int .i64 no],[.int .i64 ((chunks (N9 r)).length:Int)],[.int .i64 ((N9 r).length:Int)],[.int .i64 (Bz (N9 r):Int)]])
 have E3:=D8 E2.ok [b4]
 have hS:=BA (N9 r)
 have hsm:∀x∈[no,((chunks (N9 r)).length:Int),((N9 r).length:Int),(Bz (N9 r):Int)],Sm x:=by
  intro x hx
  simp only [avL,awV,or_false] at hx
  rcases hx with rfl | rfl | rfl | rfl
  ·exact hno
  all_goals unfold Sm;omega
 obtain⟨m3,g4,E4⟩:=nQ (v:=.slice m2.next 0 4 4) (xs:=[no,((chunks (N9 r)).length:Int),((N9 r).length:Int),(Bz (N9 r):Int)]) E3.ok (by rw [E3.lim,E2.lim];have:=E3.next;have:=E2.next;omega) (dO (by rw [l5 E2.ok];rfl) (by simp) rfl) (by simp) hsm nP (by simp [nP]) (n+1) fu hfu
 let L:=J3 nP [no,((chunks (N9 r)).length:Int),((N9 r).length:Int),(Bz (N9 r):Int)]
 have g4:D6 KW fu (n+18) (.func 49) [.str [114,101,99,111,114,100],.slice m2.next 0 4 4] (ext m2 [b4])=some [⟨.str L,m3⟩]:=g4
 have E34:=E3.trans E4
 have E5:=D8 E4.ok [A9 [.str L]]
 have hlim:(ext m3 [A9 [.str L]]).lim≤m3.next:=by
  rw [E5.lim,E34.lim,E2.lim];have:=E34.next;have:=E2.next;omega
 have ho1:dz m3.next (ext m3 [A9 [.str L]]) (.slice m3.next 0 1 1) [.str L]:=FU (lo:=m3.next) (m:=m3) E4.ok (D5 _) (.str L) rfl
 obtain⟨v,m5,ga,ho5,F5⟩:=rJ (bytes:=16) (lo:=m3.next) E5.ok hlim E5.next ho1 ((ho.ext E34).ext E5).vs (Bh _) (by rw [R3];simp;omega) ⟨by omega,by omega⟩
 have E6:Ext m3 m5:=⟨F5.ok,avz E5.next F5.next,by rw [F5.lim];exact E5.lim,fun i hi=>by rw [F5.old i (by omega) (by omega)];exact E5.old i hi⟩
 have po:=fun {β:Type} (p:j5→β) q=>ho.vs.pan p q
 have po5:=fun {β:Type} (p:j5→β) q=>ho5.vs.pan p q
 have hlen:=ho.vs.len
 rw [R3] at hlen
 have hbs:∀z ps ls env nid,List.length z=1→J2 1 1 z ps ls env nid=ob (lay ps ls env z) fun cells=>if cells.length=1 then some (.slice nid 0 1 1,some (A9 cells)) else none:=fun z ps ls env nid h=>L9 1 z ps ls env nid h
 refine⟨v,m5,?_,((E01.trans E2).trans E34).trans E6,ho5.vs⟩
 simp only [b4] at g4
 rw [enter (sf:=f18) rfl rfl]
 simp [f18,C8,trD,G9,o9,l6,j3,x9,z8,O6 hm hl,C9,j6,o7,o8,J5,g1,g2,g3,g4,ga,po,po5,hlen,hbs,M4,U4,U3]
theorem oG (c:UInt8):∀l,((splitB c l).map List.length).sum+(splitB c l).length=l.length+1
 | []=>by simp [splitB]
 | b::l=>by
  have ih:=oG c l
  rw [splitB]
  split
  ·simp;omega
  ·obtain⟨w,ws,h⟩:=kZ c l
   rw [h] at ih ⊢
   simp [LZ] at ih ⊢;omega
theorem oH (c:UInt8):∀l,∀x∈splitB c l,x.length≤l.length
 | [],x,hx=>by simp [splitB] at hx;subst hx;simp
 | b::l,x,hx=>by
  rw [splitB] at hx
  split at hx
  ·rcases avL.1 hx with rfl | hx
   ·simp
   ·have:=oH c l x hx;simp;omega
  ·obtain⟨w,ws,h⟩:=kZ c l
   have ih:=oH c l
   rw [h] at hx ih
   rcases avL.1 hx with rfl | hx
   ·have:=ih w (by simp);simp;omega
   ·have:=ih x (by simp [hx]);simp;omega
theorem rX:∀(k:Nat) (ws:List By),(X9 k ws).1.length≤ws.length∧(X9 k ws).2.length≤ws.length
 | _,[]=>by simp [X9]
 | k,w::ws=>by
  have i1:=rX 1 ws
  have i2:=rX 2 ws
  have i3:=rX k ws
  rw [X9]
  split
  ·simp;omega
  split
  ·simp;omega
  split
  ·simp;omega
  split
  ·simp;omega
  ·simp;omega
theorem Eb (w:By)(ws:List By)(many:Nat):many≤(dD (w::ws) many).length∧((dD (w::ws) many).length≤max many ws.length):=by
 simp [dD,DU];omega
theorem MI (w:List By)(many:Nat):∀x∈dD w many,aR x:=by
 intro x hx
 simp only [dD,DU,avN,awy,List.mem_replicate] at hx
 rcases hx with⟨y,_,rfl⟩ | ⟨_,rfl⟩
 ·exact OX y
 ·exact⟨by omega,by omega⟩
theorem vat {m:Mem}{v:j5}{xs:List j5}(h:kH m v xs){i:Nat}(hi:i<xs.length):∃id o,id<m.next∧(∀(x y:OF) (ls:List j5) (env:T j5),x ls env=v→y ls env=.int .i64 (i:Int)→J9 1 x y ls env=some (.ptr id o))∧ld1 (m.get id) o=some xs[i]:=by
 obtain⟨id,o,a1,a2,a3⟩:=h.at hi
 refine⟨id,o,a2,fun x y ls env hx hy=>?_,a3⟩
 rw [eF,hx,hy]
 simpa using a1
theorem iat {lo:Nat}{m:Mem}{v:j5}{xs:List Int}(h:dz lo m v (ints xs))(i:Nat)(hi:i<xs.length):∃id o,id<m.next∧(∀(x y:OF) (ls:List j5) (env:T j5),x ls env=v→y ls env=.int .i64 (i:Int)→J9 1 x y ls env=some (.ptr id o))∧ld1 (m.get id) o=some (.int .i64 (xs.getD i 0)):=by
 obtain⟨id,o,h1,h2,h3⟩:=vat h.vs (i:=i) (by simp [ints];exact hi)
 refine⟨id,o,h1,h2,?_⟩
 rw [h3,avF,U1 hi]
 simp [ints]
theorem iG (w:List By)(many i:Nat):aR ((dD w many).getD i 0):=by
 by_cases h:i<(dD w many).length
 ·rw [avF,U1 h]
  exact MI w many _ (awj h)
 ·rw [avF,awM (by omega)]
  exact⟨by decide,by decide⟩
theorem ko {N:Mem}{r:FR}{s:By}{a q:Nat}(hN:N.Ok)(hlim:N.lim≤N.next)(hr:eu N r)(la:r.a.length<1000)(lb:r.b.length<1000)(lc:r.l.length<1000)(hq:q<N.next)(ha:a<N.next)(hla:N.lim≤a)(gq:N.get q=some (A9 r.f.cells))(ga:N.get a=some (A9 zr))(n fu:Nat)(hfu:1001≤fu):
  (∃m8 Nz,r.valid=false∧D6 KW fu (n+18) (.func 14) [.agg r.f.cells] N=some [⟨.bool false,m8⟩]∧(∀{β:Type} (k:Mem→Option β),storeAt m8 a 0 zr k=k Nz)∧Nz.get a=some (A9 zr)∧kL a N Nz)∨
  (∃m8 m9 Nz,r.valid=true∧N9 r≠s∧D6 KW fu (n+18) (.func 14) [.agg r.f.cells] N=some [⟨.bool true,m8⟩]∧m8.get q=some (A9 r.f.cells)∧D6 KW fu (n+18) (.func 15) [.agg r.f.cells] m8=some [⟨.str (N9 r),m9⟩]∧(∀{β:Type} (k:Mem→Option β),storeAt m9 a 0 zr k=k Nz)∧Nz.get a=some (A9 zr)∧kL a N Nz)∨
  (∃m8 m9 Nz,r.valid=true∧N9 r=s∧D6 KW fu (n+18) (.func 14) [.agg r.f.cells] N=some [⟨.bool true,m8⟩]∧m8.get q=some (A9 r.f.cells)∧D6 KW fu (n+18) (.func 15) [.agg r.f.cells] m8=some [⟨.str (N9 r),m9⟩]∧m9.get q=some (A9 r.f.cells)∧(∀{β:Type} (k:Mem→Option β),storeAt m9 a 0 r.f.cells k=k Nz)∧Nz.get a=some (A9 r.f.cells)∧kL a N Nz∧eu Nz r):=by
 obtain⟨m8,g8,E8⟩:=QY hN hlim (hr.at' la lb lc) (n+11) fu (by omega) hr.ga hr.gb
 have g8:D6 KW fu (n+18) (.func 14) [.agg r.f.cells] N=some [⟨.bool r.valid,m8⟩]:=g8
 have ga8:m8.get a=some (A9 zr):=by rw [E8.old a ha];exact ga
 have hl8:m8.lim≤m8.next:=by rw [E8.lim];have:=E8.next;omega
 by_cases hv:r.valid=true
 ·rw [hv] at g8
  have gq8:m8.get q=some (A9 r.f.cells):=by rw [E8.old q hq];exact gq
  obtain⟨m9,g9,E9⟩:=MH E8.ok hl8 (hr.ext E8) hv n fu hfu
  have E89:=E8.trans E9
  have ga9:m9.get a=some (A9 zr):=by rw [E89.old a ha];exact ga
  have ha9:a<m9.next:=avu ha E89.next
  by_cases ht:N9 r=s
  ·obtain⟨Nf,st,gN,X⟩:=U9 (off:=0) (vs:=r.f.cells) E9.ok ha9 (by rw [E89.lim];exact hla) ga9 (by rw [Fct.len];simp) (by rw [Fct.len];omega) (xE hr)
   have gN:Nf.get a=some (A9 r.f.cells):=by rw [gN,Fct.len];simp
   have no1:∀n rows,m9.get a≠some (.cells 1 n rows):=fun n rows e=>by
    rw [ga9] at e
    have e:Blk.cells 32 1 _=.cells 1 n rows:=avA e
    injection e with e1
    cases e1
   have hr9:=hr.ext E89
   exact .inr (.inr ⟨m8,m9,Nf,hv,ht,g8,gq8,g9,by rw [E89.old q hq];exact gq,st,gN,(E89.toB (id:=a)).trans X,⟨bW.vg hr9.a X no1,bW.vg hr9.b X no1,bW.vg hr9.l X no1,hr9.ga,hr9.gb,hr9.nb⟩⟩)
  ·obtain⟨Nz,st,gN,X⟩:=U9 (off:=0) (vs:=zr) E9.ok ha9 (by rw [E89.lim];exact hla) ga9 (by simp) (by simp) rfl
   exact .inr (.inl ⟨m8,m9,Nz,hv,ht,g8,gq8,g9,st,by rw [gN];simp,(E89.toB (id:=a)).trans X⟩)
 ·have hv':r.valid=false:=avO.2 hv
  rw [hv'] at g8
  obtain⟨Nz,st,gN,X⟩:=U9 (off:=0) (vs:=zr) E8.ok (avu ha E8.next) (by rw [E8.lim];exact hla) ga8 (by simp) (by simp) rfl
  exact .inl ⟨m8,Nz,hv',g8,st,by rw [gN];simp,(E8.toB (id:=a)).trans X⟩
theorem iT {s l0 l1 l2:By}{r:FR}(hs:splitB 10 s=[l0,l1,l2])(hr:r.cn=mq l0 l1)(h:r.valid=false∨N9 r≠s):∀r',¬ iB s r':=fun r' ⟨h1,h2⟩=>by
 have hk:=dY h1
 rw [← h2,zZ hk] at hs
 injection hs with e0 hs
 injection hs with e1 _
 rw [← e0,← e1,Jk h1] at hr
 rcases h with h | h
 ·rw [← vG,hr,vG] at h
  rw [h1] at h;cases h
 ·exact h (by rw [← Bv r,hr,Bv];exact h2)
theorem MJ {s:By}(h:(splitB 10 s).length≠3):∀r',¬ iB s r':=fun r' ⟨h1,h2⟩=>h (by rw [← h2,zZ (dY h1)];rfl)
theorem Hr (xs:List Int):(ints xs).length=xs.length:=by simp [ints]
theorem Vz {lo:Nat}{m:Mem}{v:j5}{xs:List Int}{k:Nat}(h:dz lo m v (ints xs))(hk:k≤xs.length)(nid:Nat):∃v' blk,(∀(x a:OF) (ls:List j5) (env:T j5),x ls env=v→a ls env=.int .i64 (k:Int)→lSl 1 x (some a) none ls env nid=some (v',blk))∧
  ((blk=none∧bW m v' (xs.drop k))∨(∃id,blk=some (.tail id)∧v'=.sliceU nid 0 0 1∧xs.drop k=[])):=by
 have core:∀{v':j5} {blk:Option Blk},R9 nid 1 v k none=some (v',blk)→∀(x a:OF) (ls:List j5) (env:T j5),x ls env=v→a ls env=.int .i64 (k:Int)→lSl 1 x (some a) none ls env nid=some (v',blk):=fun hs x a ls env hx ha=>by
  show oQ (a ls env) (fun l=>R9 nid 1 (x ls env) l none)=_
  rw [ha,tC,oz,hx];exact hs
 have hkk:Nat.ble k xs.length=true:=avB hk
 have hll:Nat.ble xs.length xs.length=true:=avB (D5 _)
 rcases h with⟨rfl,h0⟩ | ⟨id,h1,h2,h3,h4,h5⟩
 ·have hx:xs=[]:=by
   have:=congrArg List.length h0
   rw [Hr] at this
   exact avW.1 (by simpa using this)
  subst hx
  obtain rfl:k=0:=by simpa using hk
  exact⟨.nilSlice,none,core rfl,.inl ⟨rfl,.inl ⟨rfl,rfl⟩⟩⟩
 ·rw [Hr] at h5
  obtain⟨p,hl,c,t,c',q1,q2,q0,q3,q4⟩:=h4
  have q2:xs.length≤c:=by simpa [ints] using q2
  have cell:k<xs.length→∀i (hi:i<(xs.drop k).length),t.get (k+i)=some [.int .i64 (xs.drop k)[i]]:=fun hlt i hi=>by
   have hi':k+i<xs.length:=by simp at hi;omega
   rw [q4 (k+i) (by simpa [ints] using hi')];simp [ints]
  rcases h5 with rfl | rfl
  ·refine⟨.slice id (bi (Nat.beq k xs.length) 0 (Nat.add 0 (Nat.mul k 1))) (Nat.sub xs.length k) (Nat.sub xs.length k),none,core ?_,.inl ⟨rfl,?_⟩⟩
   ·show bi (Nat.ble k xs.length) (bi (Nat.ble xs.length xs.length) _ none) none=_
    rw [hkk,hll];rfl
   ·by_cases hlt:k<xs.length
    ·have hb:Nat.beq k xs.length=false:=avO.2 fun e=>by have:=avt e;omega
     rw [hb]
     have e1:(bi false 0 (Nat.add 0 (Nat.mul k 1)):Nat)=k:=by
      show 0+k*1=k
      omega
     rw [e1]
     refine .inr ⟨(id,k),.inl ⟨Nat.sub xs.length k,?_⟩,h2,.inr ⟨c,t,q1,by simp;omega,cell hlt⟩⟩
     rw [awT];rfl
    ·have hd:xs.drop k=[]:=avD (by omega)
     rw [hd]
     refine .inr ⟨(id,bi (Nat.beq k xs.length) 0 (Nat.add 0 (Nat.mul k 1))),.inl ⟨Nat.sub xs.length k,?_⟩,h2,.inl rfl⟩
     rw [show Nat.sub xs.length k=0 from by show xs.length-k=0;omega];rfl
  ·by_cases hlt:k<xs.length
   ·refine⟨.sliceU id (Nat.add 0 (Nat.mul k 1)) (Nat.sub xs.length k) 1,none,core ?_,.inl ⟨rfl,?_⟩⟩
    ·show bi (Nat.ble k xs.length) (bi (Nat.ble xs.length xs.length) (bi (Nat.beq 1 1) (bi (Nat.blt k xs.length) _ _) none) none) none=_
     rw [hkk,hll,show Nat.blt k xs.length=true from avM.mpr hlt];rfl
    ·have e1:Nat.add 0 (Nat.mul k 1)=k:=by
      show 0+k*1=k
      omega
     rw [e1]
     refine .inr ⟨(id,k),.inr ⟨1,?_⟩,h2,.inr ⟨c,t,q1,by simp;omega,cell hlt⟩⟩
     rw [awT];rfl
   ·have hd:xs.drop k=[]:=avD (by omega)
    have hnlt:Nat.blt k xs.length=false:=avO.2 fun e=>hlt (avM.mp e)
    by_cases hz:k=0
    ·subst hz
     refine⟨.sliceU id 0 (Nat.sub xs.length 0) 1,none,core ?_,.inl ⟨rfl,?_⟩⟩
     ·show bi (Nat.ble 0 xs.length) (bi (Nat.ble xs.length xs.length) (bi (Nat.beq 1 1) (bi (Nat.blt 0 xs.length) _ (bi (Nat.beq 0 0) _ _)) none) none) none=_
      rw [hkk,hll,hnlt];rfl
     ·rw [hd]
      refine .inr ⟨(id,0),.inr ⟨1,?_⟩,h2,.inl rfl⟩
      rw [show Nat.sub xs.length 0=0 from by show xs.length-0=0;omega];rfl
    ·refine⟨.sliceU nid 0 0 1,some (.tail id),core ?_,.inr ⟨id,rfl,rfl,hd⟩⟩
     show bi (Nat.ble k xs.length) (bi (Nat.ble xs.length xs.length) (bi (Nat.beq 1 1) (bi (Nat.blt k xs.length) _ (bi (Nat.beq k 0) _ _)) none) none) none=_
     rw [hkk,hll,hnlt,show Nat.beq k 0=false from avO.2 fun e=>hz (avt e)];rfl
set_option maxHeartbeats 40000000
theorem MK (m:Mem)(i:Nat):RN m i none=m:=rfl
theorem VA {m:Mem}(hm:m.Ok)(hl:m.lim≤m.next)(s:By)(hs:s.length≤1000){l0 l1 l2:By}(hsp:splitB 10 s=[l0,l1,l2])(n fu:Nat)(hfu:5001≤fu):
  (∃r m',D6 KW fu (n+19) (.func 12) [.str s] m=some [⟨.tuple [.agg r.f.cells,.bool true],m'⟩]∧Ext m m'∧eu m' r∧r.a.length<1000∧r.b.length<1000∧r.l.length<1000∧iB s r)∨
  (∃m',D6 KW fu (n+19) (.func 12) [.str s] m=some [⟨.tuple [.agg zr,.bool false],m'⟩]∧Ext m m'∧∀r,¬ iB s r):=by
 obtain⟨K0,hK0⟩:∃x,x=((dD (splitB 32 l0) 4).getD 0 0):=⟨_,rfl⟩
 obtain⟨K1,hK1⟩:∃x,x=((dD (splitB 32 l0) 4).getD 1 0):=⟨_,rfl⟩
 obtain⟨K2,hK2⟩:∃x,x=((dD (splitB 32 l0) 4).getD 2 0):=⟨_,rfl⟩
 obtain⟨K3,hK3⟩:∃x,x=((dD (splitB 32 l0) 4).getD 3 0):=⟨_,rfl⟩
 obtain⟨V0,hV0⟩:∃x,x=((dD (splitB 32 l1) 8).getD 0 0):=⟨_,rfl⟩
 obtain⟨V1,hV1⟩:∃x,x=((dD (splitB 32 l1) 8).getD 1 0):=⟨_,rfl⟩
 obtain⟨V2,hV2⟩:∃x,x=((dD (splitB 32 l1) 8).getD 2 0):=⟨_,rfl⟩
 obtain⟨V3,hV3⟩:∃x,x=((dD (splitB 32 l1) 8).getD 3 0):=⟨_,rfl⟩
 obtain⟨V4,hV4⟩:∃x,x=((dD (splitB 32 l1) 8).getD 4 0):=⟨_,rfl⟩
 obtain⟨V5,hV5⟩:∃x,x=((dD (splitB 32 l1) 8).getD 5 0):=⟨_,rfl⟩
 obtain⟨V6,hV6⟩:∃x,x=((dD (splitB 32 l1) 8).getD 6 0):=⟨_,rfl⟩
 obtain⟨V7,hV7⟩:∃x,x=((dD (splitB 32 l1) 8).getD 7 0):=⟨_,rfl⟩
 have h3:((splitB 10 s).length:Int)=3:=by rw [hsp];rfl
 have h2000:¬ (2000:Int)<(s.length:Int):=by omega
 have hs10:s.length≤10000:=by omega
 have E0:=D8 hm [A9 zr]
 have ga0:(ext m [A9 zr]).get m.next=some (A9 zr):=by rw [l5 hm];rfl
 obtain⟨v0,m1,g1,E1,o0⟩:=Hl E0.ok (by simp;omega) s hs10 10 (n+17) fu (by omega)
 have g1:D6 KW fu (n+18) (.func 42) [.str s,.int .u8 10] (ext m [A9 zr])=some [⟨v0,m1⟩]:=g1
 have E01:=E0.trans E1
 have lim1:m1.lim≤m1.next:=by rw [E01.lim];have:=E01.next;omega
 have nx1:m.next+1≤m1.next:=by have:=E1.next;simpa using this
 have len0:=o0.vs.len
 rw [R3] at len0
 have pan0:=fun {β:Type} (p:j5→β) q=>o0.vs.pan p q
 rw [hsp] at o0 len0
 have hsum:=oG 10 s
 rw [hsp] at hsum
 simp at hsum
 obtain⟨i0,q0,j0,p0,d0⟩:=vat o0.vs (i:=0) (by simp [strs])
 have d0:ld1 (m1.get i0) q0=some (.str l0):=d0
 have p0:∀(x y:OF) (ls:List j5) (env:T j5),x ls env=v0→y ls env=.int .i64 0→J9 1 x y ls env=some (.ptr i0 q0):=p0
 obtain⟨v1,m2,g2,E2,o1⟩:=Hl E1.ok lim1 l0 (by omega) 32 (n+17) fu (by omega)
 have g2:D6 KW fu (n+18) (.func 42) [.str l0,.int .u8 32] m1=some [⟨v1,m2⟩]:=g2
 have E02:=E01.trans E2
 have lim2:m2.lim≤m2.next:=by rw [E02.lim];have:=E02.next;omega
 obtain⟨w0,ws0,ew0⟩:=kZ 32 l0
 have sl0:=oG 32 l0
 have sm0:=oH 32 l0
 have pan1:=fun {β:Type} (p:j5→β) q=>o1.vs.pan p q
 obtain⟨n4,m3,g3,E3,o2⟩:=MC (w:=w0) (ws:=ws0) E2.ok lim2 (by rw [← ew0];exact o1.vs) (fun x hx=>by have:=sm0 x (by rw [ew0];exact hx);omega) (by rw [← ew0];omega) 4 (by omega) (n+16) fu hfu
 have g3:D6 KW fu (n+18) (.func 43) [v1,.int .i64 4] m2=some [⟨n4,m3⟩]:=g3
 rw [← ew0] at o2
 have E03:=E02.trans E3
 have lim3:m3.lim≤m3.next:=by rw [E03.lim];have:=E03.next;omega
 have hm3:=E3.ok
 have len4:=(Eb w0 ws0 4).1
 rw [← ew0] at len4
 have pan2:=fun {β:Type} (p:j5→β) q=>o2.vs.pan p q
 obtain⟨a0,b0,x0,y0,z0⟩:=iat o2 0 (by omega)
 rw [← hK0] at z0
 have y0:∀(x y:OF) (ls:List j5) (env:T j5),x ls env=n4→y ls env=.int .i64 0→J9 1 x y ls env=some (.ptr a0 b0):=y0
 have z0':∀bs,ld1 ((ext m3 bs).get a0) b0=some (.int .i64 K0):=fun bs=>by rw [G6 hm3 _ x0];exact z0
 obtain⟨a1,b1,x1,y1,z1⟩:=iat o2 1 (by omega)
 rw [← hK1] at z1
 have y1:∀(x y:OF) (ls:List j5) (env:T j5),x ls env=n4→y ls env=.int .i64 1→J9 1 x y ls env=some (.ptr a1 b1):=y1
 have z1':∀bs,ld1 ((ext m3 bs).get a1) b1=some (.int .i64 K1):=fun bs=>by rw [G6 hm3 _ x1];exact z1
 obtain⟨a2,b2,x2,y2,z2⟩:=iat o2 2 (by omega)
 rw [← hK2] at z2
 have y2:∀(x y:OF) (ls:List j5) (env:T j5),x ls env=n4→y ls env=.int .i64 2→J9 1 x y ls env=some (.ptr a2 b2):=y2
 have z2':∀bs,ld1 ((ext m3 bs).get a2) b2=some (.int .i64 K2):=fun bs=>by rw [G6 hm3 _ x2];exact z2
 obtain⟨a3,b3,x3,y3,z3⟩:=iat o2 3 (by omega)
 rw [← hK3] at z3
 have y3:∀(x y:OF) (ls:List j5) (env:T j5),x ls env=n4→y ls env=.int .i64 3→J9 1 x y ls env=some (.ptr a3 b3):=y3
 have z3':∀bs,ld1 ((ext m3 bs).get a3) b3=some (.int .i64 K3):=fun bs=>by rw [G6 hm3 _ x3];exact z3
 have E4:=D8 hm3 [A9 (zK K0 K1 K2 K3)]
 have E04:=E03.trans E4
 have hc4:(ext m3 [A9 (zK K0 K1 K2 K3)]).get m3.next=some (A9 (zF K0 K1 K2 K3).cells):=by rw [l5 hm3];rfl
 have o04:=((o0.ext E2).ext E3).ext E4
 obtain⟨i1,q1,j1,p1,d1⟩:=vat o04.vs (i:=1) (by simp [strs])
 have d1:ld1 ((ext m3 [A9 (zK K0 K1 K2 K3)]).get i1) q1=some (.str l1):=d1
 have p1:∀(x y:OF) (ls:List j5) (env:T j5),x ls env=v0→y ls env=.int .i64 1→J9 1 x y ls env=some (.ptr i1 q1):=p1
 obtain⟨v2,m5,g5,E5,o3⟩:=Hl E4.ok (by rw [E04.lim];have:=E04.next;omega) l1 (by omega) 32 (n+17) fu (by omega)
 have g5:D6 KW fu (n+18) (.func 42) [.str l1,.int .u8 32] (ext m3 [A9 (zK K0 K1 K2 K3)])=some [⟨v2,m5⟩]:=g5
 have E05:=E04.trans E5
 have lim5:m5.lim≤m5.next:=by rw [E05.lim];have:=E05.next;omega
 obtain⟨w1,ws1,ew1⟩:=kZ 32 l1
 have sl1:=oG 32 l1
 have sm1:=oH 32 l1
 have pan3:=fun {β:Type} (p:j5→β) q=>o3.vs.pan p q
 obtain⟨n8,m6,g6,E6,o4⟩:=MC (w:=w1) (ws:=ws1) E5.ok lim5 (by rw [← ew1];exact o3.vs) (fun x hx=>by have:=sm1 x (by rw [ew1];exact hx);omega) (by rw [← ew1];omega) 8 (by omega) (n+16) fu hfu
 have g6:D6 KW fu (n+18) (.func 43) [v2,.int .i64 8] m5=some [⟨n8,m6⟩]:=g6
 rw [← ew1] at o4
 have E06:=E05.trans E6
 have lim6:m6.lim≤m6.next:=by rw [E06.lim];have:=E06.next;omega
 have hm6:=E6.ok
 have len8:=(Eb w1 ws1 8).1
 rw [← ew1] at len8
 have pan4:=fun {β:Type} (p:j5→β) q=>o4.vs.pan p q
 have nq:m3.next<m6.next:=avu (show m3.next+1≤m5.next by simpa using E5.next) E6.next
 have nx3:m.next+1≤m3.next:=by have:=E2.next;have:=E3.next;omega
 have hc6:m6.get m3.next=some (A9 (zF K0 K1 K2 K3).cells):=by rw [E6.old _ (by have:=E5.next;simp at this;omega),E5.old _ (by simp)];exact hc4
 have ga6:m6.get m.next=some (A9 zr):=by
  have EE:=(((((E1.trans E2).trans E3).trans E4).trans E5).trans E6)
  rw [EE.old _ (by simp)];exact ga0
 have hld:ld1 (m6.get m3.next) 3=some (.int .i64 K3):=by rw [hc6,He];simp [jX]
 obtain⟨A0,B0,X0,Y0,Z0⟩:=iat o4 0 (by omega)
 rw [← hV0] at Z0
 have Y0:∀(x y:OF) (ls:List j5) (env:T j5),x ls env=n8→y ls env=.int .i64 0→J9 1 x y ls env=some (.ptr A0 B0):=Y0
 obtain⟨A1,B1,X1,Y1,Z1⟩:=iat o4 1 (by omega)
 rw [← hV1] at Z1
 have Y1:∀(x y:OF) (ls:List j5) (env:T j5),x ls env=n8→y ls env=.int .i64 1→J9 1 x y ls env=some (.ptr A1 B1):=Y1
 obtain⟨A2,B2,X2,Y2,Z2⟩:=iat o4 2 (by omega)
 rw [← hV2] at Z2
 have Y2:∀(x y:OF) (ls:List j5) (env:T j5),x ls env=n8→y ls env=.int .i64 2→J9 1 x y ls env=some (.ptr A2 B2):=Y2
 obtain⟨A3,B3,X3,Y3,Z3⟩:=iat o4 3 (by omega)
 rw [← hV3] at Z3
 have Y3:∀(x y:OF) (ls:List j5) (env:T j5),x ls env=n8→y ls env=.int .i64 3→J9 1 x y ls env=some (.ptr A3 B3):=Y3
 obtain⟨A4,B4,X4,Y4,Z4⟩:=iat o4 4 (by omega)
 rw [← hV4] at Z4
 have Y4:∀(x y:OF) (ls:List j5) (env:T j5),x ls env=n8→y ls env=.int .i64 4→J9 1 x y ls env=some (.ptr A4 B4):=Y4
 obtain⟨A5,B5,X5,Y5,Z5⟩:=iat o4 5 (by omega)
 rw [← hV5] at Z5
 have Y5:∀(x y:OF) (ls:List j5) (env:T j5),x ls env=n8→y ls env=.int .i64 5→J9 1 x y ls env=some (.ptr A5 B5):=Y5
 obtain⟨A6,B6,X6,Y6,Z6⟩:=iat o4 6 (by omega)
 rw [← hV6] at Z6
 have Y6:∀(x y:OF) (ls:List j5) (env:T j5),x ls env=n8→y ls env=.int .i64 6→J9 1 x y ls env=some (.ptr A6 B6):=Y6
 obtain⟨A7,B7,X7,Y7,Z7⟩:=iat o4 7 (by omega)
 rw [← hV7] at Z7
 have Y7:∀(x y:OF) (ls:List j5) (env:T j5),x ls env=n8→y ls env=.int .i64 7→J9 1 x y ls env=some (.ptr A7 B7):=Y7
 have hkind:K3=1∨K3=2∨K3=3∨K3=4∨K3=5∨K3=6∨K3=7∨(¬ K3=1∧¬ K3=2∧¬ K3=3∧¬ K3=4∧¬ K3=5∧¬ K3=6∧¬ K3=7):=by omega
 rcases hkind with hk | hk | hk | hk | hk | hk | hk | hk
 ·subst hk
  obtain⟨N,st,gqN,XN⟩:=U9 (off:=4) (vs:=[.int .i64 V0,.int .i64 V1]) hm6 nq (by rw [E06.lim];omega) hc6 (by rw [Fct.len];simp) (by simp) rfl
  have gqN:N.get m3.next=some (A9 ({zF K0 K1 K2 1 with flo:=V0,fhi:=V1}:Fct).cells):=gqN
  have gaN:N.get m.next=some (A9 zr):=by rw [XN.old _ (by omega) (by omega)];exact ga6
  have EmN:Ext m N:=K6 E06 XN (by omega)
  have hrN:eu N ⟨{zF K0 K1 K2 1 with flo:=V0,fhi:=V1},[],[],[]⟩:=⟨.inl ⟨rfl,rfl⟩,.inl ⟨rfl,rfl⟩,.inl ⟨rfl,rfl⟩,⟨by simp [zF,M0],by simp [zF,M0]⟩,⟨by simp [zF,M0],by simp [zF,M0]⟩,by show aR K1;rw [hK1];exact iG _ _ _⟩
  have hqN:m3.next<N.next:=avu nq XN.next
  have haN:m.next<N.next:=by omega
  have hcn:(⟨{zF K0 K1 K2 1 with flo:=V0,fhi:=V1},[],[],[]⟩:FR).cn=mq l0 l1:=by
   subst hK0 hK1 hK2 hV0 hV1 hV2 hV3 hV4 hV5 hV6 hV7
   unfold mq xw zf
   rw [← hK3]
   have ek:∀a b c d:Int,(zF a b c d).kind=d:=fun _ _ _ _=>rfl
   simp only [ek]
   first
    | rfl
    | (rw [if_pos rfl];rfl)
  have hlimN:N.lim≤N.next:=by rw [EmN.lim];have:=EmN.next;omega
  rcases ko (s:=s) (a:=m.next) (q:=m3.next) EmN.ok hlimN hrN (by simp) (by simp) (by simp) hqN haN (by rw [EmN.lim];have:=E06.lim;omega) gqN gaN n fu (by omega) with⟨m8,Nz,hv,e1,e2,e3,e4⟩ | ⟨m8,m9,Nz,hv,ht,e1,e2,e3,e4,e5,e6⟩ | ⟨m8,m9,Nz,hv,ht,e1,e2,e3,e4,e5,e6,e7,e8⟩
  all_goals first
   | (refine .inr ⟨Nz,?_,K6 EmN e4 (D5 _),iT hsp hcn (.inl hv)⟩;have e5:=e1;have e6:=e1;have ht:=e1)
   | refine .inr ⟨Nz,?_,K6 EmN e6 (D5 _),iT hsp hcn (.inr ht)⟩
   | refine .inl ⟨_,Nz,?_,K6 EmN e7 (D5 _),e8,by simp,by simp,by simp,hv,ht⟩
  all_goals (rw [enter (sf:=f12) rfl rfl];simp (maxSteps:=3000000) [f12,C8,trD,G9,o9,l6,j3,x9,z8,O6 hm hl,C9,j6,o7,o8,J5,-eF,g1,len0,pan0,h3,h2000,p0,d0,g2,pan1,g3,pan2,y0,y1,y2,y3,z0,z0',z1,z1',z2,z2',z3,z3',p1,d1,g5,pan3,g6,pan4,hld,O6 hm3 lim3,isVoid,dI,I6,Y0,Z0,Y1,Z1,Y2,Z2,Y3,Z3,Y4,Z4,Y5,Z5,Y6,Z6,Y7,Z7,st,gqN,e1,e2,e3,e4,e5,e6,ht])
 ·subst hk
  obtain⟨N,st,gqN,XN⟩:=U9 (off:=6) (vs:=[.int .i64 V0,.int .i64 V1,.int .i64 V2,.int .i64 V3,.int .i64 V4,.int .i64 V5,.int .i64 V6,.int .i64 V7]) hm6 nq (by rw [E06.lim];omega) hc6 (by rw [Fct.len];simp) (by simp) rfl
  have gqN:N.get m3.next=some (A9 ({zF K0 K1 K2 2 with gid:=V0,made:=V1,nom:=V2,tlo:=V3,thi:=V4,gn:=V5,gd:=V6,wear:=V7}:Fct).cells):=gqN
  have gaN:N.get m.next=some (A9 zr):=by rw [XN.old _ (by omega) (by omega)];exact ga6
  have EmN:Ext m N:=K6 E06 XN (by omega)
  have hrN:eu N ⟨{zF K0 K1 K2 2 with gid:=V0,made:=V1,nom:=V2,tlo:=V3,thi:=V4,gn:=V5,gd:=V6,wear:=V7},[],[],[]⟩:=⟨.inl ⟨rfl,rfl⟩,.inl ⟨rfl,rfl⟩,.inl ⟨rfl,rfl⟩,by show aR V5;rw [hV5];exact iG _ _ _,by show aR V6;rw [hV6];exact iG _ _ _,by show aR K1;rw [hK1];exact iG _ _ _⟩
  have hqN:m3.next<N.next:=avu nq XN.next
  have haN:m.next<N.next:=by omega
  have hcn:(⟨{zF K0 K1 K2 2 with gid:=V0,made:=V1,nom:=V2,tlo:=V3,thi:=V4,gn:=V5,gd:=V6,wear:=V7},[],[],[]⟩:FR).cn=mq l0 l1:=by
   subst hK0 hK1 hK2 hV0 hV1 hV2 hV3 hV4 hV5 hV6 hV7
   unfold mq xw zf
   rw [← hK3]
   have ek:∀a b c d:Int,(zF a b c d).kind=d:=fun _ _ _ _=>rfl
   simp only [ek]
   first
    | rfl
    | (rw [if_neg (show ¬ (2:Int)=1 from by decide),if_pos rfl];rfl)
  have hlimN:N.lim≤N.next:=by rw [EmN.lim];have:=EmN.next;omega
  rcases ko (s:=s) (a:=m.next) (q:=m3.next) EmN.ok hlimN hrN (by simp) (by simp) (by simp) hqN haN (by rw [EmN.lim];have:=E06.lim;omega) gqN gaN n fu (by omega) with⟨m8,Nz,hv,e1,e2,e3,e4⟩ | ⟨m8,m9,Nz,hv,ht,e1,e2,e3,e4,e5,e6⟩ | ⟨m8,m9,Nz,hv,ht,e1,e2,e3,e4,e5,e6,e7,e8⟩
  all_goals first
   | (refine .inr ⟨Nz,?_,K6 EmN e4 (D5 _),iT hsp hcn (.inl hv)⟩;have e5:=e1;have e6:=e1;have ht:=e1)
   | refine .inr ⟨Nz,?_,K6 EmN e6 (D5 _),iT hsp hcn (.inr ht)⟩
   | refine .inl ⟨_,Nz,?_,K6 EmN e7 (D5 _),e8,by simp,by simp,by simp,hv,ht⟩
  all_goals (rw [enter (sf:=f12) rfl rfl];simp (maxSteps:=3000000) [f12,C8,trD,G9,o9,l6,j3,x9,z8,O6 hm hl,C9,j6,o7,o8,J5,-eF,g1,len0,pan0,h3,h2000,p0,d0,g2,pan1,g3,pan2,y0,y1,y2,y3,z0,z0',z1,z1',z2,z2',z3,z3',p1,d1,g5,pan3,g6,pan4,hld,O6 hm3 lim3,isVoid,dI,I6,Y0,Z0,Y1,Z1,Y2,Z2,Y3,Z3,Y4,Z4,Y5,Z5,Y6,Z6,Y7,Z7,st,gqN,e1,e2,e3,e4,e5,e6,ht])
 ·subst hk
  obtain⟨N,st,gqN,XN⟩:=U9 (off:=14) (vs:=[.int .i64 V0,.int .i64 V1]) hm6 nq (by rw [E06.lim];omega) hc6 (by rw [Fct.len];simp) (by simp) rfl
  have gqN:N.get m3.next=some (A9 ({zF K0 K1 K2 3 with ug:=V0,ud:=V1}:Fct).cells):=gqN
  have gaN:N.get m.next=some (A9 zr):=by rw [XN.old _ (by omega) (by omega)];exact ga6
  have EmN:Ext m N:=K6 E06 XN (by omega)
  have hrN:eu N ⟨{zF K0 K1 K2 3 with ug:=V0,ud:=V1},[],[],[]⟩:=⟨.inl ⟨rfl,rfl⟩,.inl ⟨rfl,rfl⟩,.inl ⟨rfl,rfl⟩,⟨by simp [zF,M0],by simp [zF,M0]⟩,⟨by simp [zF,M0],by simp [zF,M0]⟩,by show aR K1;rw [hK1];exact iG _ _ _⟩
  have hqN:m3.next<N.next:=avu nq XN.next
  have haN:m.next<N.next:=by omega
  have hcn:(⟨{zF K0 K1 K2 3 with ug:=V0,ud:=V1},[],[],[]⟩:FR).cn=mq l0 l1:=by
   subst hK0 hK1 hK2 hV0 hV1 hV2 hV3 hV4 hV5 hV6 hV7
   unfold mq xw zf
   rw [← hK3]
   have ek:∀a b c d:Int,(zF a b c d).kind=d:=fun _ _ _ _=>rfl
   simp only [ek]
   first
    | rfl
    | (rw [if_neg (show ¬ (3:Int)=1 from by decide),if_neg (show ¬ (3:Int)=2 from by decide),if_pos rfl];rfl)
  have hlimN:N.lim≤N.next:=by rw [EmN.lim];have:=EmN.next;omega
  rcases ko (s:=s) (a:=m.next) (q:=m3.next) EmN.ok hlimN hrN (by simp) (by simp) (by simp) hqN haN (by rw [EmN.lim];have:=E06.lim;omega) gqN gaN n fu (by omega) with⟨m8,Nz,hv,e1,e2,e3,e4⟩ | ⟨m8,m9,Nz,hv,ht,e1,e2,e3,e4,e5,e6⟩ | ⟨m8,m9,Nz,hv,ht,e1,e2,e3,e4,e5,e6,e7,e8⟩
  all_goals first
   | (refine .inr ⟨Nz,?_,K6 EmN e4 (D5 _),iT hsp hcn (.inl hv)⟩;have e5:=e1;have e6:=e1;have ht:=e1)
   | refine .inr ⟨Nz,?_,K6 EmN e6 (D5 _),iT hsp hcn (.inr ht)⟩
   | refine .inl ⟨_,Nz,?_,K6 EmN e7 (D5 _),e8,by simp,by simp,by simp,hv,ht⟩
  all_goals (rw [enter (sf:=f12) rfl rfl];simp (maxSteps:=3000000) [f12,C8,trD,G9,o9,l6,j3,x9,z8,O6 hm hl,C9,j6,o7,o8,J5,-eF,g1,len0,pan0,h3,h2000,p0,d0,g2,pan1,g3,pan2,y0,y1,y2,y3,z0,z0',z1,z1',z2,z2',z3,z3',p1,d1,g5,pan3,g6,pan4,hld,O6 hm3 lim3,isVoid,dI,I6,Y0,Z0,Y1,Z1,Y2,Z2,Y3,Z3,Y4,Z4,Y5,Z5,Y6,Z6,Y7,Z7,st,gqN,e1,e2,e3,e4,e5,e6,ht])
 ·subst hk
  obtain⟨N,st,gqN,XN⟩:=U9 (off:=16) (vs:=[.int .i64 V0,.int .i64 V1,.int .i64 V2,.int .i64 V3]) hm6 nq (by rw [E06.lim];omega) hc6 (by rw [Fct.len];simp) (by simp) rfl
  have gqN:N.get m3.next=some (A9 ({zF K0 K1 K2 4 with lg:=V0,ll:=V1,lh:=V2,lw:=V3}:Fct).cells):=gqN
  have gaN:N.get m.next=some (A9 zr):=by rw [XN.old _ (by omega) (by omega)];exact ga6
  have EmN:Ext m N:=K6 E06 XN (by omega)
  have hrN:eu N ⟨{zF K0 K1 K2 4 with lg:=V0,ll:=V1,lh:=V2,lw:=V3},[],[],[]⟩:=⟨.inl ⟨rfl,rfl⟩,.inl ⟨rfl,rfl⟩,.inl ⟨rfl,rfl⟩,⟨by simp [zF,M0],by simp [zF,M0]⟩,⟨by simp [zF,M0],by simp [zF,M0]⟩,by show aR K1;rw [hK1];exact iG _ _ _⟩
  have hqN:m3.next<N.next:=avu nq XN.next
  have haN:m.next<N.next:=by omega
  have hcn:(⟨{zF K0 K1 K2 4 with lg:=V0,ll:=V1,lh:=V2,lw:=V3},[],[],[]⟩:FR).cn=mq l0 l1:=by
   subst hK0 hK1 hK2 hV0 hV1 hV2 hV3 hV4 hV5 hV6 hV7
   unfold mq xw zf
   rw [← hK3]
   have ek:∀a b c d:Int,(zF a b c d).kind=d:=fun _ _ _ _=>rfl
   simp only [ek]
   first
    | rfl
    | (rw [if_neg (show ¬ (4:Int)=1 from by decide),if_neg (show ¬ (4:Int)=2 from by decide),if_neg (show ¬ (4:Int)=3 from by decide),if_pos rfl];rfl)
  have hlimN:N.lim≤N.next:=by rw [EmN.lim];have:=EmN.next;omega
  rcases ko (s:=s) (a:=m.next) (q:=m3.next) EmN.ok hlimN hrN (by simp) (by simp) (by simp) hqN haN (by rw [EmN.lim];have:=E06.lim;omega) gqN gaN n fu (by omega) with⟨m8,Nz,hv,e1,e2,e3,e4⟩ | ⟨m8,m9,Nz,hv,ht,e1,e2,e3,e4,e5,e6⟩ | ⟨m8,m9,Nz,hv,ht,e1,e2,e3,e4,e5,e6,e7,e8⟩
  all_goals first
   | (refine .inr ⟨Nz,?_,K6 EmN e4 (D5 _),iT hsp hcn (.inl hv)⟩;have e5:=e1;have e6:=e1;have ht:=e1)
   | refine .inr ⟨Nz,?_,K6 EmN e6 (D5 _),iT hsp hcn (.inr ht)⟩
   | refine .inl ⟨_,Nz,?_,K6 EmN e7 (D5 _),e8,by simp,by simp,by simp,hv,ht⟩
  all_goals (rw [enter (sf:=f12) rfl rfl];simp (maxSteps:=3000000) [f12,C8,trD,G9,o9,l6,j3,x9,z8,O6 hm hl,C9,j6,o7,o8,J5,-eF,g1,len0,pan0,h3,h2000,p0,d0,g2,pan1,g3,pan2,y0,y1,y2,y3,z0,z0',z1,z1',z2,z2',z3,z3',p1,d1,g5,pan3,g6,pan4,hld,O6 hm3 lim3,isVoid,dI,I6,Y0,Z0,Y1,Z1,Y2,Z2,Y3,Z3,Y4,Z4,Y5,Z5,Y6,Z6,Y7,Z7,st,gqN,e1,e2,e3,e4,e5,e6,ht])
 ·subst hk
  obtain⟨va,vb,m7,g7,E7,oa,obv⟩:=abj E6.ok lim6 ((o3.vs).ext E6) (fun x hx=>by have:=sm1 x hx;omega) (by rw [ew1];rw [ew1] at sl1;simp at sl1 ⊢;omega) (n+16) fu hfu
  have g7:D6 KW fu (n+18) (.func 44) [v2] m6=some [⟨.tuple [va,vb],m7⟩]:=g7
  have E07:=E06.trans E7
  have Z0':ld1 (m7.get A0) B0=some (.int .i64 V0):=by rw [E7.old _ X0];exact Z0
  have Z1':ld1 (m7.get A1) B1=some (.int .i64 V1):=by rw [E7.old _ X1];exact Z1
  have Z2':ld1 (m7.get A2) B2=some (.int .i64 V2):=by rw [E7.old _ X2];exact Z2
  have Z3':ld1 (m7.get A3) B3=some (.int .i64 V3):=by rw [E7.old _ X3];exact Z3
  have Z4':ld1 (m7.get A4) B4=some (.int .i64 V4):=by rw [E7.old _ X4];exact Z4
  have c1:=oa.vs.J5
  have c2:=obv.vs.J5
  have pa7:=fun {β:Type} (p:j5→β) q=>oa.vs.pan p q
  have pb7:=fun {β:Type} (p:j5→β) q=>obv.vs.pan p q
  have ca7:=oa.vs.cells
  have cb7:=obv.vs.cells
  have hc7:m7.get m3.next=some (A9 (zF K0 K1 K2 5).cells):=by rw [E7.old _ nq];exact hc6
  have hm7:=E7.ok
  have nq7:m3.next<m7.next:=avu nq E7.next
  obtain⟨N,st,gqN,XN⟩:=U9 (off:=20) (vs:=[.int .i64 0,.int .i64 V0,va,vb,.int .i64 V1,.int .i64 V2,.int .i64 V3,.int .i64 V4]) hm7 nq7 (by rw [E07.lim];omega) hc7 (by rw [Fct.len];simp) (by simp) (by simp [c1,c2,show ∀k x,J5 (.int k x)=true from fun _ _=>rfl])
  have gqN:N.get m3.next=some (A9 ({zF K0 K1 K2 5 with cid:=0,cday:=V0,A:=va,B:=vb,diff:=V1,err:=V2,hlo:=V3,hhi:=V4}:Fct).cells):=gqN
  have gaN:N.get m.next=some (A9 zr):=by rw [XN.old _ (by have:=E7.next;omega) (by omega),E7.old _ (by omega)];exact ga6
  have EmN:Ext m N:=K6 E07 XN (by omega)
  have no1:∀n rows,m7.get m3.next≠some (.cells 1 n rows):=fun n rows e=>by
   rw [hc7] at e
   exact FQ _ n rows (avA e)
  obtain⟨pl1,pl2⟩:=rX 0 (splitB 32 l1)
  have hla:((X9 0 (splitB 32 l1)).1).length<1000:=by omega
  have hlb:((X9 0 (splitB 32 l1)).2).length<1000:=by omega
  have hrN:eu N ⟨{zF K0 K1 K2 5 with cid:=0,cday:=V0,A:=va,B:=vb,diff:=V1,err:=V2,hlo:=V3,hhi:=V4},(X9 0 (splitB 32 l1)).1,(X9 0 (splitB 32 l1)).2,[]⟩:=⟨bW.vg oa.sl XN no1,bW.vg obv.sl XN no1,.inl ⟨rfl,rfl⟩,⟨by simp [zF,M0],by simp [zF,M0]⟩,⟨by simp [zF,M0],by simp [zF,M0]⟩,by show aR K1;rw [hK1];exact iG _ _ _⟩
  have hqN:m3.next<N.next:=avu nq7 XN.next
  have haN:m.next<N.next:=by omega
  have hcn:(⟨{zF K0 K1 K2 5 with cid:=0,cday:=V0,A:=va,B:=vb,diff:=V1,err:=V2,hlo:=V3,hhi:=V4},(X9 0 (splitB 32 l1)).1,(X9 0 (splitB 32 l1)).2,[]⟩:FR).cn=mq l0 l1:=by
   subst hK0 hK1 hK2 hV0 hV1 hV2 hV3 hV4 hV5 hV6 hV7
   unfold mq xw zf
   rw [← hK3]
   have ek:∀a b c d:Int,(zF a b c d).kind=d:=fun _ _ _ _=>rfl
   simp only [ek]
   first
    | rfl
    | (rw [if_neg (show ¬ (5:Int)=1 from by decide),if_neg (show ¬ (5:Int)=2 from by decide),if_neg (show ¬ (5:Int)=3 from by decide),if_neg (show ¬ (5:Int)=4 from by decide),if_pos rfl];rfl)
  have hlimN:N.lim≤N.next:=by rw [EmN.lim];have:=EmN.next;omega
  rcases ko (s:=s) (a:=m.next) (q:=m3.next) EmN.ok hlimN hrN hla hlb (by simp) hqN haN (by rw [EmN.lim];have:=E06.lim;omega) gqN gaN n fu (by omega) with⟨m8,Nz,hv,e1,e2,e3,e4⟩ | ⟨m8,m9,Nz,hv,ht,e1,e2,e3,e4,e5,e6⟩ | ⟨m8,m9,Nz,hv,ht,e1,e2,e3,e4,e5,e6,e7,e8⟩
  all_goals first
   | (refine .inr ⟨Nz,?_,K6 EmN e4 (D5 _),iT hsp hcn (.inl hv)⟩;have e5:=e1;have e6:=e1;have ht:=e1)
   | refine .inr ⟨Nz,?_,K6 EmN e6 (D5 _),iT hsp hcn (.inr ht)⟩
   | refine .inl ⟨_,Nz,?_,K6 EmN e7 (D5 _),e8,hla,hlb,by simp,hv,ht⟩
  all_goals (rw [enter (sf:=f12) rfl rfl];simp (maxSteps:=3000000) [f12,C8,trD,G9,o9,l6,j3,x9,z8,O6 hm hl,C9,j6,o7,o8,J5,-eF,g1,len0,pan0,h3,h2000,p0,d0,g2,pan1,g3,pan2,y0,y1,y2,y3,z0,z0',z1,z1',z2,z2',z3,z3',p1,d1,g5,pan3,g6,pan4,hld,O6 hm3 lim3,isVoid,dI,I6,Y0,Z0,Y1,Z1,Y2,Z2,Y3,Z3,Y4,Z4,Y5,Z5,Y6,Z6,Y7,Z7,g7,st,pa7,pb7,ca7,cb7,Z0',Z1',Z2',Z3',Z4',gqN,e1,e2,e3,e4,e5,e6,ht])
 ·subst hk
  have Ev:=D8 hm6 [.void]
  obtain⟨n0,m7,g7,E7,o5⟩:=MC (w:=w1) (ws:=ws1) Ev.ok (by rw [Ev.lim];have:=Ev.next;omega) (by rw [← ew1];exact ((o3.vs).ext E6).ext Ev) (fun x hx=>by have:=sm1 x (by rw [ew1];exact hx);omega) (by rw [← ew1];omega) 0 (by omega) (n+16) fu hfu
  have g7:D6 KW fu (n+18) (.func 43) [v2,.int .i64 0] (ext m6 [.void])=some [⟨n0,m7⟩]:=g7
  rw [← ew1] at o5
  have hW:(splitB 32 l1).length=ws1.length+1:=by rw [ew1];rfl
  have hnl:(dD (splitB 32 l1) 0).length=ws1.length:=by rw [ew1];simp [dD,DU]
  obtain⟨vL,blk,hSl,hcase⟩:=Vz o5 (k:=min ((splitB 32 l1).length-1) 1) (by rw [hnl,hW];omega) m6.next
  have vv:(ext m6 [.void]).get m6.next=some .void:=by rw [l5 hm6];rfl
  have v7:m7.get m6.next=some .void:=by rw [E7.old _ (by simp)];exact vv
  have Z0v:ld1 ((ext m6 [.void]).get A0) B0=some (.int .i64 V0):=by rw [G6 hm6 _ X0];exact Z0
  have Z0':ld1 (m7.get A0) B0=some (.int .i64 V0):=by rw [E7.old _ (by simp;omega)];exact Z0v
  have hpan0:=fun {β:Type} (p:j5→β) q=>o5.vs.pan p q
  have len3:=o3.vs.len
  rw [R3,hW] at len3
  have c1w:w64 (((ws1.length+1:Nat):Int)-1)=((ws1.length:Nat):Int):=by rw [aN (by omega) (by omega)];omega
  have pm:∀(x y:OF) (ls:List j5) (env:T j5),x ls env=.int .i64 ((ws1.length:Nat):Int)→y ls env=.int .i64 1→pMm false x [y] ls env=some (.int .i64 ((min (ws1.length) 1:Nat):Int)):=fun x y ls env hx hy=>FT hx hy
  rw [hW,axG] at hSl
  generalize ((ws1.length+1:Nat):Int)=W1 at len3 c1w
  generalize ((min (ws1.length) 1:Nat):Int)=W2 at pm hSl
  generalize ((ws1.length:Nat):Int)=W3 at c1w pm
  have E67:Ext m6 m7:=Ev.trans E7
  have hlc:(((dD (splitB 32 l1) 0).drop (min ((splitB 32 l1).length-1) 1))).length<1000:=by simp [hnl];omega
  have hM:∃M:Mem,M=RN m7 m6.next blk∧Ext m6 M∧J5 vL=true∧vL.cells=[vL]∧(∀{β:Type} (p:j5→β) (q:β),kK vL p q=q)∧∀N:Mem,kL m3.next M N→(∀n rows,M.get m3.next≠some (.cells 1 n rows))→bW N vL ((dD (splitB 32 l1) 0).drop (min ((splitB 32 l1).length-1) 1)):=by
   rcases hcase with⟨rfl,hsl⟩ | ⟨id,rfl,rfl,hd⟩
   ·exact⟨m7,rfl,E67,hsl.J5,hsl.cells,fun p q=>hsl.pan p q,fun N XN no1=>bW.vg hsl XN no1⟩
   ·have hx7:m6.next<m7.next:=by have:=E7.next;simp at this;omega
    have EM:Ext m6 (m7.set m6.next (.tail id)):=⟨Mem.Ok.set E7.ok hx7 _,by simp;omega,by show m7.lim=_;exact E67.lim,fun i hi=>by rw [Mem.ay E7.ok hx7,if_neg (by omega)];exact E67.old i hi⟩
    exact⟨_,rfl,EM,rfl,rfl,fun p q=>rfl,fun N XN no1=>.inr ⟨(m6.next,0),.inr ⟨1,by rw [hd];rfl⟩,by have:=XN.next;simp at this;omega,.inl (by rw [hd])⟩⟩
  obtain⟨M,hMe,EM,hone,hcellL,hpanL,hslN⟩:=hM
  have nqM:m3.next<M.next:=by have:=EM.next;omega
  have hcM:M.get m3.next=some (A9 (zF K0 K1 K2 6).cells):=by rw [EM.old _ nq];exact hc6
  have EmM:=E06.trans EM
  obtain⟨N,st,gqN,XN⟩:=U9 (off:=28) (vs:=[.int .i64 V0,vL]) EM.ok nqM (by rw [EmM.lim];omega) hcM (by rw [Fct.len];simp) (by simp) (by simp [hone,show ∀k x,J5 (.int k x)=true from fun _ _=>rfl])
  have gqN:N.get m3.next=some (A9 ({zF K0 K1 K2 6 with mday:=V0,L:=vL}:Fct).cells):=gqN
  have gaN:N.get m.next=some (A9 zr):=by rw [XN.old _ (by omega) (by omega),EM.old _ (by omega)];exact ga6
  have EmN:Ext m N:=K6 EmM XN (by omega)
  have no1:∀n rows,M.get m3.next≠some (.cells 1 n rows):=fun n rows e=>by
   rw [hcM] at e
   exact FQ _ n rows (avA e)
  have hqN:m3.next<N.next:=avu nqM XN.next
  have haN:m.next<N.next:=by omega
  have hrN:eu N ⟨{zF K0 K1 K2 6 with mday:=V0,L:=vL},[],[],((dD (splitB 32 l1) 0).drop (min ((splitB 32 l1).length-1) 1))⟩:=⟨.inl ⟨rfl,rfl⟩,.inl ⟨rfl,rfl⟩,hslN N XN no1,⟨by simp [zF,M0],by simp [zF,M0]⟩,⟨by simp [zF,M0],by simp [zF,M0]⟩,by show aR K1;rw [hK1];exact iG _ _ _⟩
  rw [hMe] at st
  have hcn:(⟨{zF K0 K1 K2 6 with mday:=V0,L:=vL},[],[],((dD (splitB 32 l1) 0).drop (min ((splitB 32 l1).length-1) 1))⟩:FR).cn=mq l0 l1:=by
   have ek:∀a b c d:Int,(zF a b c d).kind=d:=fun _ _ _ _=>rfl
   unfold mq xw zf
   rw [← hK0,← hK1,← hK2,← hK3,← hV0]
   simp only [ek]
   rw [if_neg (show ¬ (6:Int)=1 from by decide),if_neg (show ¬ (6:Int)=2 from by decide),if_neg (show ¬ (6:Int)=3 from by decide),if_neg (show ¬ (6:Int)=4 from by decide),if_neg (show ¬ (6:Int)=5 from by decide)]
   first
    | rfl
    | (rw [if_pos trivial];rfl)
    | (rw [if_pos rfl];rfl)
  have hlimN:N.lim≤N.next:=by rw [EmN.lim];have:=EmN.next;omega
  rcases ko (s:=s) (a:=m.next) (q:=m3.next) EmN.ok hlimN hrN (by simp) (by simp) hlc hqN haN (by rw [EmN.lim];have:=E06.lim;omega) gqN gaN n fu (by omega) with⟨m8,Nz,hv,e1,e2,e3,e4⟩ | ⟨m8,m9,Nz,hv,ht,e1,e2,e3,e4,e5,e6⟩ | ⟨m8,m9,Nz,hv,ht,e1,e2,e3,e4,e5,e6,e7,e8⟩
  all_goals first
   | (refine .inr ⟨Nz,?_,K6 EmN e4 (D5 _),iT hsp hcn (.inl hv)⟩;have e5:=e1;have e6:=e1;have ht:=e1)
   | refine .inr ⟨Nz,?_,K6 EmN e6 (D5 _),iT hsp hcn (.inr ht)⟩
   | refine .inl ⟨_,Nz,?_,K6 EmN e7 (D5 _),e8,by simp,by simp,hlc,hv,ht⟩
  all_goals (rw [enter (sf:=f12) rfl rfl];simp (maxSteps:=3000000) [f12,C8,trD,G9,o9,l6,j3,x9,z8,O6 hm hl,C9,j6,o7,o8,J5,-eF,g1,len0,pan0,h3,h2000,p0,d0,g2,pan1,g3,pan2,y0,y1,y2,y3,z0,z0',z1,z1',z2,z2',z3,z3',p1,d1,g5,pan3,g6,pan4,hld,O6 hm3 lim3,isVoid,dI,I6,Y0,Z0,Y1,Z1,Y2,Z2,Y3,Z3,Y4,Z4,Y5,Z5,Y6,Z6,Y7,Z7,g7,st,hone,hcellL,hpanL,hpan0,len3,c1w,pm,hSl,MK,KS,v7,vv,Z0',Z0v,gqN,e1,e2,e3,e4,e5,e6,ht])
 ·subst hk
  obtain⟨N,st,gqN,XN⟩:=U9 (off:=30) (vs:=[.int .i64 V0,.int .i64 V1]) hm6 nq (by rw [E06.lim];omega) hc6 (by rw [Fct.len];simp) (by simp) rfl
  have gqN:N.get m3.next=some (A9 ({zF K0 K1 K2 7 with tr:=V0,tn:=V1}:Fct).cells):=gqN
  have gaN:N.get m.next=some (A9 zr):=by rw [XN.old _ (by omega) (by omega)];exact ga6
  have EmN:Ext m N:=K6 E06 XN (by omega)
  have hrN:eu N ⟨{zF K0 K1 K2 7 with tr:=V0,tn:=V1},[],[],[]⟩:=⟨.inl ⟨rfl,rfl⟩,.inl ⟨rfl,rfl⟩,.inl ⟨rfl,rfl⟩,⟨by simp [zF,M0],by simp [zF,M0]⟩,⟨by simp [zF,M0],by simp [zF,M0]⟩,by show aR K1;rw [hK1];exact iG _ _ _⟩
  have hqN:m3.next<N.next:=avu nq XN.next
  have haN:m.next<N.next:=by omega
  have hcn:(⟨{zF K0 K1 K2 7 with tr:=V0,tn:=V1},[],[],[]⟩:FR).cn=mq l0 l1:=by
   subst hK0 hK1 hK2 hV0 hV1 hV2 hV3 hV4 hV5 hV6 hV7
   unfold mq xw zf
   rw [← hK3]
   have ek:∀a b c d:Int,(zF a b c d).kind=d:=fun _ _ _ _=>rfl
   simp only [ek]
   first
    | rfl
    | (rw [if_neg (show ¬ (7:Int)=1 from by decide),if_neg (show ¬ (7:Int)=2 from by decide),if_neg (show ¬ (7:Int)=3 from by decide),if_neg (show ¬ (7:Int)=4 from by decide),if_neg (show ¬ (7:Int)=5 from by decide),if_neg (show ¬ (7:Int)=6 from by decide),if_pos rfl];rfl)
  have hlimN:N.lim≤N.next:=by rw [EmN.lim];have:=EmN.next;omega
  rcases ko (s:=s) (a:=m.next) (q:=m3.next) EmN.ok hlimN hrN (by simp) (by simp) (by simp) hqN haN (by rw [EmN.lim];have:=E06.lim;omega) gqN gaN n fu (by omega) with⟨m8,Nz,hv,e1,e2,e3,e4⟩ | ⟨m8,m9,Nz,hv,ht,e1,e2,e3,e4,e5,e6⟩ | ⟨m8,m9,Nz,hv,ht,e1,e2,e3,e4,e5,e6,e7,e8⟩
  all_goals first
   | (refine .inr ⟨Nz,?_,K6 EmN e4 (D5 _),iT hsp hcn (.inl hv)⟩;have e5:=e1;have e6:=e1;have ht:=e1)
   | refine .inr ⟨Nz,?_,K6 EmN e6 (D5 _),iT hsp hcn (.inr ht)⟩
   | refine .inl ⟨_,Nz,?_,K6 EmN e7 (D5 _),e8,by simp,by simp,by simp,hv,ht⟩
  all_goals (rw [enter (sf:=f12) rfl rfl];simp (maxSteps:=3000000) [f12,C8,trD,G9,o9,l6,j3,x9,z8,O6 hm hl,C9,j6,o7,o8,J5,-eF,g1,len0,pan0,h3,h2000,p0,d0,g2,pan1,g3,pan2,y0,y1,y2,y3,z0,z0',z1,z1',z2,z2',z3,z3',p1,d1,g5,pan3,g6,pan4,hld,O6 hm3 lim3,isVoid,dI,I6,Y0,Z0,Y1,Z1,Y2,Z2,Y3,Z3,Y4,Z4,Y5,Z5,Y6,Z6,Y7,Z7,st,gqN,e1,e2,e3,e4,e5,e6,ht])
 ·skip
  obtain⟨n1,n2,n3,n4k,n5,n6,n7⟩:=hk
  obtain⟨N,hN⟩:∃N,N=m6:=⟨_,rfl⟩
  have gqN:N.get m3.next=some (A9 (zF K0 K1 K2 K3).cells):=by rw [hN];exact hc6
  have gaN:N.get m.next=some (A9 zr):=by rw [hN];exact ga6
  have EmN:Ext m N:=by rw [hN];exact E06
  have hqN:m3.next<N.next:=by rw [hN];exact nq
  have haN:m.next<N.next:=by omega
  have hrN:eu N ⟨zF K0 K1 K2 K3,[],[],[]⟩:=⟨.inl ⟨rfl,rfl⟩,.inl ⟨rfl,rfl⟩,.inl ⟨rfl,rfl⟩,⟨by simp [zF,M0],by simp [zF,M0]⟩,⟨by simp [zF,M0],by simp [zF,M0]⟩,by show aR K1;rw [hK1];exact iG _ _ _⟩
  have hcn:(⟨zF K0 K1 K2 K3,[],[],[]⟩:FR).cn=mq l0 l1:=by
   have ek:∀a b c d:Int,(zF a b c d).kind=d:=fun _ _ _ _=>rfl
   unfold mq xw zf
   rw [← hK0,← hK1,← hK2,← hK3]
   simp only [ek]
   rw [if_neg n1,if_neg n2,if_neg n3,if_neg n4k,if_neg n5,if_neg n6,if_neg n7]
   rfl
  have hlimN:N.lim≤N.next:=by rw [EmN.lim];have:=EmN.next;omega
  rcases ko (s:=s) (a:=m.next) (q:=m3.next) EmN.ok hlimN hrN (by simp) (by simp) (by simp) hqN haN (by rw [EmN.lim];have:=E06.lim;omega) gqN gaN n fu (by omega) with⟨m8,Nz,hv,e1,e2,e3,e4⟩ | ⟨m8,m9,Nz,hv,ht,e1,e2,e3,e4,e5,e6⟩ | ⟨m8,m9,Nz,hv,ht,e1,e2,e3,e4,e5,e6,e7,e8⟩
  all_goals first
   | (refine .inr ⟨Nz,?_,K6 EmN e4 (D5 _),iT hsp hcn (.inl hv)⟩;have e5:=e1;have e6:=e1;have ht:=e1)
   | refine .inr ⟨Nz,?_,K6 EmN e6 (D5 _),iT hsp hcn (.inr ht)⟩
   | refine .inl ⟨_,Nz,?_,K6 EmN e7 (D5 _),e8,by simp,by simp,by simp,hv,ht⟩
  all_goals (rw [enter (sf:=f12) rfl rfl];simp (maxSteps:=3000000) [f12,C8,trD,G9,o9,l6,j3,x9,z8,O6 hm hl,C9,j6,o7,o8,J5,-eF,g1,len0,pan0,h3,h2000,p0,d0,g2,pan1,g3,pan2,y0,y1,y2,y3,z0,z0',z1,z1',z2,z2',z3,z3',p1,d1,g5,pan3,g6,pan4,hld,O6 hm3 lim3,isVoid,dI,I6,Y0,Z0,Y1,Z1,Y2,Z2,Y3,Z3,Y4,Z4,Y5,Z5,Y6,Z6,Y7,Z7,show (zF K0 K1 K2 K3).kind=K3 from rfl,n1,n2,n3,n4k,n5,n6,n7,← hN,gqN,e1,e2,e3,e4,e5,e6,ht])
end Go.Proofs.YtfnlnpllpfhhnaaGreatDoor.TT
